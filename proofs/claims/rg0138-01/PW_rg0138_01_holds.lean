import PyProof.Rows.All
import Wide.All
import OpenK.AllK
import Wide.FinOn
import KE.KLam
import PyProof.ExcAttrAll.Exception
import Lean
import PySem.Challenge.RW_rg0138_01
set_option compiler.extract_closed false
set_option genSizeOf false
set_option genInjectivity false
section
open PySem PySem.W PyProof.Rows
set_option Elab.async false
set_option maxRecDepth 100000
set_option maxHeartbeats 8000000
namespace Mine
namespace hx
theorem tw1304615971110351613 : True := trivial
theorem tw9203262823472262808 : True := trivial
theorem tw15222671194020912597 : True := trivial
theorem tw10786252781723780717 : True := trivial
theorem tw11153406825157011147 : True := trivial
theorem tw4396568497912434250 : True := trivial
theorem tw7856333880906944196 : True := trivial
theorem tw34971102862420792 : True := trivial
theorem tw8591088177582840138 : True := trivial
theorem tw3696960078455213082 : True := trivial
theorem tw1326067736672580545 : True := trivial
theorem tw1513396286026484958 : True := trivial
theorem tw8294567603793468075 : True := trivial
theorem tw2492048929613541025 : True := trivial
theorem tw16194197300274779544 : True := trivial
theorem tw16058991070295768540 : True := trivial
theorem tw512089013297016134 : True := trivial
theorem tw7522427195449491447 : True := trivial
theorem tw2358503780328766540 : True := trivial
theorem tw11516083673652718094 : True := trivial
theorem tw17812654206654028429 : True := trivial
theorem tw17856124449301371744 : True := trivial
theorem tw2933574226750363228 : True := trivial
theorem tw4439321647937447777 : True := trivial
theorem tw3105936464211144054 : True := trivial
theorem tw2296798500458606327 : True := trivial
theorem tw15452625738276066833 : True := trivial
theorem tw5060404574720663952 : True := trivial
theorem tw8153351105357841641 : True := trivial
theorem tw10483263613327836230 : True := trivial
theorem tw12203261482158421150 : True := trivial
theorem tw11680442082056081124 : True := trivial
theorem tw13051606616835114215 : True := trivial
theorem tw8492490618434649289 : True := trivial
theorem tw14728151803300476778 : True := trivial
theorem tw9274210203733589373 : True := trivial
theorem tw5012581791309765258 : True := trivial
theorem tw5835382612795334523 : True := trivial
theorem tw3936574193395988776 : True := trivial
theorem tw18119002219515010161 : True := trivial
theorem tw12687398731603832505 : True := trivial
theorem tw10089113472772384774 : True := trivial
theorem tw6150637109426312374 : True := trivial
theorem tw9161127719534841658 : True := trivial
theorem tw12866121850660868255 : True := trivial
theorem tw12592994705595984505 : True := trivial
theorem tw12244323609287083244 : True := trivial
theorem tw14292547228490471781 : True := trivial
theorem tw17682533232276427782 : True := trivial
theorem tw663216957817655072 : True := trivial
theorem tw3021835603291095840 : True := trivial
theorem tw3127049559752940807 : True := trivial
theorem tw14938798612039523107 : True := trivial
theorem tw10595839521171088435 : True := trivial
theorem tw1210530748395591148 : True := trivial
theorem tw288411641489606368 : True := trivial
theorem tw2559257357635606366 : True := trivial
theorem tw313783033510757027 : True := trivial
theorem tw11413205744277866631 : True := trivial
theorem tw7876969669924440321 : True := trivial
theorem tw4133137860965282509 : True := trivial
theorem tw2927320300579833983 : True := trivial
theorem tw14264558840923773697 : True := trivial
theorem tw16600827452279821873 : True := trivial
theorem tw17940026834042610067 : True := trivial
theorem tw13574767429253134702 : True := trivial
theorem tw3548908381971391680 : True := trivial
theorem tw10116244012155279326 : True := trivial
theorem tw15513907674853377026 : True := trivial
theorem tw8435280521333064917 : True := trivial
theorem tw13461288425266067717 : True := trivial
theorem tw634369046800973281 : True := trivial
theorem tw1106535952462682261 : True := trivial
theorem tw9733707994341241046 : True := trivial
theorem tw2063962012853046974 : True := trivial
theorem tw8526741685566437804 : True := trivial
theorem tw16751661018229691023 : True := trivial
theorem tw10027257451656575460 : True := trivial
theorem tw2530950033039335674 : True := trivial
theorem tw6661460279421622568 : True := trivial
theorem tw7864485984771250624 : True := trivial
theorem tw11074221192868344092 : True := trivial
theorem tw14304415443402900283 : True := trivial
theorem tw11654316357038136316 : True := trivial
theorem tw7336779333470613504 : True := trivial
theorem tw1628044414854275119 : True := trivial
theorem tw8848062868709305014 : True := trivial
theorem tw7891766511613034010 : True := trivial
theorem tw17957411485211015398 : True := trivial
theorem tw12886684066980348408 : True := trivial
theorem tw8069092538493481521 : True := trivial
theorem tw4277992108151645805 : True := trivial
theorem tw13764951562285276426 : True := trivial
theorem tw10775750784532548772 : True := trivial
theorem tw17478428059220288493 : True := trivial
theorem tw4400082454429041863 : True := trivial
theorem tw2194386836789649628 : True := trivial
theorem tw8135493339603401687 : True := trivial
theorem tw13251139996166171883 : True := trivial
theorem tw7445733027249461639 : True := trivial
theorem tw4081245987573513101 : True := trivial
theorem tw1352479365382649514 : True := trivial
theorem tw5486498298220157551 : True := trivial
theorem tw16079891391960428673 : True := trivial
theorem tw13360980773314081272 : True := trivial
theorem tw8174265049933217202 : True := trivial
theorem tw17365841796568000854 : True := trivial
theorem tw13047111702688295373 : True := trivial
theorem tw6814150269638858196 : True := trivial
theorem tw558561146864003076 : True := trivial
theorem tw2618490190428073017 : True := trivial
theorem tw9313591890549905059 : True := trivial
theorem tw5834209850536974553 : True := trivial
theorem tw13959426194186691099 : True := trivial
theorem tw13749484987094174940 : True := trivial
theorem tw16889384090722931010 : True := trivial
theorem tw12531592957024129060 : True := trivial
theorem tw8626315453904953860 : True := trivial
theorem tw13516186739440186774 : True := trivial
theorem tw3943997633466964473 : True := trivial
theorem tw15396066670179936615 : True := trivial
theorem tw8089808293607095345 : True := trivial
theorem tw6768751125542400157 : True := trivial
theorem tw5517287800428746079 : True := trivial
theorem tw14324643134823393709 : True := trivial
theorem tw5751903802948610276 : True := trivial
theorem tw8013753438709209555 : True := trivial
theorem tw4567310155831165015 : True := trivial
theorem tw12281674026195278568 : True := trivial
theorem tw2786521351924353169 : True := trivial
theorem tw10704556739469484813 : True := trivial
theorem tw8866640492970853812 : True := trivial
theorem tw14640549305066258129 : True := trivial
theorem tw12632244236935671880 : True := trivial
theorem tw3646117782734044179 : True := trivial
theorem tw13507109222748178385 : True := trivial
theorem tw13028522948772262508 : True := trivial
theorem tw3767164605852734177 : True := trivial
theorem tw4518221268279412019 : True := trivial
theorem tw13396310773797896340 : True := trivial
theorem tw5707194690098638471 : True := trivial
theorem tw13380458749892599093 : True := trivial
theorem tw14885436537357200447 : True := trivial
theorem tw4327957577253540203 : True := trivial
theorem tw8680568747675894556 : True := trivial
theorem tw3373189247971503177 : True := trivial
theorem tw4870609095116367995 : True := trivial
theorem tw358558379371031262 : True := trivial
theorem tw13173629366862862663 : True := trivial
theorem tw16625174259953595169 : True := trivial
theorem tw11442105100669052236 : True := trivial
theorem tw10195535451318777656 : True := trivial
theorem tw2598453218603719200 : True := trivial
theorem tw1206601256437087541 : True := trivial
theorem tw2951018021206863066 : True := trivial
theorem tw17224703828522220382 : True := trivial
theorem tw9776661771263451771 : True := trivial
theorem tw10321924814751884951 : True := trivial
theorem tw6444759291126645529 : True := trivial
theorem tw17769805437143071325 : True := trivial
theorem tw10143001506211119355 : True := trivial
theorem tw5557744672519427172 : True := trivial
theorem tw15369465458315143963 : True := trivial
theorem tw4149262921692028645 : True := trivial
theorem tw15446179714025208549 : True := trivial
theorem tw3986090183591653432 : True := trivial
theorem tw3089318795281737075 : True := trivial
theorem tw16401775577440721349 : True := trivial
theorem tw8689431418697317241 : True := trivial
theorem tw1837536587343590555 : True := trivial
theorem tw13348707166376220045 : True := trivial
theorem tw2287549446805351391 : True := trivial
theorem tw10413734220558041264 : True := trivial
theorem tw9504622745713830366 : True := trivial
theorem tw15260478145775685171 : True := trivial
theorem tw7858511112392649459 : True := trivial
theorem tw15573648297817959892 : True := trivial
theorem tw17436559092727719069 : True := trivial
theorem tw15213902172151032383 : True := trivial
theorem tw5254150876798236439 : True := trivial
theorem tw12036669265036031014 : True := trivial
theorem tw11906715856835866592 : True := trivial
theorem tw10783724793558456354 : True := trivial
theorem tw12770057050171300576 : True := trivial
theorem tw4027200573524075328 : True := trivial
theorem tw9876543146211162787 : True := trivial
theorem tw7034298128997996108 : True := trivial
theorem tw16166368621782959301 : True := trivial
theorem tw1343601587134825943 : True := trivial
theorem tw11855829562293527186 : True := trivial
theorem tw11542809368468670571 : True := trivial
theorem tw990764820897086996 : True := trivial
theorem tw484179904497135155 : True := trivial
theorem tw9691422183254027723 : True := trivial
theorem tw11153277219916700167 : True := trivial
theorem tw11108718026129502348 : True := trivial
theorem tw13970432741380693950 : True := trivial
theorem tw3035972135482712479 : True := trivial
theorem tw6930950759929274386 : True := trivial
theorem tw9592554324860578136 : True := trivial
theorem tw10782636077873877296 : True := trivial
theorem tw2722494911219165771 : True := trivial
theorem tw17034685950025090854 : True := trivial
theorem tw584368869492153410 : True := trivial
theorem tw9408370375254774644 : True := trivial
theorem tw3809554658679441229 : True := trivial
theorem tw8210334511716523686 : True := trivial
theorem tw3142173257544734753 : True := trivial
theorem tw8652588082031224057 : True := trivial
theorem tw17453721029707611201 : True := trivial
theorem tw4283430462085702152 : True := trivial
theorem tw1709533345360563255 : True := trivial
theorem tw15857467098338783936 : True := trivial
theorem tw13842006007023724538 : True := trivial
theorem tw616740878971486716 : True := trivial
theorem tw2258324389533410429 : True := trivial
theorem tw17454577913403430252 : True := trivial
theorem tw3864814513713628098 : True := trivial
theorem tw8720997637451098481 : True := trivial
theorem tw8462949007004437653 : True := trivial
theorem tw8047289358820287197 : True := trivial
theorem tw13726367727983386747 : True := trivial
theorem tw14044817671008982184 : True := trivial
theorem tw9071423850677124175 : True := trivial
theorem tw9300793153402489460 : True := trivial
theorem tw13100434611214814302 : True := trivial
theorem tw11803736057804005719 : True := trivial
theorem tw6272355060770995885 : True := trivial
theorem tw18163383231904437410 : True := trivial
theorem tw17080153362635259050 : True := trivial
theorem tw2051001751573004679 : True := trivial
theorem tw4943545995465237767 : True := trivial
theorem tw576899675763343441 : True := trivial
theorem tw15902653346226055279 : True := trivial
theorem tw11910161050144801243 : True := trivial
theorem tw9229111910879503682 : True := trivial
theorem tw9410930895886830851 : True := trivial
theorem tw14626987222883238387 : True := trivial
theorem tw5145643837290298106 : True := trivial
theorem tw14780050976537163602 : True := trivial
theorem tw3064612590093021604 : True := trivial
theorem tw6897596897191844616 : True := trivial
theorem tw2191687581829716119 : True := trivial
theorem tw5279657954283368098 : True := trivial
theorem tw6119721936978453658 : True := trivial
theorem tw856499453091330405 : True := trivial
theorem tw15882349035831147880 : True := trivial
theorem tw15387523616183901717 : True := trivial
theorem tw11501113234145657499 : True := trivial
theorem tw1384209119611808009 : True := trivial
theorem tw2666575348641732755 : True := trivial
theorem tw17918300852641414766 : True := trivial
theorem tw17288500401979066083 : True := trivial
theorem tw2822385975729611342 : True := trivial
theorem tw10824229777759904600 : True := trivial
theorem tw1011593914326734453 : True := trivial
theorem tw16509932877354490577 : True := trivial
theorem tw8009842355212673226 : True := trivial
theorem tw1890682559011639224 : True := trivial
theorem tw440200682837978379 : True := trivial
theorem tw9819894657917094784 : True := trivial
theorem tw15964317271155168136 : True := trivial
theorem tw15142553430523701620 : True := trivial
theorem tw4951867800294161291 : True := trivial
theorem tw3376783596681068269 : True := trivial
theorem tw11031246882950601735 : True := trivial
theorem tw15215796203213042296 : True := trivial
theorem tw15283793992842430438 : True := trivial
theorem tw4149058065308597245 : True := trivial
theorem tw4496917712743702866 : True := trivial
theorem tw17790623993939992718 : True := trivial
theorem tw2246114198807911332 : True := trivial
theorem tw12112647759870957014 : True := trivial
theorem tw2660992353704633501 : True := trivial
theorem tw14013666240027854082 : True := trivial
theorem tw12223445727089935259 : True := trivial
theorem tw12053443967700797207 : True := trivial
theorem tw8072070048918887560 : True := trivial
theorem tw16617463825281310940 : True := trivial
theorem tw4736886695178322556 : True := trivial
theorem tw13307316372228832604 : True := trivial
theorem tw3461369719786860586 : True := trivial
theorem tw12377959399836290067 : True := trivial
theorem tw2448402593769926005 : True := trivial
theorem tw9166759312617231822 : True := trivial
theorem tw432897219053493142 : True := trivial
theorem tw8177863064353930860 : True := trivial
theorem tw6776692331446987615 : True := trivial
theorem tw13913423702112267812 : True := trivial
theorem tw15880504448479711350 : True := trivial
theorem tw17809212181156274236 : True := trivial
theorem tw122895109851674273 : True := trivial
theorem tw1749809594243765621 : True := trivial
theorem tw8801481476271892115 : True := trivial
theorem tw12719230770575069387 : True := trivial
theorem tw16174250225865239651 : True := trivial
theorem tw1222905585969095851 : True := trivial
theorem tw12796349732060051669 : True := trivial
theorem tw13835724759982542066 : True := trivial
theorem tw6061844814560656316 : True := trivial
theorem tw13923397955430767758 : True := trivial
theorem tw1247705991542527101 : True := trivial
theorem tw16403607636861804150 : True := trivial
theorem tw6381170856756570040 : True := trivial
theorem tw13458227961471406816 : True := trivial
theorem tw2923197144701775926 : True := trivial
theorem tw2024369426084107867 : True := trivial
theorem tw5998669950235049177 : True := trivial
theorem tw3275178236903027326 : True := trivial
theorem tw13550084529305936786 : True := trivial
theorem tw8004840352746629528 : True := trivial
theorem tw11213325380585884853 : True := trivial
theorem tw8063799498105216150 : True := trivial
theorem tw75286811257347183 : True := trivial
theorem tw15607260501993015751 : True := trivial
theorem tw688426785669630529 : True := trivial
theorem tw14897263000708364615 : True := trivial
theorem tw17039554997033918745 : True := trivial
theorem tw16940700322699712139 : True := trivial
theorem tw2960456510772831355 : True := trivial
theorem tw3497297687653118206 : True := trivial
theorem tw10845754883667174203 : True := trivial
theorem tw11874976274172590891 : True := trivial
theorem tw4003515419551643288 : True := trivial
theorem tw6515252487656556794 : True := trivial
theorem tw10442284284707275710 : True := trivial
theorem tw12485916779449614927 : True := trivial
theorem tw2101144305115712416 : True := trivial
theorem tw6700631356736508036 : True := trivial
theorem tw18214102734720347575 : True := trivial
theorem tw16937982806788184370 : True := trivial
theorem tw764732042479237497 : True := trivial
theorem tw17310053308393668724 : True := trivial
theorem tw8812941233019382706 : True := trivial
theorem tw6649000586521064083 : True := trivial
theorem tw11068126759796092325 : True := trivial
theorem tw12870832547070010083 : True := trivial
theorem tw17589684436434577441 : True := trivial
theorem tw5074251886428752240 : True := trivial
theorem tw12140050572465161888 : True := trivial
theorem tw17882310838744935415 : True := trivial
theorem tw4032430191049862950 : True := trivial
theorem tw4232555702244796835 : True := trivial
theorem tw145932963246128051 : True := trivial
theorem tw12445940973143799526 : True := trivial
theorem tw540753489051694059 : True := trivial
theorem tw6648627237480388862 : True := trivial
theorem tw14992983214800064602 : True := trivial
theorem tw3264777137382535416 : True := trivial
theorem tw17611544470015189544 : True := trivial
theorem tw6810358813687007468 : True := trivial
theorem tw9440667166201527827 : True := trivial
theorem tw3803119400003127940 : True := trivial
theorem tw12934927632614500181 : True := trivial
theorem tw4311935586957980807 : True := trivial
theorem tw1680849517792564725 : True := trivial
theorem tw12047900415351236395 : True := trivial
theorem tw16503685224865804450 : True := trivial
theorem tw5475936251782762557 : True := trivial
theorem tw7160101362082823129 : True := trivial
theorem tw16439351170449580089 : True := trivial
theorem tw4778239293986166988 : True := trivial
theorem tw10608150008125927267 : True := trivial
theorem tw13593828154612893309 : True := trivial
theorem tw8368798856109363619 : True := trivial
theorem tw16294087361379835962 : True := trivial
theorem tw2924628002121016683 : True := trivial
theorem tw8918006350611020791 : True := trivial
theorem tw10385972291305524515 : True := trivial
theorem tw18439033083047412173 : True := trivial
theorem tw17832744011254776289 : True := trivial
theorem tw17281397238847051628 : True := trivial
theorem tw919350103801827390 : True := trivial
theorem tw7118774718363930462 : True := trivial
theorem tw10636867075115427920 : True := trivial
theorem tw17557955846509285157 : True := trivial
theorem tw1510941156237703019 : True := trivial
theorem tw4082656235138070203 : True := trivial
theorem tw929041136397781899 : True := trivial
theorem tw16220354117797179089 : True := trivial
theorem tw9800911950683423043 : True := trivial
theorem tw7611442656274437139 : True := trivial
theorem tw8719310546069769394 : True := trivial
theorem tw9580440979016352591 : True := trivial
theorem tw15343754591034969740 : True := trivial
theorem tw13418063953174990607 : True := trivial
theorem tw4790614838382506437 : True := trivial
theorem tw16447564128994577934 : True := trivial
theorem tw10099382267163970797 : True := trivial
theorem tw3787666990311124380 : True := trivial
theorem tw10872142100059809350 : True := trivial
theorem tw4994087634880098733 : True := trivial
theorem tw14653772343310069545 : True := trivial
theorem tw4835485041952420608 : True := trivial
theorem tw10918413460159112602 : True := trivial
theorem tw1273976805293772973 : True := trivial
theorem tw16842200711778894795 : True := trivial
theorem tw4073450862890528463 : True := trivial
theorem tw2580623763806008135 : True := trivial
theorem tw14288243738381440493 : True := trivial
theorem tw8958890896562605561 : True := trivial
theorem tw8725880175513150802 : True := trivial
theorem tw2404936290449931907 : True := trivial
theorem tw5987738072841988675 : True := trivial
theorem tw8791178820788453978 : True := trivial
theorem tw9464382187203803050 : True := trivial
theorem tw14364110991727458282 : True := trivial
theorem tw12687340035147016154 : True := trivial
theorem tw18364815469964950118 : True := trivial
theorem tw15426637738626486864 : True := trivial
theorem tw4216420034110358939 : True := trivial
theorem tw17731984463975473917 : True := trivial
theorem tw12821517133369311258 : True := trivial
theorem tw811370354263480444 : True := trivial
theorem tw18075650540444998648 : True := trivial
theorem tw2533170188022924913 : True := trivial
theorem tw6905475023927656221 : True := trivial
theorem tw8427485113769799218 : True := trivial
theorem tw4354268403484682475 : True := trivial
theorem tw5044532516427930034 : True := trivial
theorem tw3399369771803692982 : True := trivial
theorem tw6346493079076818392 : True := trivial
theorem tw14737546165473383909 : True := trivial
theorem tw5254291218172806239 : True := trivial
theorem tw14564351093087913541 : True := trivial
theorem tw17890773333300578521 : True := trivial
theorem tw1633863039109725667 : True := trivial
theorem tw13971606217225975180 : True := trivial
theorem tw16051292036045715728 : True := trivial
theorem tw17271321868219357104 : True := trivial
theorem tw10516643663288343842 : True := trivial
theorem tw5033423968699698886 : True := trivial
theorem tw5286479519828484009 : True := trivial
theorem tw7820420391224187335 : True := trivial
theorem tw15847444086296491327 : True := trivial
theorem tw16876156297239570298 : True := trivial
theorem tw12677999345953698985 : True := trivial
theorem tw15223712253771690232 : True := trivial
theorem tw4466506141736074018 : True := trivial
theorem tw7135545248255827829 : True := trivial
theorem tw551878033868750631 : True := trivial
theorem tw3296267005824016447 : True := trivial
theorem tw12030256587067620103 : True := trivial
theorem tw11831106913802473199 : True := trivial
theorem tw11828892080821551344 : True := trivial
theorem tw11648549221805079087 : True := trivial
theorem tw10916607958114097716 : True := trivial
theorem tw5546299256372968745 : True := trivial
theorem tw18246513400157920875 : True := trivial
theorem tw17925394340532287749 : True := trivial
theorem tw11511833604947660874 : True := trivial
theorem tw12468477851486761982 : True := trivial
theorem tw4036626835755369765 : True := trivial
theorem tw8916866690797206258 : True := trivial
theorem tw1359767371040273477 : True := trivial
theorem tw9728688711462037987 : True := trivial
theorem tw5003379905787062580 : True := trivial
theorem tw18436989916982367924 : True := trivial
theorem tw18021650032858729757 : True := trivial
theorem tw3228090532262280768 : True := trivial
theorem tw16584103675982884176 : True := trivial
theorem tw1415654423932628287 : True := trivial
theorem tw16123065961656689723 : True := trivial
theorem tw6094537120995972945 : True := trivial
theorem tw5230821695279976462 : True := trivial
theorem tw9375360588515080113 : True := trivial
theorem tw17573937718456619690 : True := trivial
theorem tw3151352308241419672 : True := trivial
theorem tw9538226051533269152 : True := trivial
theorem tw7364302247463330332 : True := trivial
theorem tw2736625963029525553 : True := trivial
theorem tw3287984282217807052 : True := trivial
theorem tw11235557421540341822 : True := trivial
theorem tw15495526600766341446 : True := trivial
theorem tw13887421244684101553 : True := trivial
theorem tw53671048762403245 : True := trivial
theorem tw7448076970475776704 : True := trivial
theorem tw14648767878841662682 : True := trivial
theorem tw2345487744653432563 : True := trivial
theorem tw11583711831427307319 : True := trivial
theorem tw8146969407493219791 : True := trivial
theorem tw14618633012687346700 : True := trivial
theorem tw16168019790947101984 : True := trivial
theorem tw14402270793460099290 : True := trivial
theorem tw16643836350129843882 : True := trivial
theorem tw17158850808337323685 : True := trivial
theorem tw11186278346458651885 : True := trivial
theorem tw15871474243252748558 : True := trivial
theorem tw4774948093478016081 : True := trivial
theorem tw7271874215164270623 : True := trivial
theorem tw11225323065111277595 : True := trivial
theorem tw1034031299089687968 : True := trivial
theorem tw3476191433996461152 : True := trivial
theorem tw857691276175789518 : True := trivial
theorem tw11868710178002341650 : True := trivial
theorem tw2848357750357388338 : True := trivial
theorem tw3055073173289775447 : True := trivial
theorem tw8316978927428267617 : True := trivial
theorem tw899982699746041680 : True := trivial
theorem tw13957897452677230658 : True := trivial
theorem tw16896803200496902077 : True := trivial
theorem tw15020162214462287587 : True := trivial
theorem tw15377445910829238176 : True := trivial
theorem tw8339939058450410749 : True := trivial
theorem tw8280520150143245440 : True := trivial
theorem tw12971980108649762115 : True := trivial
theorem tw388132459636744785 : True := trivial
theorem tw6663271504411264886 : True := trivial
theorem tw13167229442138870257 : True := trivial
theorem tw3950329949160742250 : True := trivial
theorem tw13806454070660350921 : True := trivial
theorem tw6030892366491303188 : True := trivial
theorem tw3289709261027852024 : True := trivial
theorem tw2504348554245470067 : True := trivial
theorem tw8683918616840425538 : True := trivial
theorem tw12840931332580689146 : True := trivial
theorem tw6207179915725765719 : True := trivial
theorem tw8544166382267797135 : True := trivial
theorem tw12316986716782704333 : True := trivial
theorem tw13632848519707291393 : True := trivial
theorem tw1277046806435012942 : True := trivial
theorem tw17651295008732575174 : True := trivial
theorem tw7433385755784711104 : True := trivial
theorem tw14702946807805543658 : True := trivial
theorem tw16653890388018469145 : True := trivial
theorem tw3017716237796050085 : True := trivial
theorem tw7105652820812284432 : True := trivial
theorem tw10877914472530759936 : True := trivial
theorem tw15420093970062846795 : True := trivial
theorem tw10259550172225532679 : True := trivial
theorem tw14349752981382075830 : True := trivial
theorem tw16175857573809386902 : True := trivial
theorem tw12287459468837230778 : True := trivial
theorem tw209585131044431783 : True := trivial
theorem tw17393156024033759196 : True := trivial
theorem tw13071191126500404010 : True := trivial
theorem tw17093792507239897499 : True := trivial
theorem tw11305424722482197239 : True := trivial
theorem tw2745991006798580251 : True := trivial
theorem tw8383832312975943185 : True := trivial
theorem tw16179723595558240676 : True := trivial
theorem tw13817252110603802430 : True := trivial
theorem tw12460776751494502404 : True := trivial
theorem tw829882407734958542 : True := trivial
theorem tw16044307587897543647 : True := trivial
theorem tw7196959931366684185 : True := trivial
theorem tw17871362266857658384 : True := trivial
theorem tw7590023021421854271 : True := trivial
theorem tw8492998933250839354 : True := trivial
theorem tw579933421156941401 : True := trivial
theorem tw15822566648252787351 : True := trivial
theorem tw5675339146475604060 : True := trivial
theorem tw14580385827833458236 : True := trivial
theorem tw17053829761978471420 : True := trivial
theorem tw12476055800596261357 : True := trivial
theorem tw15416837940088587490 : True := trivial
theorem tw162848155603439990 : True := trivial
theorem tw2077690074044854482 : True := trivial
theorem tw12545834286116690562 : True := trivial
theorem tw18112682675998309622 : True := trivial
theorem tw1122348294875185760 : True := trivial
theorem tw9115037031211061566 : True := trivial
theorem tw8724208511557814752 : True := trivial
theorem tw245388453786887242 : True := trivial
theorem tw5644764048023550207 : True := trivial
theorem tw12998825465883093567 : True := trivial
theorem tw10973832126581270915 : True := trivial
theorem tw14150925457611720700 : True := trivial
theorem tw5002266203513084153 : True := trivial
theorem tw15359127643436590004 : True := trivial
theorem tw3952756967378608505 : True := trivial
theorem tw9463795675075205437 : True := trivial
theorem tw16810214309375985759 : True := trivial
theorem tw9356179824560524543 : True := trivial
theorem tw6893509615905794137 : True := trivial
theorem tw14742731811885069116 : True := trivial
theorem tw9950984906565380895 : True := trivial
theorem tw4160627076559871361 : True := trivial
theorem tw6133227561448682836 : True := trivial
theorem tw3399465718499267812 : True := trivial
theorem tw6576187036372545591 : True := trivial
theorem tw8078265402885471976 : True := trivial
theorem tw8800404311707590821 : True := trivial
theorem tw5157400123132015144 : True := trivial
theorem tw663058311725963850 : True := trivial
theorem tw1906023392622491010 : True := trivial
theorem tw4601627501900363749 : True := trivial
theorem tw7494296812056875437 : True := trivial
theorem tw13343930504226383752 : True := trivial
theorem tw9960968122618143832 : True := trivial
theorem tw15719070241404046249 : True := trivial
theorem tw10844617037095632746 : True := trivial
theorem tw14412582317878784360 : True := trivial
theorem tw7462397087798485187 : True := trivial
theorem tw17197377076905342390 : True := trivial
theorem tw11133863230559657982 : True := trivial
theorem tw17842149565482381095 : True := trivial
theorem tw6948474134290792126 : True := trivial
theorem tw14693721518964817596 : True := trivial
theorem tw17264778694843096519 : True := trivial
theorem tw7421786164480996228 : True := trivial
theorem tw2201176655943343924 : True := trivial
theorem tw6645837424847773088 : True := trivial
theorem tw10147221347258369205 : True := trivial
theorem tw3854214851370498889 : True := trivial
theorem tw18288557733248936724 : True := trivial
theorem tw7010757331310601657 : True := trivial
theorem tw1658197193684275316 : True := trivial
theorem tw12122080299700438669 : True := trivial
theorem tw15571626766152387222 : True := trivial
theorem tw5151445886737355997 : True := trivial
theorem tw11388261020817367519 : True := trivial
theorem tw173491282623094914 : True := trivial
theorem tw6539906834269234583 : True := trivial
theorem tw1879972785478743596 : True := trivial
theorem tw8606624086045412448 : True := trivial
theorem tw1972047601138287618 : True := trivial
theorem tw10378792918218926003 : True := trivial
theorem tw3840107357115572158 : True := trivial
theorem tw15687806069674188760 : True := trivial
theorem tw2462484140620534453 : True := trivial
theorem tw11003829938115519260 : True := trivial
theorem tw13935590442657942151 : True := trivial
theorem tw3076748443876652520 : True := trivial
theorem tw11279161967884546433 : True := trivial
theorem tw10939141181510983603 : True := trivial
theorem tw12958973201736663512 : True := trivial
theorem tw2146883442004570292 : True := trivial
theorem tw30516888858077971 : True := trivial
theorem tw7086268270985402415 : True := trivial
theorem tw11113180872011636366 : True := trivial
theorem tw14344502140286423506 : True := trivial
theorem tw1383439101478763327 : True := trivial
theorem tw1090411510468800068 : True := trivial
theorem tw13055703173919293919 : True := trivial
theorem tw13984125778581839424 : True := trivial
theorem tw6571291060729986440 : True := trivial
theorem tw16562810249119712046 : True := trivial
theorem tw9957188378976831251 : True := trivial
theorem tw4459410774582096363 : True := trivial
theorem tw12294144641388205969 : True := trivial
theorem tw13285676348558272288 : True := trivial
theorem tw14317288427323871922 : True := trivial
theorem tw12389214559413477026 : True := trivial
theorem tw9876159777357936899 : True := trivial
theorem tw6951225809539125009 : True := trivial
theorem tw15064828747606803208 : True := trivial
theorem tw16650154691093803565 : True := trivial
theorem tw3146596328094197638 : True := trivial
theorem tw18025658111944671314 : True := trivial
theorem tw11950744475718057257 : True := trivial
theorem tw3923788489404985783 : True := trivial
theorem tw7411675879612560423 : True := trivial
theorem tw5663202204576575629 : True := trivial
theorem tw13994185481600150508 : True := trivial
theorem tw13328876942023701386 : True := trivial
theorem tw933441318110467940 : True := trivial
theorem tw16297621413855188116 : True := trivial
theorem tw10471693372546886218 : True := trivial
theorem tw1016313470199982537 : True := trivial
theorem tw11089877848252077935 : True := trivial
theorem tw4786497654422877938 : True := trivial
theorem tw7991351659645307184 : True := trivial
theorem tw6821187626703829088 : True := trivial
theorem tw15355825174561516462 : True := trivial
theorem tw6938760501003799309 : True := trivial
theorem tw11150338070433746062 : True := trivial
theorem tw4711357149551803662 : True := trivial
theorem tw14581080383437586561 : True := trivial
theorem tw13118943305402699759 : True := trivial
theorem tw3011061140052219710 : True := trivial
theorem tw15466940415637129421 : True := trivial
theorem tw1347916733764399252 : True := trivial
theorem tw14095971397211782968 : True := trivial
theorem tw7789537453598603269 : True := trivial
theorem tw8313235512025127698 : True := trivial
theorem tw7941273467993675305 : True := trivial
theorem tw1541562364700265154 : True := trivial
theorem tw15088012910613175391 : True := trivial
theorem tw14264482880347793263 : True := trivial
theorem tw11795387172512413407 : True := trivial
theorem tw18318817810866021139 : True := trivial
theorem tw4464470257532119317 : True := trivial
theorem tw17529849222839375082 : True := trivial
theorem tw380438602855622199 : True := trivial
theorem tw2056866998167769742 : True := trivial
theorem tw2102110745716259700 : True := trivial
theorem tw7575134019868595920 : True := trivial
theorem tw6103871502414683963 : True := trivial
theorem tw13742351995774673705 : True := trivial
theorem tw10450788274241771536 : True := trivial
theorem tw8307440872126120848 : True := trivial
theorem tw64630411898889128 : True := trivial
theorem tw16422446190411312259 : True := trivial
theorem tw4175529333879961053 : True := trivial
theorem tw13882606185055310181 : True := trivial
theorem tw16929762562273154506 : True := trivial
theorem tw10927994296842964546 : True := trivial
theorem tw8374021121780711109 : True := trivial
theorem tw1649579085508831400 : True := trivial
theorem tw13904747866207299807 : True := trivial
theorem tw9279888435216144913 : True := trivial
theorem tw15225155743707457426 : True := trivial
theorem tw2822907071458423533 : True := trivial
theorem tw12290247367946967264 : True := trivial
theorem tw5492716820719653743 : True := trivial
theorem tw7117039502732272165 : True := trivial
theorem tw18286160104727862462 : True := trivial
theorem tw17971117906851217387 : True := trivial
theorem tw11926272105270764117 : True := trivial
theorem tw17493533222571850228 : True := trivial
theorem tw10596243801935397713 : True := trivial
theorem tw7160642757287845954 : True := trivial
theorem tw15287070642824720929 : True := trivial
theorem tw2899951234114317963 : True := trivial
theorem tw15932340531052202542 : True := trivial
theorem tw7381783550449437068 : True := trivial
theorem tw1089165632158530400 : True := trivial
theorem tw4820356001183778062 : True := trivial
theorem tw5859954059831970930 : True := trivial
theorem tw15642498914273402183 : True := trivial
theorem tw4957977497641929111 : True := trivial
theorem tw1623351667710231897 : True := trivial
theorem tw7992169660659198757 : True := trivial
theorem tw15515426146827161799 : True := trivial
theorem tw16344473531126340893 : True := trivial
theorem tw3597224387928761530 : True := trivial
theorem tw9818837363699442920 : True := trivial
theorem tw14919038862432082165 : True := trivial
theorem tw14138387163557110853 : True := trivial
theorem tw2911593502983421243 : True := trivial
theorem tw14221590416393904004 : True := trivial
theorem tw3245460484126576377 : True := trivial
theorem tw13273623471580055978 : True := trivial
theorem tw6815985589519525316 : True := trivial
theorem tw1742656451142089649 : True := trivial
theorem tw6048745964160318464 : True := trivial
theorem tw17601551063327761115 : True := trivial
theorem tw6912957689366828898 : True := trivial
theorem tw292709383975957704 : True := trivial
theorem tw16294711505899339994 : True := trivial
theorem tw10864032600957282309 : True := trivial
theorem tw2753894884028247 : True := trivial
theorem tw11060124829600404249 : True := trivial
theorem tw14319195189009250854 : True := trivial
theorem tw4443683451718327492 : True := trivial
theorem tw6514015525448506650 : True := trivial
theorem tw4638685165426952821 : True := trivial
theorem tw5044738186272462081 : True := trivial
theorem tw12938584960106786947 : True := trivial
theorem tw1074516868807377101 : True := trivial
theorem tw3750262793593453663 : True := trivial
theorem tw17001873279354605088 : True := trivial
theorem tw12965826118423939856 : True := trivial
theorem tw6357707457550563748 : True := trivial
theorem tw286993547205191938 : True := trivial
theorem tw767136082746918875 : True := trivial
theorem tw568883250039891352 : True := trivial
theorem tw17440233237446270221 : True := trivial
theorem tw7291546937901893924 : True := trivial
theorem tw7720140264552646002 : True := trivial
theorem tw4178432983367478423 : True := trivial
theorem tw3169779510389522523 : True := trivial
theorem tw12544056204730560957 : True := trivial
theorem tw15102594672415386349 : True := trivial
theorem tw6386498509896015619 : True := trivial
theorem tw16043647936977262334 : True := trivial
theorem tw6745301757348478735 : True := trivial
theorem tw10307356883056191786 : True := trivial
theorem tw11576060578404032109 : True := trivial
theorem tw1445886391551537731 : True := trivial
theorem tw2035867306989460822 : True := trivial
theorem tw12392353606877693820 : True := trivial
theorem tw11071092168611881012 : True := trivial
theorem tw17967490135107311282 : True := trivial
theorem tw10606685759059100015 : True := trivial
theorem tw8360991337320666301 : True := trivial
theorem tw5602258624995510178 : True := trivial
theorem tw18215676871104998399 : True := trivial
theorem tw14963347970970158890 : True := trivial
theorem tw6526513203315070531 : True := trivial
theorem tw18141915107381044649 : True := trivial
theorem tw6047097596973096534 : True := trivial
theorem tw1358250369764232750 : True := trivial
theorem tw2171623322903362057 : True := trivial
theorem tw4248858188191011707 : True := trivial
theorem tw7257752904359908486 : True := trivial
theorem tw3772895889506965678 : True := trivial
theorem tw5279842073803342207 : True := trivial
theorem tw18383182533153586477 : True := trivial
theorem tw18376012014735405661 : True := trivial
theorem tw7168309623211571701 : True := trivial
theorem tw4588911655245665398 : True := trivial
theorem tw16514233136784977297 : True := trivial
theorem tw17433518216253938662 : True := trivial
theorem tw3363799594497527996 : True := trivial
theorem tw3221206007101484751 : True := trivial
theorem tw16831101020866358490 : True := trivial
theorem tw14817645703785147396 : True := trivial
theorem tw9986171129721700794 : True := trivial
theorem tw9425653185733914764 : True := trivial
theorem tw4826159377350640170 : True := trivial
theorem tw4709067958626073384 : True := trivial
theorem tw12943594393411517771 : True := trivial
theorem tw5797834762334671391 : True := trivial
theorem tw17122103796602941201 : True := trivial
theorem tw9376648975381460483 : True := trivial
theorem tw8201023514652866248 : True := trivial
theorem tw11398092985049769381 : True := trivial
theorem tw5220988169690193284 : True := trivial
theorem tw13418900697369464106 : True := trivial
theorem tw6234722803267601620 : True := trivial
theorem tw5831941663624143594 : True := trivial
theorem tw5548490626718368004 : True := trivial
theorem tw5302141714640544522 : True := trivial
theorem tw6661065052353065320 : True := trivial
theorem tw5258523180806066235 : True := trivial
theorem tw11465607834340801042 : True := trivial
theorem tw10665394928749936821 : True := trivial
theorem tw1930959741480660892 : True := trivial
theorem tw11652467807154655573 : True := trivial
theorem tw11902936363958999829 : True := trivial
theorem tw5229663503899665235 : True := trivial
theorem tw6836243782229160083 : True := trivial
theorem tw11685723148743647009 : True := trivial
theorem tw1100523350065315309 : True := trivial
theorem tw8576703452051888039 : True := trivial
theorem tw16053221933270867258 : True := trivial
theorem tw1765193833724418456 : True := trivial
theorem tw1514262835583746478 : True := trivial
theorem tw13001090167431948686 : True := trivial
theorem tw12064557612275603510 : True := trivial
theorem tw2434324634612665561 : True := trivial
theorem tw12876500496384970917 : True := trivial
theorem tw18094674753870784945 : True := trivial
theorem tw15784146693891255721 : True := trivial
theorem tw9728156084186220081 : True := trivial
theorem tw12103094082663812918 : True := trivial
theorem tw10610913765530660747 : True := trivial
theorem tw13611598617634704298 : True := trivial
theorem tw5818851180930991848 : True := trivial
theorem tw11300498958895695146 : True := trivial
theorem tw8373975629259593368 : True := trivial
theorem tw3247834149452360602 : True := trivial
theorem tw3126803895974666599 : True := trivial
theorem tw15725253850911379854 : True := trivial
theorem tw9974828092990910535 : True := trivial
theorem tw10403954177801633367 : True := trivial
theorem tw7778518709807883925 : True := trivial
theorem tw15462683395770930534 : True := trivial
theorem tw3722370046394560457 : True := trivial
theorem tw12087079219971932454 : True := trivial
theorem tw9494431549456366694 : True := trivial
theorem tw10805239673477678041 : True := trivial
theorem tw2378864547186472627 : True := trivial
theorem tw12764173250460046966 : True := trivial
theorem tw3457709029089074591 : True := trivial
theorem tw7385541598251207468 : True := trivial
theorem tw15031465929163138751 : True := trivial
theorem tw3278543650648579469 : True := trivial
theorem tw6225824510542169761 : True := trivial
theorem tw3448436965285196660 : True := trivial
theorem tw6472239261815649849 : True := trivial
theorem tw1937750371327377422 : True := trivial
theorem tw2868841428091204648 : True := trivial
theorem tw3423346011291521542 : True := trivial
theorem tw5973647403945334939 : True := trivial
theorem tw16503919762052067167 : True := trivial
theorem tw2049375122918656981 : True := trivial
theorem tw15587764676737728853 : True := trivial
theorem tw3762958163772505196 : True := trivial
end hx
theorem hxCut {T P : Prop} (_ : T) (h : P) : P := h
set_option Elab.async true in
theorem hx : True ∧ True := by
  clear hx
  simp only [(hxCut ?W (by as_aux_lemma => (w_on; o_law; as_aux_lemma => (k_head; (case hw => w_witness2); exact ?W))) : PySem.Challenge.rw_rg0138_01.Holds), and_self]
end Mine
end

section
open PySem PySem.W PySem.Calls PyProof.Rows
set_option Elab.async false
set_option linter.unusedVariables false
set_option autoImplicit true
set_option tactic.hygienic false
namespace Mine

theorem hideG {G : Prop} (h : ∀ R : Prop, (G → R) → R) : G := h G id
inductive ExEq {α β : Type} (f : α → β) (v : β) (K : α → Prop) : Prop
  | mk (i : α) (e : v = f i) (h : K i) : ExEq f v K
theorem ite_cases {α : Type} {p : Prop} [Decidable p] {x y w : α} (h : (if p then x else y) = w) : (p ∧ x = w) ∨ (¬p ∧ y = w) := by
  by_cases q : p
  · exact .inl ⟨q, (if_pos q).symm.trans h⟩
  · exact .inr ⟨q, (if_neg q).symm.trans h⟩

inductive V where
  | none | bool (b : Bool) | int (i : Int) | str (s : Str)
  | con (v : Value)
  | tup (vs : List V) | lst (vs : List V)
  | ins (C : Addr) (n : Nat)
  | ref (n : Nat)
  | pie (C : Addr) (c r : V)
  | rng (n : Int)

structure Wd where
  F : Addr → Option Obj
  ρ : Nat → Option Addr
  P : Addr → Option (Option Obj → Prop)

structure Wd.le (a b : Wd) : Prop where
  F : ∀ x o, a.F x = some o → b.F x = some o
  ρ : ∀ n x, a.ρ n = some x → b.ρ n = some x
  P : ∀ x m, a.P x = some m → b.P x = some m
theorem Wd.le.rfl' {W : Wd} : W.le W := ⟨fun _ _ h => h, fun _ _ h => h, fun _ _ h => h⟩
theorem Wd.le.trans {a b c : Wd} (x : a.le b) (y : b.le c) : a.le c := ⟨fun _ _ h => y.F _ _ (x.F _ _ h), fun _ _ h => y.ρ _ _ (x.ρ _ _ h), fun _ _ h => y.P _ _ (x.P _ _ h)⟩

noncomputable abbrev lstO (xs : List Value) (n : Nat) : Obj := { cls := .type "list", data := .seq xs.toArray n }
noncomputable abbrev tupO (xs : List Value) (n : Nat) : Obj := { cls := .type "tuple", data := .seq xs.toArray n }

inductive VR (W : Wd) : V → Value → Prop
  | none : VR W .none .none
  | bool {b} : VR W (.bool b) (.bool b)
  | int {i t} : VR W (.int i) (.int i t)
  | str {s t} : VR W (.str s) (.str s t)
  | con {v} : VR W (.con v) v
  | tup {a n vs xs} : W.F a = some (tupO xs n) → vs.length = xs.length → (∀ (i : Nat) v x, vs[i]? = some v → xs[i]? = some x → VR W v x) → VR W (.tup vs) (.ref a)
  | lst {a n vs xs} : W.F a = some (lstO xs n) → vs.length = xs.length → (∀ (i : Nat) v x, vs[i]? = some v → xs[i]? = some x → VR W v x) → VR W (.lst vs) (.ref a)
  | ins {a C d n} : W.F a = some (instObj C d) → W.ρ n = some d → VR W (.ins C n) (.ref a)
  | ref {a n} : W.ρ n = some a → VR W (.ref n) (.ref a)
  | pie {a C d es n c r vc vr} : W.F a = some (instObj C d) → W.F d = some (dictOf es n) → getL "codes" es = some (some vc) → getL "runs" es = some (some vr) → VR W c vc → VR W r vr → VR W (.pie C c r) (.ref a)
  | rng {a n t u v} : W.F a = some { cls := .type "range", dict := none, data := .fields #[.int 0 t, .int n u, .int 1 v], slots := #[] } → VR W (.rng n) (.ref a)

theorem VR.mono {W W' : Wd} (l : W.le W') {v : V} {x : Value} (h : VR W v x) : VR W' v x := by
  induction h with
  | none => exact .none
  | bool => exact .bool
  | int => exact .int
  | str => exact .str
  | con => exact .con
  | tup h1 h2 _ ih => exact .tup (l.F _ _ h1) h2 ih
  | lst h1 h2 _ ih => exact .lst (l.F _ _ h1) h2 ih
  | ins h1 h2 => exact .ins (l.F _ _ h1) (l.ρ _ _ h2)
  | ref h => exact .ref (l.ρ _ _ h)
  | pie h1 h2 h3 h4 _ _ i1 i2 => exact .pie (l.F _ _ h1) (l.F _ _ h2) h3 h4 i1 i2
  | rng h => exact .rng (l.F _ _ h)

noncomputable def VRi (W : Wd) (x : Value) : V → Prop
  | .none => x = .none
  | .bool b => x = .bool b
  | .int i => ∃ t, x = .int i t
  | .str s => ∃ t, x = .str s t
  | .con v => x = v
  | .tup vs => ∃ a n xs, x = .ref a ∧ W.F a = some (tupO xs n) ∧ vs.length = xs.length ∧ (∀ (i : Nat) v x, vs[i]? = some v → xs[i]? = some x → VR W v x)
  | .lst vs => ∃ a n xs, x = .ref a ∧ W.F a = some (lstO xs n) ∧ vs.length = xs.length ∧ (∀ (i : Nat) v x, vs[i]? = some v → xs[i]? = some x → VR W v x)
  | .ins C n => ∃ a d, x = .ref a ∧ W.F a = some (instObj C d) ∧ W.ρ n = some d
  | .ref n => ExEq Value.ref x fun a => W.ρ n = some a
  | .pie C c r => ∃ a d es n vc vr, x = .ref a ∧ W.F a = some (instObj C d) ∧ W.F d = some (dictOf es n) ∧ getL "codes" es = some (some vc) ∧ getL "runs" es = some (some vr) ∧ VR W c vc ∧ VR W r vr
  | .rng n => ∃ a t u v, x = .ref a ∧ W.F a = some { cls := .type "range", dict := none, data := .fields #[.int 0 t, .int n u, .int 1 v], slots := #[] }
theorem VR.inv {W : Wd} {v : V} {x : Value} (h : VR W v x) : VRi W x v := by
  induction h with
  | none => exact rfl
  | bool => exact rfl
  | int => exact ⟨_, rfl⟩
  | str => exact ⟨_, rfl⟩
  | con => exact rfl
  | tup h1 h2 h3 => exact ⟨_, _, _, rfl, h1, h2, h3⟩
  | lst h1 h2 h3 => exact ⟨_, _, _, rfl, h1, h2, h3⟩
  | ins h1 h2 => exact ⟨_, _, rfl, h1, h2⟩
  | ref h => exact ⟨_, rfl, h⟩
  | pie h1 h2 h3 h4 h5 h6 => exact ⟨_, _, _, _, _, _, rfl, h1, h2, h3, h4, h5, h6⟩
  | rng h => exact ⟨_, _, _, _, rfl, h⟩

noncomputable def VRs (W : Wd) (vs : List V) (xs : List Value) : Prop := vs.length = xs.length ∧ ∀ (i : Nat) v x, vs[i]? = some v → xs[i]? = some x → VR W v x
theorem VRs.mono {W W' : Wd} (l : W.le W') {vs xs} (h : VRs W vs xs) : VRs W' vs xs := ⟨h.1, fun i v x a b => (h.2 i v x a b).mono l⟩
theorem VRs.nil {W : Wd} : VRs W [] [] := ⟨rfl, fun i v x a _ => by simp at a⟩
theorem VRs.cons {W : Wd} {v x vs xs} (h : VR W v x) (t : VRs W vs xs) : VRs W (v :: vs) (x :: xs) :=
  ⟨by simp [t.1], fun i u y a b => by induction i with
    | zero => simp at a b; subst a b; exact h
    | succ i => simp at a b; exact t.2 i u y a b⟩
inductive ConsV (W : Wd) (v : V) (vs : List V) (ys : List Value) : Prop
  | mk (x : Value) (xs : List Value) (e : ys = x :: xs) (h : VR W v x) (t : VRs W vs xs) : ConsV W v vs ys
theorem VRs.cons_inv {W : Wd} {v vs ys} (h : VRs W (v :: vs) ys) : ConsV W v vs ys := by
  obtain ⟨l, h⟩ := h
  induction ys with
  | nil => simp at l
  | cons x xs => exact ⟨x, xs, rfl, h 0 v x (by simp) (by simp), by simpa using l, fun i u y a b => h (i + 1) u y (by simpa using a) (by simpa using b)⟩
theorem VRs.nil_inv {W : Wd} {ys} (h : VRs W [] ys) : ys = [] := by
  induction ys with
  | nil => rfl
  | cons => cases h.1
theorem VRs.app {W : Wd} {vs xs us ys} (h : VRs W vs xs) (t : VRs W us ys) : VRs W (vs ++ us) (xs ++ ys) := by
  refine ⟨by simp [h.1, t.1], fun i u y a b => ?_⟩
  by_cases hi : i < vs.length
  · rw [List.getElem?_append_left hi] at a
    rw [List.getElem?_append_left (h.1 ▸ hi)] at b
    exact h.2 i u y a b
  · rw [List.getElem?_append_right (Nat.le_of_not_lt hi)] at a
    rw [List.getElem?_append_right (h.1 ▸ Nat.le_of_not_lt hi), ← h.1] at b
    exact t.2 _ u y a b
set_option tactic.hygienic true in
theorem VRs.take {W : Wd} {vs xs} (h : VRs W vs xs) (k : Nat) : VRs W (vs.take k) (xs.take k) := by
  refine ⟨by simp [h.1], fun i u y a b => ?_⟩
  rw [List.getElem?_take] at a b
  split at a
  · rename_i hi; rw [if_pos hi] at b; exact h.2 i u y a b
  · exact nomatch a
theorem VRs.drop {W : Wd} {vs xs} (h : VRs W vs xs) (k : Nat) : VRs W (vs.drop k) (xs.drop k) := by
  refine ⟨by simp [h.1], fun i u y a b => ?_⟩
  rw [List.getElem?_drop] at a b
  exact h.2 _ u y a b
set_option tactic.hygienic true in
theorem VRs.set {W : Wd} {vs xs} (h : VRs W vs xs) (k : Nat) {v x} (hv : VR W v x) : VRs W (vs.set k v) (xs.set k x) := by
  refine ⟨by simp [h.1], fun i u y a b => ?_⟩
  rw [List.getElem?_set] at a b
  split at a
  · rename_i hk
    rw [if_pos hk] at b
    split at a
    · rename_i hl
      rw [if_pos (h.1 ▸ hl)] at b
      obtain rfl := Option.some.inj a; obtain rfl := Option.some.inj b; exact hv
    · exact nomatch a
  · rename_i hk; rw [if_neg hk] at b; exact h.2 i u y a b
theorem VRs.at {W : Wd} {vs xs} (h : VRs W vs xs) {i : Nat} {v} (e : vs[i]? = some v) : ExEq some xs[i]? (VR W v) := by
  have hi : i < xs.length := by
    rw [← h.1]; exact (List.getElem?_eq_some_iff.mp e).1
  exact ⟨xs[i], by simp [hi], h.2 i v _ e (by simp [hi])⟩
theorem VRs.lst {W : Wd} {a n vs xs} (e : W.F a = some (lstO xs n)) (h : VRs W vs xs) : VR W (.lst vs) (.ref a) := .lst e h.1 h.2
theorem VRs.tup {W : Wd} {a n vs xs} (e : W.F a = some (tupO xs n)) (h : VRs W vs xs) : VR W (.tup vs) (.ref a) := .tup e h.1 h.2

inductive MO where
  | ns (f : List (Str × V))
  | list (vs : List V)
  | imap (m : Int → Option V) (k : Nat)
  | smap (m : Str → Option V) (k : Nat)
  | cell (v : Option V)
  | clo (p : List Addr → Obj → (Addr → Option Obj) → Prop) (hm : ∀ as ob F F', (∀ x y, F x = some y → F' x = some y) → p as ob F → p as ob F') (cs : List Nat)

noncomputable def OR (W : Wd) : Option V → Option Value → Prop
  | none, none => True
  | some v, some x => VR W v x
  | _, _ => False

noncomputable def StrK (es : List DictEntry) : Prop := ∀ e ∈ es, ∃ n t, e.key = .str n t
noncomputable def fnd (y : Str) (es : List DictEntry) : Option Value := (es.find? (·.key.isStr y)).map (·.val)
theorem getL_fnd {es : List DictEntry} (h : StrK es) (y : Str) : getL y es = some (fnd y es) := by
  unfold getL fnd
  cases e : es.find? (·.key.isStr y) with
  | some x => rfl
  | none =>
    have : es.any (·.refKey) = false := by
      rw [List.any_eq_false]
      intro x hx
      obtain ⟨n, t, hk⟩ := h x hx
      simp [DictEntry.refKey, hk]
    simp [this]
noncomputable def NsR (W : Wd) (es : List DictEntry) (f : List (Str × V)) : Prop := es.length ≤ f.length ∧ StrK es ∧ ∀ x, OR W (f.lookup x) (fnd x es)

noncomputable def MR (c : Program) (w : World) (W : Wd) (h : Heap) (a : Addr) : MO → Prop
  | .ns f => ∃ es n, h.get? a = some (dictOf es n) ∧ NsR W es f
  | .list vs => ∃ xs n, h.get? a = some (lstO xs n) ∧ VRs W vs xs
  | .imap m k => ∃ kvs, h.DictOf (intKind c w) a kvs ∧ kvs.length ≤ k ∧ ∀ x, OR W (m x) (valueAt kvs x)
  | .smap m k => ∃ kvs, h.DictOf (strKind c w) a kvs ∧ kvs.length ≤ k ∧ ∀ x, OR W (m x) (valueAt kvs x)
  | .cell v => ∃ o v', h.get? a = some o ∧ o.data = .cell v' ∧ OR W v v'
  | .clo p _ cs => ∃ as ob, cs.map W.ρ = as.map some ∧ h.get? a = some ob ∧ p as ob W.F

theorem OR.mono {W W' : Wd} (l : W.le W') {a b} (h : OR W a b) : OR W' a b := by
  induction a <;> induction b <;> first | exact h | exact VR.mono l h
theorem OR.some_inv {W : Wd} {v b} (h : OR W (some v) b) : ExEq some b (VR W v) := by
  induction b with
  | none => exact h.elim
  | some x => exact ⟨x, rfl, h⟩
theorem OR.none_inv {W : Wd} {b} (h : OR W none b) : b = none := by
  induction b with
  | none => rfl
  | some x => exact h.elim
theorem NsR.mono {W W' : Wd} (l : W.le W') {es f} (h : NsR W es f) : NsR W' es f :=
  ⟨h.1, h.2.1, fun x => (h.2.2 x).mono l⟩
theorem MR.mono {p w} {W W' : Wd} (l : W.le W') {h : Heap} {a : Addr} {o : MO} (x : MR p w W h a o) : MR p w W' h a o := by
  cases o with
  | ns f => obtain ⟨es, n, e, r⟩ := x; exact ⟨es, n, e, r.mono l⟩
  | list vs => obtain ⟨xs, n, e, r⟩ := x; exact ⟨xs, n, e, r.mono l⟩
  | imap m k => obtain ⟨m', e, d, r⟩ := x; exact ⟨m', e, d, fun y => (r y).mono l⟩
  | smap m k => obtain ⟨m', e, d, r⟩ := x; exact ⟨m', e, d, fun y => (r y).mono l⟩
  | cell v => obtain ⟨ob, v', e, d, r⟩ := x; exact ⟨ob, v', e, d, r.mono l⟩
  | clo f hm cs =>
    obtain ⟨as, ob, e, d, r⟩ := x
    refine ⟨as, ob, ?_, d, hm _ _ _ _ l.F r⟩
    clear d r
    induction cs generalizing as with
    | nil => simpa using e
    | cons c cs ih =>
      induction as with
      | nil => simp at e
      | cons a as => simp only [List.map_cons, List.cons.injEq] at e ⊢; exact ⟨l.ρ _ _ e.1, ih as e.2⟩
theorem MR.some {p w} {W : Wd} {h : Heap} {a : Addr} {o : MO} (x : MR p w W h a o) : ∃ ob, h.get? a = Option.some ob := by
  cases o with
  | ns f => obtain ⟨es, n, e, r⟩ := x; exact ⟨_, e⟩
  | list vs => obtain ⟨xs, n, e, r⟩ := x; exact ⟨_, e⟩
  | imap m k => obtain ⟨m', ⟨o, _, _, e, _⟩, d, r⟩ := x; exact ⟨_, e⟩
  | smap m k => obtain ⟨m', ⟨o, _, _, e, _⟩, d, r⟩ := x; exact ⟨_, e⟩
  | cell v => obtain ⟨ob, v', e, d, r⟩ := x; exact ⟨_, e⟩
  | clo f hm cs => obtain ⟨as, ob, e, d, r⟩ := x; exact ⟨_, d⟩
theorem MR.same {p w} {W : Wd} {h h' : Heap} {a : Addr} {o : MO} (x : MR p w W h a o) (e : h'.get? a = h.get? a) : MR p w W h' a o := by
  induction o with
  | ns f => obtain ⟨es, n, e1, r⟩ := x; exact ⟨es, n, e.trans e1, r⟩
  | list vs => obtain ⟨xs, n, e1, r⟩ := x; exact ⟨xs, n, e.trans e1, r⟩
  | imap m k => obtain ⟨m', ⟨o, es, ep, e1, r1⟩, d, r⟩ := x; exact ⟨m', ⟨o, es, ep, e.trans e1, r1⟩, d, r⟩
  | smap m k => obtain ⟨m', ⟨o, es, ep, e1, r1⟩, d, r⟩ := x; exact ⟨m', ⟨o, es, ep, e.trans e1, r1⟩, d, r⟩
  | cell v => obtain ⟨ob, v', e1, d, r⟩ := x; exact ⟨ob, v', e.trans e1, d, r⟩
  | clo f hm cs => obtain ⟨as, ob, e1, d, r⟩ := x; exact ⟨as, ob, e1, e.trans d, r⟩

structure Cx where
  prog : Program
  w : World
  K : Frag
  h₀ : Heap
  os : OsState
  mg : Str → Option Value
  mb : Str → Option Value
  pin : Option (Addr × Str)

structure Cx.Ok (c : Cx) : Prop where
  X : c.K.In c.h₀
  g : c.h₀.Ns mainGlobals c.mg
  b : c.h₀.Ns builtinsNs c.mb
  bi : ∀ x : Str, x ≠ "__name__" → c.mb x = bootBuiltins x
  lim : c.h₀.NoLimit
  last : ∃ x, c.h₀.get? (c.h₀.objs.size - 1) = some x
  many : 2 ≤ c.h₀.objs.size

noncomputable def Any : Option Obj → Prop := fun _ => True
noncomputable def PinOk (c : Cx) (W : Wd) (h : Heap) : Prop := ∀ P q, c.pin = some (P, q) → W.P P = some Any ∧ ∃ ps : Array Value, h.get? P = some { cls := .none, data := .fields ps } ∧ TriplesOk ps.toList ∧
  ∀ pos cv, codeAmong pos ps.toList = some cv → ∃ c' oc vs t, cv = .ref c' ∧ W.F c' = some oc ∧ oc.data = .fields vs ∧ vs[1]? = some (.str q t)
theorem PinOk.mono {c : Cx} {W W' : Wd} {h h' : Heap} (x : PinOk c W h) (lF : ∀ a o, W.F a = some o → W'.F a = some o) (lP : ∀ a m, W.P a = some m → (∃ q, c.pin = some (a, q)) → W'.P a = some m)
    (k : ∀ b o, W.P b = some Any → h.get? b = some o → h'.get? b = some o) : PinOk c W' h' := fun P q e =>
  let ⟨a, ps, b, d, f⟩ := x P q e
  ⟨lP _ _ a ⟨q, e⟩, ps, k _ _ a b, d, fun pos cv hc => by obtain ⟨c', oc, vs, t, e1, e2, e3⟩ := f pos cv hc; exact ⟨c', oc, vs, t, e1, lF _ _ e2, e3⟩⟩
theorem PinOk.keep {c : Cx} {W W' : Wd} {h h' : Heap} (x : PinOk c W h) (l : W.le W') (k : ∀ b o, h.get? b = some o → h'.get? b = some o) : PinOk c W' h' := x.mono l.F (fun a m e _ => l.P a m e) fun b o _ e => k b o e
theorem PinOk.but {c : Cx} {W : Wd} {h h' : Heap} (x : PinOk c W h) {a : Addr} (hP : W.P a = none) (k : ∀ b o, b ≠ a → h.get? b = some o → h'.get? b = some o) : PinOk c W h' :=
  x.mono (fun _ _ e => e) (fun _ _ e _ => e) fun b o e q => k b o (fun z => by subst z; rw [hP] at e; cases e) q
theorem PinOk.ne {c : Cx} {W : Wd} {h : Heap} (x : PinOk c W h) {a : Addr} (e : W.P a = none) (q : Str) : c.pin ≠ some (a, q) := fun z => by
  have := (x _ _ z).1
  cases e.symm.trans this

structure GS (c : Cx) (W : Wd) (o : Nat → Option MO) (nx : Nat) (s : Shared) : Prop where
  ok : c.Ok
  fz : ∀ a x, W.F a = some x → s.heap.get? a = some x
  base : ∀ a x, c.h₀.get? a = some x → W.F a = some x
  mu : ∀ n x, o n = some x → ∃ a, W.ρ n = some a ∧ MR c.prog c.w W s.heap a x
  sep : ∀ n a, W.ρ n = some a → W.F a = none ∧ W.P a = none ∧ ∃ ob, s.heap.get? a = some ob
  inj : ∀ n k a, W.ρ n = some a → W.ρ k = some a → n = k
  fresh : ∀ n, nx ≤ n → W.ρ n = none
  park : ∀ a m, W.P a = some m → m (s.heap.get? a) ∧ (∃ ob, s.heap.get? a = some ob) ∧ W.F a = none
  os : s.os = c.os
  gens : s.gens = #[]
  new : (∀ n a, W.ρ n = some a → 2 ≤ a) ∧ PinOk c W s.heap

theorem GS.keep {c W o nx s} (g : GS c W o nx s) : ∀ b x, c.h₀.get? b = some x → s.heap.get? b = some x := fun b x e => g.fz _ _ (g.base _ _ e)
theorem GS.big {c W o nx s} (g : GS c W o nx s) : c.h₀.objs.size ≤ s.heap.objs.size := by
  obtain ⟨x, e⟩ := g.ok.last
  have h1 : @LT.lt Nat _ (@HSub.hSub Nat Nat Nat _ c.h₀.objs.size 1) s.heap.objs.size := Heap.lt_size (g.keep _ _ e)
  have := g.ok.many
  lia
theorem GS.sysm {c W o nx s} (g : GS c W o nx s) {n a} (h : W.ρ n = some a) : (a == sysModules) = false := by
  have h1 : @LE.le Nat _ 2 a := g.new.1 n a h
  rw [beq_eq_false_iff_ne]
  intro q
  have q : @Eq Nat a 1 := q
  lia
theorem GS.In {c W o nx s} (g : GS c W o nx s) : c.K.In s.heap := g.ok.X.keeps g.keep
theorem GS.limit {c W o nx s} (g : GS c W o nx s) : s.heap.NoLimit := g.ok.lim.keeps g.keep

theorem GS.move {c W o nx s} (g : GS c W o nx s) {a : Addr} {h' : Heap} (hs : Heap.SameBut a s.heap h') (hF : W.F a = none) (hP : W.P a = none)
    {o' : Nat → Option MO} (ho : ∀ n x, o' n = some x → W.ρ n ≠ some a → o n = some x) (hn : ∀ n x, o' n = some x → W.ρ n = some a → MR c.prog c.w W h' a x) {toks} (hp : ∀ n x, o' n = some x → ∃ a, W.ρ n = some a) {dr} (hl : ∃ ob, h'.get? a = some ob) :
    GS c W o' nx ⟨h', s.gens, dr, toks, s.os⟩ where
  ok := g.ok
  fz := fun b x e => (hs.2 b fun z => by subst z; cases hF.symm.trans e).trans (g.fz b x e)
  base := g.base
  mu := fun n x e => by
    obtain ⟨b, hb⟩ := hp n x e
    by_cases z : b = a
    · subst z; exact ⟨b, hb, hn n x e hb⟩
    · obtain ⟨b', hb', m⟩ := g.mu n x (ho n x e (by rw [hb]; intro q; exact z (Option.some.inj q)))
      obtain rfl := Option.some.inj (hb.symm.trans hb')
      exact ⟨b, hb, m.same (hs.2 b z)⟩
  sep := fun n b e => ⟨(g.sep n b e).1, (g.sep n b e).2.1, by
    by_cases z : b = a
    · subst z; exact hl
    · obtain ⟨ob, q⟩ := (g.sep n b e).2.2; exact ⟨ob, (hs.2 b z).trans q⟩⟩
  inj := g.inj
  fresh := g.fresh
  park := fun b m e => by
    have q := hs.2 b (fun z => by subst z; cases hP.symm.trans e)
    rw [q]; exact g.park b m e
  os := g.os
  gens := g.gens
  new := ⟨g.new.1, g.new.2.but hP fun b o q e => (hs.2 b q).trans e⟩

theorem GS.toks {c W o nx s} (g : GS c W o nx s) {t : Nat} : GS c W o nx { s with toks := t } := ⟨g.ok, g.fz, g.base, g.mu, g.sep, g.inj, g.fresh, g.park, g.os, g.gens, g.new⟩

noncomputable def upd (o : Nat → Option MO) (n : Nat) (x : MO) : Nat → Option MO := fun k => if k = n then some x else o k

set_option tactic.hygienic true in
theorem GS.put {c W o nx s} (g : GS c W o nx s) {n : Nat} {a : Addr} {x₀ : MO} (hn : o n = some x₀) (ha : W.ρ n = some a) {h' : Heap} (hs : Heap.SameBut a s.heap h') {x : MO} (m : MR c.prog c.w W h' a x) {toks dr} :
    GS c W (upd o n x) nx ⟨h', s.gens, dr, toks, s.os⟩ := by
  refine g.move hs (g.sep n a ha).1 (g.sep n a ha).2.1 (fun k y e hk => ?_) (fun k y e hk => ?_) (fun k y e => ?_) m.some
  · unfold upd at e
    split at e
    · rename_i z; subst z; exact absurd ha hk
    · exact e
  · unfold upd at e
    split at e
    · obtain rfl := Option.some.inj e; exact m
    · rename_i z; exact absurd (g.inj _ _ _ hk ha) z
  · unfold upd at e
    split at e
    · rename_i z; subst z; exact ⟨a, ha⟩
    · exact (g.mu k y e).imp fun b q => q.1

noncomputable def Wd.addF (W : Wd) (a : Addr) (x : Obj) : Wd := { W with F := fun b => if b = a then some x else W.F b }
noncomputable def Wd.addR (W : Wd) (n : Nat) (a : Addr) : Wd := { W with ρ := fun k => if k = n then some a else W.ρ k }
noncomputable def Wd.addP (W : Wd) (a : Addr) (m : Option Obj → Prop) : Wd := { W with P := fun b => if b = a then some m else W.P b }
noncomputable def Wd.delP (W : Wd) (a : Addr) : Wd := { W with P := fun b => if b = a then none else W.P b }

set_option tactic.hygienic true in
theorem Wd.le_addF {W : Wd} {a x} (h : W.F a = none) : W.le (W.addF a x) :=
  ⟨fun b o e => by simp only [Wd.addF]; split; · rename_i z; subst z; cases h.symm.trans e
                   · exact e, fun _ _ e => e, fun _ _ e => e⟩
set_option tactic.hygienic true in
theorem Wd.le_addR {W : Wd} {n a} (h : W.ρ n = none) : W.le (W.addR n a) :=
  ⟨fun _ _ e => e, fun k b e => by simp only [Wd.addR]; split; · rename_i z; subst z; cases h.symm.trans e
                                   · exact e, fun _ _ e => e⟩
set_option tactic.hygienic true in
theorem Wd.le_addP {W : Wd} {a m} (h : W.P a = none) : W.le (W.addP a m) :=
  ⟨fun _ _ e => e, fun _ _ e => e, fun b m' e => by simp only [Wd.addP]; split; · rename_i z; subst z; cases h.symm.trans e
                                                    · exact e⟩

theorem GS.freshF {c W o nx s} (g : GS c W o nx s) : W.F s.heap.objs.size = none := by
  cases e : W.F s.heap.objs.size with
  | none => rfl
  | some x => exact absurd (Heap.lt_size (g.fz _ _ e)) (Nat.lt_irrefl _)
theorem GS.freshP {c W o nx s} (g : GS c W o nx s) : W.P s.heap.objs.size = none := by
  cases e : W.P s.heap.objs.size with
  | none => rfl
  | some x => exact by obtain ⟨_, q⟩ := (g.park _ _ e).2.1; exact absurd (Heap.lt_size q) (Nat.lt_irrefl _)

theorem MR.push {p w} {W : Wd} {h : Heap} {a : Addr} {o : MO} (x : MR p w W h a o) (ob : Obj) : MR p w W (h.push ob) a o := by
  obtain ⟨y, e⟩ := x.some
  exact x.same ((Heap.get?_push_of_some ob e).trans e.symm)

set_option tactic.hygienic true in
theorem GS.newF {c W o nx s} (g : GS c W o nx s) (x : Obj) (hf : x.isFreed = false := by rfl) {toks dr} : GS c (W.addF s.heap.objs.size x) o nx ⟨s.heap.push x, s.gens, dr, toks, s.os⟩ where
  ok := g.ok
  fz := fun b y e => by
    simp only [Wd.addF] at e
    split at e
    · rename_i z; subst z; obtain rfl := Option.some.inj e; exact Heap.get?_push_size _ hf
    · exact Heap.get?_push_of_some _ (g.fz b y e)
  base := fun b y e => (Wd.le_addF g.freshF).F _ _ (g.base b y e)
  mu := fun n y e => let ⟨b, hb, m⟩ := g.mu n y e; ⟨b, hb, (m.push x).mono (Wd.le_addF g.freshF)⟩
  sep := fun n b e => ⟨by
      have := g.sep n b e
      exact (if_neg (Nat.ne_of_lt (by obtain ⟨_, q⟩ := this.2.2; exact Heap.lt_size q))).trans this.1, (g.sep n b e).2.1,
      let ⟨ob, q⟩ := (g.sep n b e).2.2; ⟨ob, Heap.get?_push_of_some _ q⟩⟩
  inj := g.inj
  fresh := g.fresh
  park := fun b m e => by
    obtain ⟨p1, ⟨ob, p2⟩, p3⟩ := g.park b m e
    rw [p2] at p1
    refine ⟨by rw [Heap.get?_push_of_some _ p2]; exact p1, ⟨ob, Heap.get?_push_of_some _ p2⟩, ?_⟩
    exact (if_neg (fun z => by subst z; have e : W.P _ = some m := e; exact nomatch g.freshP.symm.trans e)).trans p3
  os := g.os
  gens := g.gens
  new := ⟨g.new.1, g.new.2.keep (Wd.le_addF g.freshF) fun b o e => Heap.get?_push_of_some _ e⟩

set_option tactic.hygienic true in
theorem GS.newM {c W o nx s} (g : GS c W o nx s) {x : Obj} (hf : x.isFreed = false) {y : MO} {toks dr}
    (m : MR c.prog c.w (W.addR nx s.heap.objs.size) (s.heap.push x) s.heap.objs.size y) : GS c (W.addR nx s.heap.objs.size) (upd o nx y) (nx + 1) ⟨s.heap.push x, s.gens, dr, toks, s.os⟩ where
  ok := g.ok
  fz := fun b y e => Heap.get?_push_of_some _ (g.fz b y e)
  base := g.base
  mu := fun n z e => by
    unfold upd at e
    split at e
    · rename_i q; subst q; obtain rfl := Option.some.inj e; exact ⟨_, if_pos rfl, m⟩
    · refine hideG fun R_ k_ => ?_
      obtain ⟨b, hb, m'⟩ := g.mu n z e
      refine k_ ?_
      clear k_
      exact ⟨b, (Wd.le_addR (g.fresh nx (Nat.le_refl _))).ρ _ _ hb, (m'.push x).mono (Wd.le_addR (g.fresh nx (Nat.le_refl _)))⟩
  sep := fun n b e => by
    simp only [Wd.addR] at e
    split at e
    · obtain rfl := Option.some.inj e; exact ⟨g.freshF, g.freshP, x, Heap.get?_push_size _ hf⟩
    · exact ⟨(g.sep n b e).1, (g.sep n b e).2.1, let ⟨ob, q⟩ := (g.sep n b e).2.2; ⟨ob, Heap.get?_push_of_some _ q⟩⟩
  inj := fun n k b e1 e2 => by
    simp only [Wd.addR] at e1 e2
    split at e1 <;> split at e2
    · rename_i z1 z2; rw [z1, z2]
    · obtain rfl := Option.some.inj e1; exact let ⟨_, q⟩ := (g.sep _ _ e2).2.2; absurd (Heap.lt_size q) (Nat.lt_irrefl _)
    · obtain rfl := Option.some.inj e2; exact let ⟨_, q⟩ := (g.sep _ _ e1).2.2; absurd (Heap.lt_size q) (Nat.lt_irrefl _)
    · exact g.inj n k b e1 e2
  fresh := fun n hn => by
    exact (if_neg (Nat.ne_of_gt hn)).trans (g.fresh n (Nat.le_of_lt hn))
  park := fun b m e => by
    obtain ⟨p1, ⟨ob, p2⟩, p3⟩ := g.park b m e
    rw [p2] at p1
    exact ⟨by rw [Heap.get?_push_of_some _ p2]; exact p1, ⟨ob, Heap.get?_push_of_some _ p2⟩, p3⟩
  os := g.os
  gens := g.gens
  new := ⟨fun n b e => by
    simp only [Wd.addR] at e
    split at e
    · obtain rfl := Option.some.inj e; exact Nat.le_trans g.ok.many g.big
    · exact g.new.1 n b e, g.new.2.keep (Wd.le_addR (g.fresh nx (Nat.le_refl _))) fun b o e => Heap.get?_push_of_some _ e⟩

theorem GS.forget {c W o nx s} (g : GS c W o nx s) {o' : Nat → Option MO} (h : ∀ n x, o' n = some x → o n = some x) {nx'} (hn : nx ≤ nx') : GS c W o' nx' s :=
  ⟨g.ok, g.fz, g.base, fun n x e => g.mu n x (h n x e), g.sep, g.inj, fun n q => g.fresh n (Nat.le_trans hn q), g.park, g.os, g.gens, g.new⟩

theorem GS.ext {c W o nx s} (g : GS c W o nx s) {h' : Heap} (k : ∀ b x, s.heap.get? b = some x → h'.get? b = some x) {toks dr} : GS c W o nx ⟨h', s.gens, dr, toks, s.os⟩ :=
  ⟨g.ok, fun a x e => k _ _ (g.fz a x e), g.base, fun n x e => let ⟨a, ha, m⟩ := g.mu n x e; ⟨a, ha, let ⟨ob, q⟩ := m.some; m.same ((k _ _ q).trans q.symm)⟩,
   fun n a e => ⟨(g.sep n a e).1, (g.sep n a e).2.1, let ⟨ob, q⟩ := (g.sep n a e).2.2; ⟨ob, k _ _ q⟩⟩, g.inj, g.fresh, fun a m e => (by
    obtain ⟨p1, ⟨ob, p2⟩, p3⟩ := g.park a m e
    rw [p2] at p1
    exact ⟨by rw [k _ _ p2]; exact p1, ⟨ob, k _ _ p2⟩, p3⟩), g.os, g.gens, g.new.1, g.new.2.keep .rfl' k⟩
set_option tactic.hygienic true in
theorem GS.parkd {c W o nx s} (g : GS c W o nx s) {a : Addr} {p : Option Obj → Prop} {ob : Obj} (h : p (some ob)) (eo : s.heap.get? a = some ob) (hF : W.F a = none) (hP : W.P a = none) (hR : ∀ n, W.ρ n ≠ some a) : GS c (W.addP a p) o nx s := by
  have l0 : W.le (W.addP a p) := Wd.le_addP hP
  refine ⟨g.ok, g.fz, g.base, fun k x e => let ⟨a, b, c⟩ := g.mu k x e; ⟨a, b, c.mono l0⟩, fun k b e => ⟨(g.sep k b e).1, ?_, (g.sep k b e).2.2⟩, g.inj, g.fresh, fun b m e => ?_, g.os, g.gens, g.new.1, g.new.2.keep l0 fun _ _ e => e⟩
  · exact (if_neg (fun q => by subst q; exact hR k e)).trans ((g.sep k b e).2.1)
  · simp only [Wd.addP] at e
    split at e
    · rename_i q; subst q; obtain rfl := Option.some.inj e; exact ⟨by rw [eo]; exact h, ⟨_, eo⟩, hF⟩
    · exact g.park b m e
theorem VR.unP {W : Wd} {a : Addr} {v x} (h : VR W v x) : VR (W.delP a) v x := by
  induction h with
  | none => exact .none
  | bool => exact .bool
  | int => exact .int
  | str => exact .str
  | con => exact .con
  | tup h1 h2 _ ih => exact .tup h1 h2 ih
  | lst h1 h2 _ ih => exact .lst h1 h2 ih
  | ins h1 h2 => exact .ins h1 h2
  | ref h => exact .ref h
  | pie h1 h2 h3 h4 _ _ i1 i2 => exact .pie h1 h2 h3 h4 i1 i2
  | rng h => exact .rng h
theorem OR.unP {W : Wd} {a : Addr} {v x} (h : OR W v x) : OR (W.delP a) v x := by induction v <;> induction x <;> first | exact h | exact VR.unP h
theorem VRs.unP {W : Wd} {a : Addr} {v x} (h : VRs W v x) : VRs (W.delP a) v x := ⟨h.1, fun i v x a b => (h.2 i v x a b).unP⟩
theorem MR.unP {p w} {W : Wd} {h : Heap} {a b : Addr} {o : MO} (c : MR p w W h a o) : MR p w (W.delP b) h a o := by
  induction o with
  | ns f => obtain ⟨es, n, e, r⟩ := c; exact ⟨es, n, e, r.1, r.2.1, fun x => (r.2.2 x).unP⟩
  | list vs => obtain ⟨xs, n, e, r⟩ := c; exact ⟨xs, n, e, r.unP⟩
  | imap m k => obtain ⟨m', e, d, r⟩ := c; exact ⟨m', e, d, fun y => (r y).unP⟩
  | smap m k => obtain ⟨m', e, d, r⟩ := c; exact ⟨m', e, d, fun y => (r y).unP⟩
  | cell v => obtain ⟨ob, v', e, d, r⟩ := c; exact ⟨ob, v', e, d, r.unP⟩
  | clo f hm cs => exact c
theorem GS.unP {c W o nx s} (g : GS c W o nx s) {a : Addr} (hp : ∀ q, c.pin ≠ some (a, q)) : GS c (W.delP a) o nx s :=
  ⟨g.ok, g.fz, g.base, fun k x e => let ⟨a, b, c⟩ := g.mu k x e; ⟨a, b, c.unP⟩, fun k b e => ⟨(g.sep k b e).1, by
    simp only [Wd.delP]; split
    · rfl
    · exact (g.sep k b e).2.1, (g.sep k b e).2.2⟩, g.inj, g.fresh, fun b m e => by
    rcases ite_cases e with ⟨z_, e⟩ | ⟨z_, e⟩
    · exact nomatch e
    · exact g.park b m e, g.os, g.gens, g.new.1, g.new.2.mono (fun _ _ e => e) (fun b m e ⟨q, e2⟩ => by
    exact (if_neg (fun z => by subst z; exact hp _ e2)).trans e) fun _ _ _ e => e⟩
theorem Wd.le.delP {W W' : Wd} {a : Addr} {p} (h : W.P a = none) (l : (W.addP a p).le W') : W.le (W'.delP a) :=
  have l0 : W.le (W.addP a p) := Wd.le_addP h
  ⟨fun b x e => l.F _ _ (l0.F _ _ e), fun k b e => l.ρ _ _ (l0.ρ _ _ e), fun b x e => by
      exact (if_neg (fun q => by subst q; exact nomatch h.symm.trans e)).trans (l.P _ _ (l0.P _ _ e))⟩
theorem nsP {h : Heap} {a : Addr} {m} (n : h.Ns a m) : ∀ h' : Heap, h'.get? a = h.get? a → h'.Ns a m := fun h' e => n.at' fun o q => e.trans q
theorem extBut_keeps {h h' : Heap} (x : Heap.ExtBut h.objs.size h h') : ∀ b o, h.get? b = some o → h'.get? b = some o := fun b o e => x b o (Nat.ne_of_lt (Heap.lt_size e)) e
end Mine
end

section
open PySem PySem.W PySem.Calls PyProof.Rows
set_option Elab.async false
set_option linter.unusedVariables false
set_option autoImplicit true
set_option tactic.hygienic false
namespace Mine

structure St where
  m : List (Str × V)
  o : Nat → Option MO
  nx : Nat

noncomputable def St.set (σ : St) (x : Str) (v : V) : St := ⟨(x, v) :: σ.m, σ.o, σ.nx⟩

inductive NsIn (W : Wd) (L : Addr) (m : List (Str × V)) (h : Heap) : Prop
  | mk (m' : Str → Option Value) (n : h.Ns L m') (v : ∀ x v, m.lookup x = some v → ∃ v', m' x = some v' ∧ VR W v v') : NsIn W L m h
structure FrA (W : Wd) (env : Env) (cl : List (Str × Nat)) (m : List (Str × V)) (h : Heap) : Prop where
  ns : NsIn W env.locals m h
  outF : W.F env.locals = none
  outP : W.P env.locals = none
  outR : ∀ n, W.ρ n ≠ some env.locals
  cells : ∀ x n, cl.lookup x = some n → ∃ a, env.cells.lookup x = some a ∧ W.ρ n = some a

noncomputable def nsPr (m : Str → Option Value) : Option Obj → Prop := fun x => ∃ (h : Heap) (a : Addr), h.get? a = x ∧ h.Ns a m
theorem nsPr.of {h : Heap} {a : Addr} {m} (n : h.Ns a m) {x} (e : h.get? a = x) : nsPr m x := ⟨h, a, e, n⟩
theorem nsPr.ns {h : Heap} {a : Addr} {m} (n : nsPr m (h.get? a)) : h.Ns a m := by
  refine hideG fun R_ k_ => ?_
  obtain ⟨h', a', e, o, es, ep, e1, r⟩ := n
  refine k_ ?_
  clear k_
  exact ⟨o, es, ep, e ▸ e1, r⟩
theorem nsPr.slots {m} {o : Obj} (n : nsPr m (some o)) (sl : Array (Option Value)) : nsPr m (some { o with slots := sl }) := by
  refine hideG fun R_ k_ => ?_
  obtain ⟨h, a, e, o', es, ep, e1, d, r⟩ := n
  obtain rfl := Option.some.inj (e.symm.trans e1)
  refine k_ ?_
  clear k_
  have e2 : (h.update a fun _ => { o with slots := sl }).get? a = some { o with slots := sl } := Heap.get?_update_self _ e (by obtain ⟨c, d', dt, s⟩ := o; subst d; rfl)
  exact ⟨_, a, e2, _, es, ep, e2, d, r⟩
theorem nsPr.data {m} {o : Obj} (n : nsPr m (some o)) : ∀ vs, o.data ≠ .fields vs := by
  refine hideG fun R_ k_ => ?_
  obtain ⟨h, a, e, o', es, ep, e1, d, r⟩ := n
  obtain rfl := Option.some.inj (e.symm.trans e1)
  refine k_ ?_
  clear k_
  intro vs q; cases d.symm.trans q

noncomputable def Stk (W : Wd) (outer : List Env) : Prop := ∀ e ∈ outer, e.scope.kind ≠ .module ∧ ∃ L m, e.frame = some L ∧ W.P L = some (nsPr m)
theorem Stk.mono {W W' : Wd} (l : W.le W') {outer} (h : Stk W outer) : Stk W' outer := fun e he => by
  refine hideG fun R_ k_ => ?_
  obtain ⟨a, L, m, b, c⟩ := h e he
  refine k_ ?_
  clear k_
  exact ⟨a, L, m, b, l.P _ _ c⟩

structure XP where
  p : Wd → Value → Shared → Prop
  mono : ∀ {W W' : Wd} {e s}, W.le W' → p W' e s → p W e s
noncomputable def XP.no : XP := ⟨fun _ _ _ => False, fun _ h => h⟩

structure Z where
  c : Cx
  A : Around
  env : Env
  cl : List (Str × Nat)
  outer : List Env
  XE : XP

structure Z.pre (z : Z) (W : Wd) (σ : St) (s : Shared) : Prop where
  g : GS z.c W σ.o σ.nx s
  f : FrA W z.env z.cl σ.m s.heap
  k : Stk W z.outer

noncomputable def Z.post {α β : Type} (z : Z) (R : Wd → β → α → Prop) (Q : β → St → Prop) (W : Wd) : α → Shared → Prop := fun v s' =>
  ∃ W' b σ', W.le W' ∧ R W' b v ∧ z.pre W' σ' s' ∧ Q b σ'

noncomputable def EX {α β : Type} (z : Z) (R : Wd → β → α → Prop) (t : Sem α) (σ : St) (Q : β → St → Prop) : Prop :=
  ∀ W s, z.pre W σ s → wpAny (model z.c.prog z.c.w) z.A t (z.post R Q W) (z.XE.p W) s
noncomputable def O1 {α β : Type} (z : Z) (R : Wd → β → α → Prop) (a : V) (t : Value → Sem α) (σ : St) (Q : β → St → Prop) : Prop :=
  ∀ W s x, VR W a x → z.pre W σ s → wpAny (model z.c.prog z.c.w) z.A (t x) (z.post R Q W) (z.XE.p W) s
noncomputable def O2 {α β : Type} (z : Z) (R : Wd → β → α → Prop) (a b : V) (t : Value → Value → Sem α) (σ : St) (Q : β → St → Prop) : Prop :=
  ∀ W s x y, VR W a x → VR W b y → z.pre W σ s → wpAny (model z.c.prog z.c.w) z.A (t x y) (z.post R Q W) (z.XE.p W) s
noncomputable def O3 {α β : Type} (z : Z) (R : Wd → β → α → Prop) (a b c : V) (t : Value → Value → Value → Sem α) (σ : St) (Q : β → St → Prop) : Prop :=
  ∀ W s x y u, VR W a x → VR W b y → VR W c u → z.pre W σ s → wpAny (model z.c.prog z.c.w) z.A (t x y u) (z.post R Q W) (z.XE.p W) s
noncomputable def OL {α β : Type} (z : Z) (R : Wd → β → α → Prop) (vs : List V) (t : List Value → Sem α) (σ : St) (Q : β → St → Prop) : Prop :=
  ∀ W s xs, VRs W vs xs → z.pre W σ s → wpAny (model z.c.prog z.c.w) z.A (t xs) (z.post R Q W) (z.XE.p W) s

inductive Fl where
  | next | brk | cont | ret (v : V)
noncomputable def FlR (W : Wd) : Fl → Flow → Prop
  | .next, .next => True
  | .brk, .brk => True
  | .cont, .cont => True
  | .ret v, .ret x => VR W v x
  | _, _ => False
noncomputable def RU (_ : Wd) (_ _ : Unit) : Prop := True
noncomputable def RB (_ : Wd) (a b : Bool) : Prop := a = b

section
variable {z : Z} {α β γ : Type} {R : Wd → β → α → Prop} {R' : Wd → γ → α' → Prop} {σ : St} {Q : β → St → Prop}

theorem seq {t : Sem α} {K : α → Shared → Prop} {W₀ W : Wd} {s : Shared} (l0 : W₀.le W) (h : EX z R t σ Q) (p : z.pre W σ s)
    (k : ∀ W' b σ' v s', W.le W' → R W' b v → z.pre W' σ' s' → Q b σ' → K v s') : wpAny (model z.c.prog z.c.w) z.A t K (z.XE.p W₀) s :=
  wpAny_mono (h W s p) (fun v s' ⟨W', b, σ', l, r, p', q⟩ => k W' b σ' v s' l r p' q) fun _ _ e => z.XE.mono l0 e
theorem seq1 {a : V} {t : Value → Sem α} {K : α → Shared → Prop} {W₀ W : Wd} {s : Shared} {x : Value} (l0 : W₀.le W) (h : O1 z R a t σ Q) (hx : VR W a x) (p : z.pre W σ s)
    (k : ∀ W' b σ' v s', W.le W' → R W' b v → z.pre W' σ' s' → Q b σ' → K v s') : wpAny (model z.c.prog z.c.w) z.A (t x) K (z.XE.p W₀) s :=
  wpAny_mono (h W s x hx p) (fun v s' ⟨W', b, σ', l, r, p', q⟩ => k W' b σ' v s' l r p' q) fun _ _ e => z.XE.mono l0 e
theorem seq2 {a b : V} {t : Value → Value → Sem α} {K : α → Shared → Prop} {W₀ W : Wd} {s : Shared} {x y : Value} (l0 : W₀.le W) (h : O2 z R a b t σ Q) (hx : VR W a x) (hy : VR W b y) (p : z.pre W σ s)
    (k : ∀ W' b σ' v s', W.le W' → R W' b v → z.pre W' σ' s' → Q b σ' → K v s') : wpAny (model z.c.prog z.c.w) z.A (t x y) K (z.XE.p W₀) s :=
  wpAny_mono (h W s x y hx hy p) (fun v s' ⟨W', b, σ', l, r, p', q⟩ => k W' b σ' v s' l r p' q) fun _ _ e => z.XE.mono l0 e
theorem seq3 {a b c : V} {t : Value → Value → Value → Sem α} {K : α → Shared → Prop} {W₀ W : Wd} {s : Shared} {x y u : Value} (l0 : W₀.le W) (h : O3 z R a b c t σ Q) (hx : VR W a x) (hy : VR W b y) (hu : VR W c u) (p : z.pre W σ s)
    (k : ∀ W' b σ' v s', W.le W' → R W' b v → z.pre W' σ' s' → Q b σ' → K v s') : wpAny (model z.c.prog z.c.w) z.A (t x y u) K (z.XE.p W₀) s :=
  wpAny_mono (h W s x y u hx hy hu p) (fun v s' ⟨W', b, σ', l, r, p', q⟩ => k W' b σ' v s' l r p' q) fun _ _ e => z.XE.mono l0 e
theorem seqL {vs : List V} {t : List Value → Sem α} {K : α → Shared → Prop} {W₀ W : Wd} {s : Shared} {xs : List Value} (l0 : W₀.le W) (h : OL z R vs t σ Q) (hx : VRs W vs xs) (p : z.pre W σ s)
    (k : ∀ W' b σ' v s', W.le W' → R W' b v → z.pre W' σ' s' → Q b σ' → K v s') : wpAny (model z.c.prog z.c.w) z.A (t xs) K (z.XE.p W₀) s :=
  wpAny_mono (h W s xs hx p) (fun v s' ⟨W', b, σ', l, r, p', q⟩ => k W' b σ' v s' l r p' q) fun _ _ e => z.XE.mono l0 e
theorem post_le {W₀ W : Wd} (l : W₀.le W) {v : α} {s : Shared} (h : z.post R Q W v s) : z.post R Q W₀ v s :=
  let ⟨W', b, σ', l', r, p', q⟩ := h; ⟨W', b, σ', l.trans l', r, p', q⟩
theorem fin {t : Sem α} {W₀ W : Wd} {s : Shared} (l : W₀.le W) (h : wpAny (model z.c.prog z.c.w) z.A t (z.post R Q W) (z.XE.p W) s) : wpAny (model z.c.prog z.c.w) z.A t (z.post R Q W₀) (z.XE.p W₀) s :=
  wpAny_mono h (fun _ _ q => post_le l q) fun _ _ e => z.XE.mono l e
theorem here {W : Wd} {σ : St} {b : β} {v : α} {s : Shared} (r : R W b v) (p : z.pre W σ s) (q : Q b σ) : z.post R Q W v s := ⟨W, b, σ, .rfl', r, p, q⟩
theorem there {W W' : Wd} {σ : St} {b : β} {v : α} {s : Shared} (l : W.le W') (r : R W' b v) (p : z.pre W' σ s) (q : Q b σ) : z.post R Q W v s := ⟨W', b, σ, l, r, p, q⟩

theorem EX.imp {t : Sem α} {Q' : β → St → Prop} (h : EX z R t σ Q) (k : ∀ b σ', Q b σ' → Q' b σ') : EX z R t σ Q' := fun W s p =>
  seq .rfl' h p fun W' b σ' v s' l r p' q => there l r p' (k _ _ q)
theorem Z.pre.toks {W : Wd} {s : Shared} (p : z.pre W σ s) {t : Nat} : z.pre W σ { s with toks := t } := ⟨p.g.toks, p.f, p.k⟩
theorem Z.pre.ext {W : Wd} {s : Shared} (p : z.pre W σ s) {h' : Heap} (k : ∀ b x, s.heap.get? b = some x → h'.get? b = some x) {toks dr} : z.pre W σ ⟨h', s.gens, dr, toks, s.os⟩ :=
  ⟨p.g.ext k, ⟨let ⟨m', a, b⟩ := p.f.ns; ⟨m', a.keeps k, b⟩, p.f.outF, p.f.outP, p.f.outR, p.f.cells⟩, p.k⟩
end

theorem FrA.mono {W W' : Wd} {env cl m h} (l : W.le W') (f : FrA W env cl m h) (h1 : W'.F env.locals = none) (h2 : W'.P env.locals = none) (h3 : ∀ n, W'.ρ n ≠ some env.locals) : FrA W' env cl m h :=
  ⟨let ⟨m', a, b⟩ := f.ns; ⟨m', a, fun x v e => by obtain ⟨v', c, d⟩ := b x v e; exact ⟨v', c, d.mono l⟩⟩, h1, h2, h3, fun x n e => by obtain ⟨a, b, c⟩ := f.cells x n e; exact ⟨a, b, l.ρ _ _ c⟩⟩
theorem FrA.keeps {W : Wd} {env cl m} {h h' : Heap} (k : ∀ b x, h.get? b = some x → h'.get? b = some x) (f : FrA W env cl m h) : FrA W env cl m h' :=
  ⟨let ⟨m', a, b⟩ := f.ns; ⟨m', a.keeps k, b⟩, f.outF, f.outP, f.outR, f.cells⟩
theorem FrA.lt {W : Wd} {env cl m} {h : Heap} (f : FrA W env cl m h) : env.locals < h.objs.size := by obtain ⟨_, a, _⟩ := f.ns; exact a.lt

section
variable {z : Z} {α β γ : Type} {σ : St}

theorem Z.pre.newF {W : Wd} {s : Shared} (p : z.pre W σ s) (x : Obj) (hf : x.isFreed = false := by rfl) {toks dr} :
    z.pre (W.addF s.heap.objs.size x) σ ⟨s.heap.push x, s.gens, dr, toks, s.os⟩ ∧ W.le (W.addF s.heap.objs.size x) ∧ (W.addF s.heap.objs.size x).F s.heap.objs.size = some x :=
  ⟨⟨p.g.newF x hf, (p.f.keeps fun b y e => Heap.get?_push_of_some _ e).mono (Wd.le_addF p.g.freshF) ((if_neg (Nat.ne_of_lt p.f.lt)).trans p.f.outF) p.f.outP p.f.outR, p.k.mono (Wd.le_addF p.g.freshF)⟩,
   Wd.le_addF p.g.freshF, if_pos rfl⟩
theorem Z.pre.newM {W : Wd} {s : Shared} (p : z.pre W σ s) {x : Obj} (hf : x.isFreed = false) {y : MO} {toks dr}
    (m : MR z.c.prog z.c.w (W.addR σ.nx s.heap.objs.size) (s.heap.push x) s.heap.objs.size y) :
    z.pre (W.addR σ.nx s.heap.objs.size) ⟨σ.m, upd σ.o σ.nx y, σ.nx + 1⟩ ⟨s.heap.push x, s.gens, dr, toks, s.os⟩ ∧ W.le (W.addR σ.nx s.heap.objs.size) ∧ (W.addR σ.nx s.heap.objs.size).ρ σ.nx = some s.heap.objs.size :=
  have l := Wd.le_addR (W := W) (a := s.heap.objs.size) (p.g.fresh σ.nx (Nat.le_refl _))
  ⟨⟨p.g.newM hf m, (p.f.keeps fun b y e => Heap.get?_push_of_some _ e).mono l p.f.outF p.f.outP (fun n q => by
      simp only [Wd.addR] at q
      split at q
      · exact absurd (Option.some.inj q) (Nat.ne_of_gt p.f.lt)
      · exact p.f.outR n q), p.k.mono l⟩, l, if_pos rfl⟩
theorem Z.pre.put {W : Wd} {s : Shared} (p : z.pre W σ s) {n : Nat} {a : Addr} {x₀ : MO} (hn : σ.o n = some x₀) (ha : W.ρ n = some a) {h' : Heap} (hs : Heap.SameBut a s.heap h') {x : MO} (m : MR z.c.prog z.c.w W h' a x) {toks dr} :
    z.pre W ⟨σ.m, upd σ.o n x, σ.nx⟩ ⟨h', s.gens, dr, toks, s.os⟩ :=
  ⟨p.g.put hn ha hs m, ⟨let ⟨m', e, b⟩ := p.f.ns; ⟨m', e.sameBut hs (fun q => p.f.outR n (by rw [q]; exact ha)), b⟩, p.f.outF, p.f.outP, p.f.outR, p.f.cells⟩, p.k⟩
theorem Z.pre.loc {W : Wd} {s : Shared} (p : z.pre W σ s) {x : Str} {v : V} {u : Value} (hv : VR W v u) {m' : Str → Option Value} (hm : ∀ x v, σ.m.lookup x = some v → ∃ v', m' x = some v' ∧ VR W v v') {h' : Heap}
    (hn : h'.Ns z.env.locals fun y => if y = x then some u else m' y) (hs : Heap.SameBut z.env.locals s.heap h') {toks dr} : z.pre W (σ.set x v) ⟨h', s.gens, dr, toks, s.os⟩ :=
  ⟨p.g.move hs p.f.outF p.f.outP (fun n x e _ => e) (fun n x e q => absurd q (p.f.outR n)) (fun n x e => (p.g.mu n x e).imp fun a q => q.1) (by obtain ⟨o, _, _, e, _⟩ := hn; exact ⟨o, e⟩),
   ⟨⟨_, hn, fun y w e => by
      simp only [St.set, List.lookup_cons] at e
      by_cases hy : y = x
      · subst hy; simp at e; subst e; exact ⟨u, by simp, hv⟩
      · have : (y == x) = false := by simp [hy]
        rw [this] at e
        obtain ⟨v', a, b⟩ := hm y w e
        exact ⟨v', by simp [hy, a], b⟩⟩, p.f.outF, p.f.outP, p.f.outR, p.f.cells⟩, p.k⟩
end

structure Z.Ok (z : Z) (n : Nat) : Prop where
  kind : z.env.scope.kind = .function
  glob : z.env.globals = mainGlobals
  blt : z.env.builtins = builtinsNs
  hd : z.A.handled = none
  dep : z.A.depth + 2 * n ≤ 990
  uni : z.A.units + 30 * n ≤ 9000

structure Z.Call (z : Z) : Prop where
  fr : z.env.frame = some z.env.locals
  frs : z.A.frames = some (z.env :: z.outer)

section
variable {z : Z} {n : Nat} {σ : St} {Q : V → St → Prop} {QB : Bool → St → Prop} {QF : Fl → St → Prop} {QU : Unit → St → Prop} {QL : List V → St → Prop} {pos : Pos}

theorem R_loc {x : Str} {v : V} (h : Q v σ) (hl : σ.m.lookup x = some v) (hk : z.env.scope.kind = .function) (hx : z.env.kindOf x = some .local) (hd : (x == ("__debug__" : Str)) = false) : EX z VR (eval (.Name x pos) z.env) σ Q := fun W s p => by
  refine hideG fun R_ k_ => ?_
  obtain ⟨m', hn, hm⟩ := p.f.ns
  obtain ⟨v', e, r⟩ := hm x v hl
  refine k_ ?_
  clear k_
  exact wpAny_Name (wpAny_loadName_local hk hx hn e (here r p h)) hd
theorem R_cell {x : Str} {v : V} {k : Nat} (h : Q v σ) (hc : z.cl.lookup x = some k) (ho : σ.o k = some (.cell (some v))) (hk : z.env.scope.kind = .function) (hx : z.env.kindOf x = some .cell) (hd : (x == ("__debug__" : Str)) = false) : EX z VR (eval (.Name x pos) z.env) σ Q := fun W s p => by
  obtain ⟨a, e1, e2⟩ := p.f.cells x k hc
  obtain ⟨a', e3, ob, v', e4, e5, r⟩ := p.g.mu k _ ho
  obtain rfl := Option.some.inj (e2.symm.trans e3)
  obtain ⟨u, rfl, r⟩ := r.some_inv
  exact wpAny_Name (wpAny_loadName_cell hk hx e1 ⟨ob, e4, e5⟩ (here r p h)) hd
theorem R_free {x : Str} {v : V} {k : Nat} (h : Q v σ) (hc : z.cl.lookup x = some k) (ho : σ.o k = some (.cell (some v))) (hk : z.env.scope.kind = .function) (hx : z.env.kindOf x = some .free) (hd : (x == ("__debug__" : Str)) = false) (hd' : (x == ("__classdict__" : Str)) = false) : EX z VR (eval (.Name x pos) z.env) σ Q := fun W s p => by
  obtain ⟨a, e1, e2⟩ := p.f.cells x k hc
  obtain ⟨a', e3, ob, v', e4, e5, r⟩ := p.g.mu k _ ho
  obtain rfl := Option.some.inj (e2.symm.trans e3)
  obtain ⟨u, rfl, r⟩ := r.some_inv
  exact wpAny_Name (wpAny_loadName_free hk hx e1 ⟨ob, e4, e5⟩ (here r p h) hd') hd
theorem R_glob {x : Str} {u : Value} {v : V} (h : Q v σ) (hz : z.Ok n) (e : nsIn z.c.K mainGlobals x = some (some u)) (hv : ∀ W s, GS z.c W σ.o σ.nx s → VR W v u) (hx : z.env.kindOf x = some .globalImplicit) (hd : (x == ("__debug__" : Str)) = false) : EX z VR (eval (.Name x pos) z.env) σ Q := fun W s p =>
  Name_function_global hz.kind hx (loadGlobal_global (by rw [hz.glob]; exact p.g.ok.g.keeps p.g.keep) (mg_of p.g.ok.X p.g.ok.g e) (here (hv W s p.g) p h)) hd
theorem R_con {x : Str} {u : Value} (h : Q (.con u) σ) (hz : z.Ok n) (e : nsIn z.c.K mainGlobals x = some (some u)) (hx : z.env.kindOf x = some .globalImplicit) (hd : (x == ("__debug__" : Str)) = false) : EX z VR (eval (.Name x pos) z.env) σ Q :=
  R_glob h hz e (fun _ _ _ => .con) hx hd
theorem R_blt {x : Str} {u : Value} (h : Q (.con u) σ) (hz : z.Ok n) (e : nsIn z.c.K mainGlobals x = some none) (hb : bootBuiltins x = some u) (hn : x ≠ "__name__") (hx : z.env.kindOf x = some .globalImplicit) (hd : (x == ("__debug__" : Str)) = false) : EX z VR (eval (.Name x pos) z.env) σ Q := fun W s p =>
  Name_function_global hz.kind hx (loadGlobal_builtin (by rw [hz.glob]; exact p.g.ok.g.keeps p.g.keep) (mg_none_of p.g.ok.X p.g.ok.g e) (by rw [hz.blt]; exact p.g.ok.b.keeps p.g.keep) ((p.g.ok.bi x hn).trans hb) (here .con p h)) hd

theorem R_int {i k} (h : Q (.int i) σ) : EX z VR (eval (.Constant (.int i) k pos) z.env) σ Q := fun W s p => wpAny_Constant_int (here .int p.toks h)
theorem R_str {x k} (h : Q (.str x) σ) : EX z VR (eval (.Constant (.str x) k pos) z.env) σ Q := fun W s p => Constant_str (here .str p.toks h)
theorem R_bool {b k} (h : Q (.bool b) σ) : EX z VR (eval (.Constant (.bool b) k pos) z.env) σ Q := fun W s p => Constant_bool (here .bool p h)
theorem R_none {k} (h : Q .none σ) : EX z VR (eval (.Constant .none k pos) z.env) σ Q := fun W s p => Constant_none (here .none p h)

theorem R_bin {l op r} (h : EX z VR (eval l z.env) σ fun a σ1 => EX z VR (eval r z.env) σ1 fun b σ2 => O2 z VR a b (binaryOp op) σ2 Q) : EX z VR (eval (.BinOp l op r pos) z.env) σ Q := fun W s p =>
  wpAny_BinOp (seq .rfl' h p fun W1 a σ1 va s1 l1 ra p1 q1 => seq l1 q1 p1 fun W2 b σ2 vb s2 l2 rb p2 q2 => fin (l1.trans l2) (q2 W2 s2 va vb (ra.mono l2) rb p2))
theorem R_cmp {l op r} (h : EX z VR (eval l z.env) σ fun a σ1 => EX z VR (eval r z.env) σ1 fun b σ2 => O2 z VR a b (compareOp op) σ2 Q) (hm : behindInMarks op r = false) : EX z VR (eval (.Compare l [op] [r] pos) z.env) σ Q := fun W s p =>
  wpAny_Compare1 (seq .rfl' h p fun W1 a σ1 va s1 l1 ra p1 q1 => seq l1 q1 p1 fun W2 b σ2 vb s2 l2 rb p2 q2 => fin (l1.trans l2) (q2 W2 s2 va vb (ra.mono l2) rb p2)) hm
theorem R_not {e} (h : EX z VR (eval e z.env) σ fun a σ1 => O1 z RB a truthy σ1 fun b σ2 => Q (.bool (!b)) σ2) : EX z VR (eval (.UnaryOp .Not e pos) z.env) σ Q := fun W s p =>
  UnaryOp_ (seq .rfl' h p fun W1 a σ1 va s1 l1 ra p1 q1 => not_of (seq1 l1 q1 ra p1 fun W2 b σ2 vb s2 l2 rb p2 q2 => by induction rb; exact there (l1.trans l2) .bool p2 q2))
theorem R_ife {t b o} (h : EX z RB (isTrue t z.env (eval t z.env)) σ fun c σ1 => if c then EX z VR (eval b z.env) σ1 Q else EX z VR (eval o z.env) σ1 Q) : EX z VR (eval (.IfExp t b o pos) z.env) σ Q := fun W s p =>
  IfExp_ (seq .rfl' h p fun W1 a σ1 va s1 l1 ra p1 q1 => by induction ra; induction a <;> exact fin l1 (q1 W1 s1 p1))
theorem R_bool1 {op e} (h : EX z VR (eval e z.env) σ Q) : EX z VR (eval (.BoolOp op [e] pos) z.env) σ Q := fun W s p => BoolOp_one (h W s p)
theorem R_and {e₁ e₂ rest} (h : EX z VR (eval e₁ z.env) σ fun v σ1 => O1 z RB v truthy σ1 fun c σ2 => if c then EX z VR (eval (.BoolOp .And (e₂ :: rest) pos) z.env) σ2 Q else Q v σ2) : EX z VR (eval (.BoolOp .And (e₁ :: e₂ :: rest) pos) z.env) σ Q := fun W s p =>
  BoolOp_and (seq .rfl' h p fun W1 a σ1 va s1 l1 ra p1 q1 => seq1 l1 q1 ra p1 fun W2 b σ2 vb s2 l2 rb p2 q2 => by
    cases rb; cases b
    · exact there (l1.trans l2) (ra.mono l2) p2 q2
    · exact fin (l1.trans l2) (q2 W2 s2 p2))
theorem R_or {e₁ e₂ rest} (h : EX z VR (eval e₁ z.env) σ fun v σ1 => O1 z RB v truthy σ1 fun c σ2 => if c then Q v σ2 else EX z VR (eval (.BoolOp .Or (e₂ :: rest) pos) z.env) σ2 Q) : EX z VR (eval (.BoolOp .Or (e₁ :: e₂ :: rest) pos) z.env) σ Q := fun W s p =>
  BoolOp_or (seq .rfl' h p fun W1 a σ1 va s1 l1 ra p1 q1 => seq1 l1 q1 ra p1 fun W2 b σ2 vb s2 l2 rb p2 q2 => by
    cases rb; cases b
    · exact fin (l1.trans l2) (q2 W2 s2 p2)
    · exact there (l1.trans l2) (ra.mono l2) p2 q2)

theorem T_cmp {l op r whole} (h : EX z VR (eval l z.env) σ fun a σ1 => EX z VR (eval r z.env) σ1 fun b σ2 => O2 z VR a b (compareOp op) σ2 fun c σ3 => O1 z RB c truthy σ3 QB) (hm : behindInMarks op r = false) : EX z RB (isTrue (.Compare l [op] [r] pos) z.env whole) σ QB := fun W s p =>
  wpAny_isTrue_Compare1 (seq .rfl' h p fun W1 a σ1 va s1 l1 ra p1 q1 => seq l1 q1 p1 fun W2 b σ2 vb s2 l2 rb p2 q2 => seq2 (l1.trans l2) q2 (ra.mono l2) rb p2 fun W3 c σ3 vc s3 l3 rc p3 q3 => fin ((l1.trans l2).trans l3) (q3 W3 s3 vc rc p3)) hm
theorem T_not {e whole} (h : EX z RB (isTrue e z.env (eval e z.env)) σ fun b σ1 => QB (!b) σ1) : EX z RB (isTrue (.UnaryOp .Not e pos) z.env whole) σ QB := fun W s p =>
  isTrue_not (seq .rfl' h p fun W1 a σ1 va s1 l1 ra p1 q1 => by induction ra; exact there l1 rfl p1 q1)
theorem T_and_nil {whole} (h : QB true σ) : EX z RB (isTrue (.BoolOp .And [] pos) z.env whole) σ QB := fun W s p => isTrue_and_nil (here rfl p h)
theorem T_or_nil {whole} (h : QB false σ) : EX z RB (isTrue (.BoolOp .Or [] pos) z.env whole) σ QB := fun W s p => isTrue_or_nil (here rfl p h)
theorem T_and {e rest whole} (h : EX z RB (isTrue e z.env (eval e z.env)) σ fun b σ1 => if b then EX z RB (isTrue (.BoolOp .And rest pos) z.env whole) σ1 QB else QB false σ1) : EX z RB (isTrue (.BoolOp .And (e :: rest) pos) z.env whole) σ QB := fun W s p =>
  isTrue_and (seq .rfl' h p fun W1 a σ1 va s1 l1 ra p1 q1 => by
    subst ra; induction a
    · exact there l1 rfl p1 q1
    · exact fin l1 (q1 W1 s1 p1))
theorem T_or {e rest whole} (h : EX z RB (isTrue e z.env (eval e z.env)) σ fun b σ1 => if b then QB true σ1 else EX z RB (isTrue (.BoolOp .Or rest pos) z.env whole) σ1 QB) : EX z RB (isTrue (.BoolOp .Or (e :: rest) pos) z.env whole) σ QB := fun W s p =>
  isTrue_or (seq .rfl' h p fun W1 a σ1 va s1 l1 ra p1 q1 => by
    induction ra; induction a
    · exact fin l1 (q1 W1 s1 p1)
    · exact there l1 rfl p1 q1)
theorem T_plain {e} (h : EX z VR (eval e z.env) σ fun v σ1 => O1 z RB v truthy σ1 QB) (he : isTrue e z.env (eval e z.env) = (do let v ← eval e z.env; standAt e.pos; holding [v] (truthy v))) : EX z RB (isTrue e z.env (eval e z.env)) σ QB := fun W s p =>
  isTrue_plain (seq .rfl' h p fun W1 a σ1 va s1 l1 ra p1 q1 => fin l1 (q1 W1 s1 va ra p1)) he

theorem U_bool {b : Bool} (h : QB b σ) : O1 z RB (.bool b) truthy σ QB := fun W s x r p => by obtain rfl := r.inv; exact wpAny_truthy_bool (here rfl p h)
theorem U_none (h : QB false σ) : O1 z RB .none truthy σ QB := fun W s x r p => by obtain rfl := r.inv; exact truthy_none (here rfl p h)

theorem S_nil (h : QF .next σ) : EX z FlR (execs [] z.env) σ QF := fun W s p => wpAny_execs_nil (here (b := Fl.next) trivial p h)
theorem S_cons {st rest} (h : EX z FlR (exec st z.env) σ fun f σ1 => match f with | .next => EX z FlR (execs rest z.env) σ1 QF | f => QF f σ1) : EX z FlR (execs (st :: rest) z.env) σ QF := fun W s p =>
  wpAny_execs_cons (seq .rfl' h p fun W1 a σ1 va s1 l1 ra p1 q1 => by
    induction a <;> induction va <;> first | exact ra.elim | exact fin l1 (q1 W1 s1 p1) | exact there l1 ra p1 q1)
theorem S_pass (h : QF .next σ) : EX z FlR (exec (.Pass pos) z.env) σ QF := fun W s p => wpAny_Pass (here (b := Fl.next) trivial p h)
theorem S_attr {o attr pos' value} (h : EX z VR (eval value z.env) σ fun v σ1 => EX z VR (eval o z.env) σ1 fun ov σ2 => O2 z RU ov v (fun a b => setAttr a attr b) σ2 fun _ σ3 => QF .next σ3) (hs : swapsWith value (some (.Attribute o attr pos')) pos.line z.env = pure false) : EX z FlR (exec (.Assign [.Attribute o attr pos'] value pos) z.env) σ QF := fun W s p =>
  plainObj_wpAny_Assign_Attribute (seq .rfl' h p fun W1 a σ1 va s1 l1 ra p1 q1 => seq l1 q1 p1 fun W2 b σ2 vb s2 l2 rb p2 q2 => seq2 (l1.trans l2) q2 rb (ra.mono l2) p2 fun W3 c σ3 vc s3 l3 rc p3 q3 => there ((l1.trans l2).trans l3) (b := Fl.next) trivial p3 q3) hs
theorem S_sub {o i pos' value} (h : EX z VR (eval value z.env) σ fun v σ1 => EX z VR (eval o z.env) σ1 fun ov σ2 => EX z VR (eval i z.env) σ2 fun iv σ3 => O3 z RU ov iv v (fun a b c => setItem a b c) σ3 fun _ σ4 => QF .next σ4) (hs : swapsWith value (some (.Subscript o i pos')) pos.line z.env = pure false) : EX z FlR (exec (.Assign [.Subscript o i pos'] value pos) z.env) σ QF := fun W s p =>
  wpAny_Assign_Subscript (seq .rfl' h p fun W1 a σ1 va s1 l1 ra p1 q1 => seq l1 q1 p1 fun W2 b σ2 vb s2 l2 rb p2 q2 => seq (l1.trans l2) q2 p2 fun W3 c σ3 vc s3 l3 rc p3 q3 => seq3 ((l1.trans l2).trans l3) q3 (rb.mono l3) rc (ra.mono (l2.trans l3)) p3 fun W4 d σ4 vd s4 l4 rd p4 q4 => there (((l1.trans l2).trans l3).trans l4) (b := Fl.next) trivial p4 q4) hs
theorem S_if {t b o} (h : EX z RB (isTrue t z.env (eval t z.env)) σ fun c σ1 => if c then EX z FlR (execs b z.env) σ1 QF else EX z FlR (execs o z.env) σ1 QF) : EX z FlR (exec (.If t b o pos) z.env) σ QF := fun W s p =>
  wpAny_If (seq .rfl' h p fun W1 a σ1 va s1 l1 ra p1 q1 => by induction ra; induction a <;> exact fin l1 (q1 W1 s1 p1))
theorem S_ret {e} (h : EX z VR (eval e z.env) σ fun v σ1 => QF (.ret v) σ1) : EX z FlR (exec (.Return (some e) pos) z.env) σ QF := fun W s p =>
  wpAny_Return_some (seq .rfl' h p fun W1 a σ1 va s1 l1 ra p1 q1 => there l1 (b := Fl.ret a) ra p1 q1)
theorem S_ret0 (h : QF (.ret .none) σ) : EX z FlR (exec (.Return none pos) z.env) σ QF := fun W s p => wpAny_Return_none (here (b := Fl.ret .none) VR.none p h)
theorem S_expr {e} (h : EX z VR (eval e z.env) σ fun _ σ1 => QF .next σ1) (hi : interactive z.env = false) (hs : swapsWith e none pos.line z.env = pure false) : EX z FlR (exec (.Expr e pos) z.env) σ QF := fun W s p =>
  wpAny_Expr_any (seq .rfl' h p fun W1 a σ1 va s1 l1 ra p1 q1 => there l1 (b := Fl.next) trivial p1 q1) hi hs
end
end Mine
end

section
open PySem PySem.W PySem.Calls PyProof.Rows
set_option Elab.async false
set_option linter.unusedVariables false
set_option autoImplicit true
set_option maxRecDepth 100000
set_option tactic.hygienic false
namespace Mine

noncomputable def V.isCon : V → Bool
  | .con _ => true
  | _ => false
theorem handed_of {W : Wd} {v : V} {x : Value} (h : VR W v x) (hc : v.isCon = false) : handedIn x = true := by
  induction h <;> first | rfl | cases hc

noncomputable def setF (x : Str) (v : V) : List (Str × V) → List (Str × V)
  | [] => [(x, v)]
  | (y, u) :: r => if y == x then (y, v) :: r else (y, u) :: setF x v r

theorem setF_lookup (x : Str) (v : V) : ∀ (f : List (Str × V)) (y : Str), (setF x v f).lookup y = if y = x then some v else f.lookup y
  | [], y => by
    by_cases h : y = x
    · subst h; simp [setF]
    · have : (y == x) = false := by simp [h]
      simp [setF, List.lookup, this, h]
  | (z, u) :: r, y => by
    unfold setF
    by_cases hz : z = x
    · subst hz
      simp only [beq_self_eq_true, if_true, List.lookup_cons]
      by_cases h : y = z
      · subst h; simp
      · have : (y == z) = false := by simp [h]
        simp [this, h]
    · have hz' : (z == x) = false := by simp [hz]
      simp only [hz', Bool.false_eq_true, if_false, List.lookup_cons]
      by_cases h : y = z
      · subst h
        have : ¬ y = x := hz
        simp [this]
      · have : (y == z) = false := by simp [h]
        simp only [this]
        exact setF_lookup x v r y

theorem setF_length (x : Str) (v : V) : ∀ (f : List (Str × V)), (setF x v f).length = if (f.lookup x).isSome then f.length else f.length + 1
  | [] => rfl
  | (z, u) :: r => by
    unfold setF
    by_cases hz : z = x
    · subst hz; simp [List.lookup]
    · have hz' : (z == x) = false := by simp [hz]
      have hz'' : (x == z) = false := by simp [Ne.symm hz]
      simp only [hz', Bool.false_eq_true, if_false, List.length_cons, List.lookup_cons, hz'']
      rw [setF_length x v r]
      split <;> rfl

structure ClsOk (K : Frag) (C : Addr) : Prop where
  get : findIn K (.ref C) "__getattribute__" = some (some (.builtin "object.__getattribute__"))
  hook : findIn K (.ref C) "__getattr__" = some none
  dict : hasDictIn K C = true
  set : findIn K (.ref C) "__setattr__" = some (some (.builtin "object.__setattr__"))
  plain : plainOver K C = true

theorem instAt {c W o nx s} (g : GS c W o nx s) {C a d : Addr} {od : Obj} (e1 : W.F a = some (instObj C d)) (e2 : s.heap.get? d = some od) : PySem.W.InstAt s.heap a (instObj C d) C (some od) :=
  ⟨g.fz _ _ e1, rfl, rfl, e2⟩

section
variable {z : Z} {n : Nat} {σ : St} {Q : V → St → Prop} {QB : Bool → St → Prop} {QF : Fl → St → Prop} {QU : Unit → St → Prop} {QL : List V → St → Prop} {pos : Pos} {C : Addr} {k : Nat} {attr : Str}

theorem R_attr {o} (h : EX z VR (eval o z.env) σ fun ov σ1 => O1 z VR ov (fun a => getAttr a attr true) σ1 Q)
    (he : eval (.Attribute o attr pos) z.env = (do let ov ← eval o z.env; standAt pos.atName; let r ← holding [ov] (getAttr ov attr true); letTemporaryGo o ov r; pure r)) : EX z VR (eval (.Attribute o attr pos) z.env) σ Q := fun W s p =>
  Attribute_any_ (seq .rfl' h p fun W1 a σ1 va s1 l1 ra p1 q1 => fin l1 (q1 W1 s1 va ra p1)) he

theorem G_ins {ex : Bool} {f : List (Str × V)} {v : V} (h : Q v σ) (ho : σ.o k = some (.ns f)) (hl : f.lookup attr = some v) (hc : ClsOk z.c.K C) (hf : findIn z.c.K (.ref C) attr = some none) (hv : v.isCon = false) : O1 z VR (.ins C k) (fun a => getAttr a attr ex) σ Q := fun W s x r p => by
  obtain ⟨_, _, rfl, e1, e2⟩ := r.inv
  refine hideG fun R_ k_ => ?_
  obtain ⟨d, ed, es, m, eo, h1, h2, h3⟩ := p.g.mu k _ ho
  obtain rfl := Option.some.inj (e2.symm.trans ed)
  have q := h3 attr
  refine k_ ?_
  clear k_
  rw [hl] at q
  refine hideG fun R_ k_ => ?_
  obtain ⟨v', e4, r4⟩ := q.some_inv
  refine k_ ?_
  clear k_
  exact get_value p.g.In (instAt p.g e1 eo) hc.get (findObj_own hc.dict hf rfl (by rw [lookIn_dict, getL_fnd h2, e4])) (handed_of r4 hv) (here r4 p.toks h)
theorem G_pieC {ex : Bool} {c r : V} (h : Q c σ) (hc : ClsOk z.c.K C) (hf : findIn z.c.K (.ref C) "codes" = some none) (hv : c.isCon = false) : O1 z VR (.pie C c r) (fun a => getAttr a "codes" ex) σ Q := fun W s x rr p => by
  obtain ⟨_, _, _, _, _, _, rfl, e1, e2, e3, e4, r1, r2⟩ := rr.inv
  exact get_value p.g.In (instAt p.g e1 (p.g.fz _ _ e2)) hc.get (findObj_own hc.dict hf rfl (by rw [lookIn_dict]; exact e3)) (handed_of r1 hv) (here r1 p.toks h)
end

theorem isStr_str {k : Value} {n y : Str} {t : Tok} (h : k = .str n t) : k.isStr y = decide (n = y) := by subst h; rfl
theorem fnd_cons (y : Str) (e : DictEntry) (r : List DictEntry) : fnd y (e :: r) = if e.key.isStr y then some e.val else fnd y r := by
  unfold fnd; rw [List.find?_cons]; cases e.key.isStr y <;> rfl
theorem fnd_putL {name : Str} {hsh : Int} {t : Tok} {u : Value} (es : List DictEntry) (y : Str) (hk : StrK es) : fnd y (putL name hsh (.str name t) u es) = if y = name then some u else fnd y es := by
  induction es with
  | nil =>
    refine (fnd_cons _ _ _).trans ?_
    rw [isStr_str rfl]
    by_cases h : y = name
    · rw [if_pos h, if_pos (decide_eq_true h.symm)]
    · rw [if_neg h, if_neg (fun q => h (of_decide_eq_true q).symm)]
  | cons e r ih =>
    obtain ⟨n, tk, he⟩ := hk e (.head _)
    unfold putL
    rw [isStr_str he, fnd_cons, isStr_str he]
    by_cases hn : n = name
    · subst hn
      rw [if_pos (decide_eq_true rfl), fnd_cons, isStr_str he]
      by_cases h : y = n
      · rw [if_pos h, if_pos (decide_eq_true h.symm)]
      · have q : ¬ decide (n = y) = true := fun q => h (of_decide_eq_true q).symm
        rw [if_neg h, if_neg q, if_neg q]
    · rw [if_neg (fun q => hn (of_decide_eq_true q)), fnd_cons, isStr_str he, ih (fun x hx => hk x (.tail _ hx))]
      by_cases h : n = y
      · subst h; rw [if_pos (decide_eq_true rfl), if_pos (decide_eq_true rfl), if_neg hn]
      · have q : ¬ decide (n = y) = true := fun q => h (of_decide_eq_true q)
        rw [if_neg q, if_neg q]
theorem putL_strK {name : Str} {hsh : Int} {t : Tok} {u : Value} (es : List DictEntry) (hk : StrK es) : StrK (putL name hsh (.str name t) u es) := by
  induction es with
  | nil => exact fun e he => by cases List.mem_singleton.mp he; exact ⟨_, _, rfl⟩
  | cons e r ih =>
    intro x hx
    unfold putL at hx
    have k' := fun y hy => hk y (List.Mem.tail _ hy)
    by_cases h : e.key.isStr name = true
    · rw [if_pos h] at hx
      cases hx with
      | head => exact hk e (.head _)
      | tail _ hx => exact k' x hx
    · rw [if_neg h] at hx
      cases hx with
      | head => exact hk _ (.head _)
      | tail _ hx => exact ih k' x hx
theorem putL_length {name : Str} {hsh : Int} {t : Tok} {u : Value} (es : List DictEntry) (hk : StrK es) : (putL name hsh (.str name t) u es).length = if (fnd name es).isSome then es.length else es.length + 1 := by
  clear hk
  induction es with
  | nil => rfl
  | cons e r ih =>
    unfold putL
    rw [fnd_cons]
    by_cases hn : e.key.isStr name = true
    · rw [if_pos hn, if_pos hn]; rfl
    · rw [if_neg hn, if_neg hn, List.length_cons, ih]
      cases (fnd name r).isSome <;> rfl
theorem NsR.set {W : Wd} {es : List DictEntry} {f : List (Str × V)} (h : NsR W es f) {name : Str} {hsh : Int} {t : Tok} {v : V} {u : Value} (r : VR W v u) : NsR W (putL name hsh (.str name t) u es) (setF name v f) := by
  refine ⟨?_, putL_strK _ h.2.1, fun x => ?_⟩
  · rw [putL_length _ h.2.1, setF_length]
    have q := h.2.2 name
    have := h.1
    cases e1 : f.lookup name with
    | none => rw [e1] at q; rw [q.none_inv]; simpa using this
    | some w => rw [e1] at q; obtain ⟨y, e2, _⟩ := q.some_inv; rw [e2]; simpa using this
  · rw [fnd_putL _ _ h.2.1, setF_lookup]
    split
    · exact r
    · exact h.2.2 x

section
variable {z : Z} {n : Nat} {σ : St} {Q : V → St → Prop} {QB : Bool → St → Prop} {QF : Fl → St → Prop} {QU : Unit → St → Prop} {QL : List V → St → Prop} {pos : Pos} {C : Addr} {k : Nat} {attr : Str}

theorem G_set {f : List (Str × V)} {v : V} (h : QU () ⟨σ.m, upd σ.o k (.ns (setF attr v f)), σ.nx⟩) (ho : σ.o k = some (.ns f)) (hlen : f.length ≤ 900) (hc : ClsOk z.c.K C) (hf : findIn z.c.K (.ref C) attr = some none) : O2 z RU (.ins C k) v (fun a b => setAttr a attr b) σ QU := fun W s x u r rv p => by
  obtain ⟨a, d, rfl, e1, e2⟩ := r.inv
  refine hideG fun R_ k_ => ?_
  obtain ⟨d', ed, es, m, eo, hr⟩ := p.g.mu k _ ho
  obtain rfl := Option.some.inj (e2.symm.trans ed)
  refine k_ ?_
  clear k_
  have I := instAt p.g e1 eo
  refine set_plain p.g.In I hc.set ?_
  refine osa_open (s := { s with toks := s.toks + 1 }) p.g.In I hc.plain (show takerIn _ _ _ = some none by unfold takerIn; rw [hf]; rfl) fun b => ?_
  obtain ⟨cd, hcd, hd'⟩ := any_some hc.dict
  have D : s.heap.get? d = some (dictOf es m) := eo
  have F' : (Obj.putName attr (PyData.keyHash z.c.w.params attr) (.str attr (s.toks + 1)) u (dictOf es m)) = dictOf (putL attr (PyData.keyHash z.c.w.params attr) (.str attr (s.toks + 1)) u es) (putN attr es m) := putName_dict ..
  have D' := Heap.get?_update_self (Obj.putName attr (PyData.keyHash z.c.w.params attr) (.str attr (s.toks + 1)) u) D (by rw [F']; rfl)
  have hx := I.at_
  refine wpAny_bind (wpAny_pure (wpAny_bind (wpAny_bind (wpAny_loadPart hx (wpAny_bind ((looks_clsIn p.g.In hcd).at ?_))))))
  rw [hd']
  refine wpAny_pure (a := some d) (wpAny_bind (wpAny_pure (wpAny_bind ?_)))
  unfold nsSet
  refine wpAny_bind (wpAny_bind (wpAny_askSetting (wpAny_pure (wpAny_bind (wpAny_mkText (wpAny_bind (wpAny_loadPart D ?_)))))))
  dsimp only
  have c : (!es.toArray.any (·.key.isStr attr) && es.toArray.any (·.refKey)) = false := by
    have : es.any (·.refKey) = false := by
      rw [List.any_eq_false]
      intro x hx
      refine hideG fun R_ k_ => ?_
      obtain ⟨n, t, hk⟩ := hr.2.1 x hx
      refine k_ ?_
      clear k_
      simp [DictEntry.refKey, hk]
    rw [← Array.any_toList, ← Array.any_toList]
    simp [this]
  rw [aRefKeyMayBeTheName_at, c]
  refine wpAny_updatePart D ?_
  refine wpAny_bind (wpAny_lookBehind D' (by rw [F']; exact pastItsLine_dict (by
    rw [List.size_toArray, sizeLine_eq, putL_length _ hr.2.1]
    have := hr.1
    split <;> lia)) ?_)
  exact wpAny_pure (here (b := ()) trivial (p.put ho e2 (Heap.SameBut.update ..) (x := .ns (setF attr v f)) ⟨_, _, F' ▸ D', hr.set rv⟩) h)
end
end Mine
end

section
open PySem PySem.W PySem.Calls PyProof.Rows
set_option Elab.async false
set_option linter.unusedVariables false
set_option autoImplicit true
set_option maxRecDepth 100000
set_option tactic.hygienic false
namespace Mine

noncomputable def CW (z : Z) (fv : V) (first : List V) (args : List Expr) (pos : Pos) (σ : St) (Q : V → St → Prop) : Prop :=
  ∀ W s x xs, VR W fv x → VRs W first xs → z.pre W σ s → wpAny (model z.c.prog z.c.w) z.A (callWith pos x xs (backTo pos (starEach args z.env)) []) (z.post VR Q W) (z.XE.p W) s
noncomputable def GM (z : Z) (ov : V) (name : Str) (pl : Sem Bool) (args : List Expr) (pos : Pos) (σ : St) (Q : V → St → Prop) : Prop :=
  ∀ W s x, VR W ov x → z.pre W σ s → wpAny (model z.c.prog z.c.w) z.A (getMethod x name pl) (fun fx s₂ => wpAny (model z.c.prog z.c.w) z.A (callWith pos fx.1 fx.2 (backTo pos (starEach args z.env)) []) (z.post VR Q W) (z.XE.p W) s₂) (z.XE.p W) s

inductive FSok (c : Cx) (Q : V → (Nat → Option MO) → Nat → Prop) (W : Wd) (v : Value) (s' : Shared) : Prop
  | mk (W' : Wd) (b : V) (o' : Nat → Option MO) (nx' : Nat) (l : W.le W') (r : VR W' b v) (g : GS c W' o' nx' s') (q : Q b o' nx') : FSok c Q W v s'
inductive FSer (c : Cx) (Fly : Wd → Value → Shared → Prop) (QE : (Nat → Option MO) → Nat → Prop) (W : Wd) (e : Value) (s' : Shared) : Prop
  | mk (W' : Wd) (o' : Nat → Option MO) (nx' : Nat) (l : W.le W') (g : GS c W' o' nx' s') (f : Fly W' e s') (q : QE o' nx') : FSer c Fly QE W e s'
noncomputable def FS (c : Cx) (Fly : Wd → Value → Shared → Prop) (n : Nat) (f : Value) (vs : List V) (o : Nat → Option MO) (nx : Nat) (Q : V → (Nat → Option MO) → Nat → Prop) (QE : (Nat → Option MO) → Nat → Prop) : Prop :=
  ∀ A outer W s xs, A.frames = some outer → A.handled = none → A.depth + 2 * n ≤ 990 → A.units + 30 * n ≤ 9000 → GS c W o nx s → Stk W outer → VRs W vs xs →
   codeAny (model c.prog c.w) A (.call f ⟨xs, []⟩) (fun r s' => match r with
     | .ok (.ret v) => FSok c Q W v s'
     | .ok _ => False
     | .error e => FSer c Fly QE W e s') s
noncomputable def noFly : Wd → Value → Shared → Prop := fun _ _ _ => False
noncomputable abbrev FN (c : Cx) (n : Nat) (f : Value) (vs : List V) (o : Nat → Option MO) (nx : Nat) (Q : V → (Nat → Option MO) → Nat → Prop) : Prop := FS c noFly n f vs o nx Q fun _ _ => False

section
variable {z : Z} {n : Nat} {σ : St} {Q : V → St → Prop} {QL : List V → St → Prop} {pos : Pos} {C : Addr} {k : Nat}

theorem A_nil (h : QL [] σ) : EX z VRs (spliced (backTo pos (starEach [] z.env))) σ QL := fun W s p => spliced_nil (here VRs.nil p h)
theorem A_cons {e : Expr} {rest : List Expr} (h : EX z VR (eval e z.env) σ fun v σ1 => EX z VRs (spliced (backTo pos (starEach rest z.env))) σ1 fun vs σ2 => QL (v :: vs) σ2)
    (he : starEach (e :: rest) z.env = (false, eval e z.env) :: starEach rest z.env) : EX z VRs (spliced (backTo pos (starEach (e :: rest) z.env))) σ QL := fun W s p => by
  rw [he]
  exact spliced_cons (seq .rfl' h p fun W1 a σ1 va s1 l1 ra p1 q1 => seq l1 q1 p1 fun W2 b σ2 vb s2 l2 rb p2 q2 => there (l1.trans l2) (.cons (ra.mono l2) rb) p2 q2)

theorem R_call {f : Expr} {args : List Expr} (h : EX z VR (eval f z.env) σ fun fv σ1 => CW z fv [] args pos σ1 Q)
    (he : eval (.Call f args [] pos) z.env = (do callWith pos (← eval f z.env) [] (backTo pos (starEach args z.env)) (backToKw pos (keywordEach [] z.env)))) : EX z VR (eval (.Call f args [] pos) z.env) σ Q := fun W s p =>
  Call_ (seq .rfl' h p fun W1 a σ1 va s1 l1 ra p1 q1 => fin l1 (q1 W1 s1 va [] ra .nil p1)) he
theorem R_mcall {o : Expr} {name : Str} {apos : Pos} {args : List Expr} {pl : Sem Bool} (h : EX z VR (eval o z.env) σ fun ov σ1 => GM z ov name pl args pos σ1 Q)
    (he : eval (.Call (.Attribute o name apos) args [] pos) z.env = (do
      let ov ← eval o z.env
      standAt apos.atName
      let (f, first) ← holding [ov] (getMethod ov name pl)
      callWith pos f first (backTo pos (starEach args z.env)) [])) : EX z VR (eval (.Call (.Attribute o name apos) args [] pos) z.env) σ Q := fun W s p =>
  MethodCall_ (seq .rfl' h p fun W1 a σ1 va s1 l1 ra p1 q1 => wpAny_mono (q1 W1 s1 va ra p1) (fun fx s2 h2 => fin l1 h2) fun _ _ e => z.XE.mono l1 e) he

theorem GM_ins {name : Str} {pl : Sem Bool} {args : List Expr} {f : List (Str × V)} {fa : Addr} (h : CW z (.con (.ref fa)) [.ins C k] args pos σ Q) (ho : σ.o k = some (.ns f)) (hl : f.lookup name = none) (hc : ClsOk z.c.K C)
    (hf : findIn z.c.K (.ref C) name = some (some (.ref fa))) (ht : typeIn z.c.K (.ref fa) = some (.type "function")) : GM z (.ins C k) name pl args pos σ Q := fun W s x r p => by
  obtain ⟨a, d, rfl, e1, e2⟩ := r.inv
  refine hideG fun R_ k_ => ?_
  obtain ⟨d', ed, es, m, eo, hr⟩ := p.g.mu k _ ho
  obtain rfl := Option.some.inj (e2.symm.trans ed)
  refine k_ ?_
  clear k_
  have q := hr.2.2 name
  rw [hl] at q
  exact method_fn p.g.In (instAt p.g e1 eo) hc.get hc.hook hf ht (by show (lookIn name (dictOf es m)).map _ = _; rw [lookIn_dict, getL_fnd hr.2.1, q.none_inv]; rfl) (h W s _ _ .con (.cons (.ins e1 e2) .nil) p)
theorem GM_list {name : Str} {id : String} {pl : Sem Bool} {args : List Expr} {vs : List V} (h : CW z (.con (.builtin id)) [.ref k] args pos σ Q) (ho : σ.o k = some (.list vs)) (slot : Slot "list" name id) (ht : typeOf (.builtin id) = pure (.type "method_descriptor")) : GM z (.ref k) name pl args pos σ Q := fun W s x r p => by
  obtain ⟨a, rfl, e1⟩ := r.inv
  refine hideG fun R_ k_ => ?_
  obtain ⟨a', ed, xs, m, eo, hr⟩ := p.g.mu k _ ho
  obtain rfl := Option.some.inj (e1.symm.trans ed)
  refine k_ ?_
  clear k_
  exact getMethod_builtin ⟨_, eo, rfl⟩ PySem.F.plainAttrs_list slot ht (fun b e => by cases e; exact ⟨_, eo, rfl⟩) (h W s _ _ .con (.cons (.ref e1) .nil) p)
theorem GM_imap {name : Str} {id : String} {pl : Sem Bool} {args : List Expr} {mp : Int → Option V} {m} (h : CW z (.con (.builtin id)) [.ref k] args pos σ Q) (ho : σ.o k = some (.imap mp m)) (slot : Slot "dict" name id) (ht : typeOf (.builtin id) = pure (.type "method_descriptor")) : GM z (.ref k) name pl args pos σ Q := fun W s x r p => by
  obtain ⟨a, rfl, e1⟩ := r.inv
  refine hideG fun R_ k_ => ?_
  obtain ⟨a', ed, kvs, hm, d, rr⟩ := p.g.mu k _ ho
  obtain ⟨o, es, ep, eo, hx, hr⟩ := hm
  obtain rfl := Option.some.inj (e1.symm.trans ed)
  refine k_ ?_
  clear k_
  exact getMethod_builtin ⟨_, eo, hx.1⟩ PySem.F.plainAttrs_dict slot ht (fun b e => by cases e; exact ⟨_, eo, hx.2.1⟩) (h W s _ _ .con (.cons (.ref e1) .nil) p)

theorem CW_fn {fa : Addr} {first : List V} {e : Expr} {rest : List Expr} (h : EX z VRs (spliced (backTo pos (starEach (e :: rest) z.env))) σ fun vs σ1 => OL z VR (first ++ vs) (fun xs => call (.ref fa) xs) σ1 Q)
    (hk : keepIn z.c.K (.ref fa) = true) (he : starEach (e :: rest) z.env = (false, eval e z.env) :: starEach rest z.env) (hp : (backTo pos (starEach rest z.env)).any (·.1) = false) : CW z (.con (.ref fa)) first (e :: rest) pos σ Q := fun W s x xs r rs p => by
  obtain rfl := r.inv
  exact callWith_K (K := z.c.K) p.g.In hk (seq .rfl' h p fun W1 vs σ1 ys s1 l1 ra p1 q1 => ⟨p1.g.In, fin l1 (q1 W1 s1 _ ((rs.mono l1).app ra) p1)⟩) he hp
theorem CW_fn0 {fa : Addr} {first : List V} (h : OL z VR (first ++ []) (fun xs => call (.ref fa) xs) σ Q) (hk : keepIn z.c.K (.ref fa) = true) : CW z (.con (.ref fa)) first [] pos σ Q := fun W s x xs r rs p => by
  obtain rfl := r.inv
  exact callWith_K0 (K := z.c.K) p.g.In hk (h W s _ (rs.app .nil) p)
theorem CW_bi {id : String} {first : List V} {e : Expr} {rest : List Expr} (h : EX z VRs (spliced (backTo pos (starEach (e :: rest) z.env))) σ fun vs σ1 => OL z VR (first ++ vs) (fun xs => call (.builtin id) xs) σ1 Q)
    (he : starEach (e :: rest) z.env = (false, eval e z.env) :: starEach rest z.env) (hp : (backTo pos (starEach rest z.env)).any (·.1) = false) : CW z (.con (.builtin id)) first (e :: rest) pos σ Q := fun W s x xs r rs p => by
  obtain rfl := r.inv
  exact callWith_method1 (seq .rfl' h p fun W1 vs σ1 ys s1 l1 ra p1 q1 => fin l1 (q1 W1 s1 _ ((rs.mono l1).app ra) p1)) he hp
theorem CW_bi0 {id : String} {first : List V} (h : OL z VR first (fun xs => call (.builtin id) xs) σ Q) : CW z (.con (.builtin id)) first [] pos σ Q := fun W s x xs r rs p => by
  obtain rfl := r.inv
  exact callWith_method0 (h W s _ rs p)

theorem C_fs {f : Value} {vs : List V} {Fly} {Q1 QE} {m : Nat} (fs : FS z.c Fly m f vs σ.o σ.nx Q1 QE) (hz : z.Ok n) (hcall : z.Call) (hm : m ≤ n) (hQ : ∀ b o' nx', Q1 b o' nx' → Q b ⟨σ.m, o', nx'⟩)
    (hE : ∀ W o' nx' e s, z.pre W ⟨σ.m, o', nx'⟩ s → Fly W e s → QE o' nx' → z.XE.p W e s)
    (hFly : ∀ W e s L, Fly W e s → Fly (W.delP L) e s) : OL z VR vs (fun xs => call f xs) σ Q := fun W s xs r p => by
  obtain ⟨m', hn, hmm⟩ := p.f.ns
  obtain ⟨ob, eob⟩ : ∃ ob, s.heap.get? z.env.locals = some ob := by obtain ⟨o, _, _, e, _⟩ := hn; exact ⟨o, e⟩
  generalize hpr : nsPr m' = pr
  have l0 : W.le (W.addP z.env.locals pr) := Wd.le_addP p.f.outP
  have P0 : (W.addP z.env.locals pr).P z.env.locals = some pr := if_pos rfl
  have g0 : GS z.c (W.addP z.env.locals pr) σ.o σ.nx s := p.g.parkd (by subst hpr; exact .of hn eob) eob p.f.outF p.f.outP p.f.outR
  have k0 : Stk (W.addP z.env.locals pr) (z.env :: z.outer) := fun e he => by
    rcases List.mem_cons.mp he with rfl | he
    · exact ⟨by rw [hz.kind]; decide, _, m', hcall.fr, by rw [P0, hpr]⟩
    · exact (p.k.mono l0) e he
  have back : ∀ W' o' nx' s', (W.addP z.env.locals pr).le W' → GS z.c W' o' nx' s' → W.le (W'.delP z.env.locals) ∧ z.pre (W'.delP z.env.locals) ⟨σ.m, o', nx'⟩ s' := by
    intro W' o' nx' s' l1 g1
    have l2 : W.le (W'.delP z.env.locals) := l1.delP p.f.outP
    have hP := g1.park _ _ (l1.P _ _ P0)
    refine ⟨l2, ⟨g1.unP (p.g.new.2.ne p.f.outP), ⟨⟨m', (hpr ▸ hP.1 : nsPr m' _).ns, fun x v e => by obtain ⟨v', a, b⟩ := hmm x v e; exact ⟨v', a, b.mono l2⟩⟩, hP.2.2, if_pos rfl, fun k q => ?_, fun x k e => by obtain ⟨a, b, c⟩ := p.f.cells x k e; exact ⟨a, b, l2.ρ _ _ c⟩⟩, p.k.mono l2⟩⟩
    have := (g1.sep k _ q).2.1
    rw [l1.P _ _ P0] at this; cases this
  refine wpAny_call (codeAny_mono (fs z.A (z.env :: z.outer) (W.addP z.env.locals pr) s xs hcall.frs hz.hd (Nat.le_trans (by lia) hz.dep) (Nat.le_trans (by lia) hz.uni) g0 k0 (r.mono l0)) fun res s' h => ?_)
  rcases res with e | (_ | _ | _ | v)
  · refine hideG fun R_ k_ => ?_
    obtain ⟨W', o', nx', l1, g1, fl, qe⟩ := h
    obtain ⟨l2, p2⟩ := back W' o' nx' s' l1 g1
    refine k_ ?_
    clear k_
    exact z.XE.mono l2 (hE _ o' nx' e s' p2 (hFly _ _ _ _ fl) qe)
  · exact h.elim
  · exact h.elim
  · exact h.elim
  · obtain ⟨W', b, o', nx', l1, rb, g1, q⟩ := h
    obtain ⟨l2, p2⟩ := back W' o' nx' s' l1 g1
    exact there l2 rb.unP p2 (hQ b o' nx' q)
end

set_option tactic.hygienic true in
theorem zip_rel {W : Wd} : ∀ {names : List Str} {vs : List V} {xs : List Value}, VRs W vs xs → ∀ x v, ((names.zip vs)).reverse.lookup x = some v → ∃ v', ((names.zip xs)).reverse.lookup x = some v' ∧ VR W v v' := by
  have app : ∀ {α : Type} (l : List (Str × α)) (y : Str) (a : α) (x : Str), (l ++ [(y, a)]).lookup x = (l.lookup x).or (if x = y then some a else none) := by
    intro α l y a x
    rw [List.lookup_append]
    congr 1
    by_cases h : x = y
    · subst h; simp
    · have : (x == y) = false := by simp [h]
      simp [List.lookup, this, h]
  have non : ∀ {names : List Str} {vs : List V} {xs : List Value}, VRs W vs xs → ∀ x, ((names.zip vs)).reverse.lookup x = none → ((names.zip xs)).reverse.lookup x = none := by
    intro names
    induction names with
    | nil => intro vs xs h x _; rfl
    | cons n ns ih =>
      intro vs xs h x e
      induction vs with
      | nil => rw [h.nil_inv]; rfl
      | cons v vs =>
        obtain ⟨u, us, rfl, r, rs⟩ := h.cons_inv
        simp only [List.zip_cons_cons, List.reverse_cons] at e ⊢
        rw [app] at e ⊢
        cases q : ((ns.zip vs)).reverse.lookup x with
        | some y => rw [q] at e; cases e
        | none =>
          rw [q] at e
          rw [ih rs x q]
          split at e
          · exact nomatch e
          · rename_i hx; simp [hx]
  intro names
  induction names with
  | nil => intro vs xs h x v e; cases e
  | cons n ns ih =>
    intro vs xs h x v e
    induction vs with
    | nil => cases e
    | cons w vs =>
      obtain ⟨u, us, rfl, r, rs⟩ := h.cons_inv
      simp only [List.zip_cons_cons, List.reverse_cons] at e ⊢
      rw [app] at e ⊢
      cases q : ((ns.zip vs)).reverse.lookup x with
      | some y =>
        rw [q] at e; obtain rfl := Option.some.inj e
        obtain ⟨v', a, b⟩ := ih rs x _ q
        exact ⟨v', by rw [a]; rfl, b⟩
      | none =>
        rw [q] at e
        rw [non rs x q]
        simp only [Option.none_or] at e ⊢
        split at e
        · cases e; rename_i hx; exact ⟨u, by simp [hx], r⟩
        · cases e

end Mine
end

section
open PySem PySem.W PySem.Calls PyProof.Rows PySem.SeqAt
set_option Elab.async false
set_option linter.unusedVariables false
set_option autoImplicit true
set_option maxRecDepth 100000
set_option tactic.hygienic false
namespace Mine

noncomputable def isL (σ : St) (o : V) (vs : List V) : Prop := o = .lst vs ∨ ∃ k, o = .ref k ∧ σ.o k = some (.list vs)
theorem isL.lst {σ : St} {vs} : isL σ (.lst vs) vs := .inl rfl
theorem isL.ref {σ : St} {k vs} (h : σ.o k = some (.list vs)) : isL σ (.ref k) vs := .inr ⟨k, rfl, h⟩
inductive LAt (f : List Value → Nat → Obj) (W : Wd) (h : Heap) (x : Value) (vs : List V) : Prop
  | mk (a : Addr) (xs : List Value) (n : Nat) (e : x = .ref a) (g : h.get? a = some (f xs n)) (r : VRs W vs xs) : LAt f W h x vs
theorem isL.at {z : Z} {σ : St} {o vs W s x} (h : isL σ o vs) (r : VR W o x) (p : z.pre W σ s) : LAt lstO W s.heap x vs := by
  rcases h with rfl | ⟨k, rfl, e⟩
  · obtain ⟨_, _, _, rfl, h1, h2, h3⟩ := r.inv
    exact ⟨_, _, _, rfl, p.g.fz _ _ h1, h2, h3⟩
  · obtain ⟨_, rfl, h1⟩ := r.inv
    refine hideG fun R_ k_ => ?_
    obtain ⟨a, e1, xs, n, e2, e3⟩ := p.g.mu k _ e
    refine k_ ?_
    clear k_
    obtain rfl := Option.some.inj (h1.symm.trans e1)
    exact ⟨_, _, _, rfl, e2, e3⟩
theorem tup_at {z : Z} {σ : St} {vs W s x} (r : VR W (.tup vs) x) (p : z.pre W σ s) : LAt tupO W s.heap x vs := by
  obtain ⟨_, _, _, rfl, h1, h2, h3⟩ := r.inv
  exact ⟨_, _, _, rfl, p.g.fz _ _ h1, h2, h3⟩
theorem asL {h : Heap} {a : Addr} {xs n} (e : h.get? a = some (lstO xs n)) : h.IsList a xs.toArray := ⟨_, e, rfl, n, rfl⟩
theorem asT {h : Heap} {a : Addr} {xs n} (e : h.get? a = some (tupO xs n)) : IsTup h a xs.toArray := ⟨_, e, rfl, n, rfl⟩

section
variable {z : Z} {n : Nat} {σ : St} {Q : V → St → Prop} {QB : Bool → St → Prop} {QF : Fl → St → Prop} {QU : Unit → St → Prop} {QL : List V → St → Prop} {pos : Pos} {k : Nat} {i j : Int}

theorem O2_ii {α β : Type} {z : Z} {R : Wd → β → α → Prop} {t : Value → Value → Sem α} {σ : St} {Q : β → St → Prop} {i1 : Int} {i2 : Int} (h : ∀ W s, z.pre W σ s → ∀ t1 t2, wpAny (model z.c.prog z.c.w) z.A (t (.int i1 t1) (.int i2 t2)) (z.post R Q W) (z.XE.p W) s) : O2 z R (.int i1) (.int i2) t σ Q := fun W s x y a b p => by
  obtain ⟨t1, rfl⟩ := a.inv
  obtain ⟨t2, rfl⟩ := b.inv
  exact h W s p t1 t2
theorem O2_in {α β : Type} {z : Z} {R : Wd → β → α → Prop} {t : Value → Value → Sem α} {σ : St} {Q : β → St → Prop} {i1 : Int} (h : ∀ W s, z.pre W σ s → ∀ t1, wpAny (model z.c.prog z.c.w) z.A (t (.int i1 t1) .none) (z.post R Q W) (z.XE.p W) s) : O2 z R (.int i1) .none t σ Q := fun W s x y a b p => by
  obtain ⟨t1, rfl⟩ := a.inv
  obtain rfl := b.inv
  exact h W s p t1
theorem O2_ni {α β : Type} {z : Z} {R : Wd → β → α → Prop} {t : Value → Value → Sem α} {σ : St} {Q : β → St → Prop} {i2 : Int} (h : ∀ W s, z.pre W σ s → ∀ t2, wpAny (model z.c.prog z.c.w) z.A (t .none (.int i2 t2)) (z.post R Q W) (z.XE.p W) s) : O2 z R .none (.int i2) t σ Q := fun W s x y a b p => by
  obtain rfl := a.inv
  obtain ⟨t2, rfl⟩ := b.inv
  exact h W s p t2
theorem O2_ss {α β : Type} {z : Z} {R : Wd → β → α → Prop} {t : Value → Value → Sem α} {σ : St} {Q : β → St → Prop} {i1 : Str} {i2 : Str} (h : ∀ W s, z.pre W σ s → ∀ t1 t2, wpAny (model z.c.prog z.c.w) z.A (t (.str i1 t1) (.str i2 t2)) (z.post R Q W) (z.XE.p W) s) : O2 z R (.str i1) (.str i2) t σ Q := fun W s x y a b p => by
  obtain ⟨t1, rfl⟩ := a.inv
  obtain ⟨t2, rfl⟩ := b.inv
  exact h W s p t1 t2
theorem B_add (h : Q (.int (i + j)) σ) : O2 z VR (.int i) (.int j) (binaryOp .Add) σ Q := O2_ii fun W s p _ _ => add_int (here .int p.toks h)
theorem B_sub (h : Q (.int (i - j)) σ) : O2 z VR (.int i) (.int j) (binaryOp .Sub) σ Q := O2_ii fun W s p _ _ => sub_int (here .int p.toks h)
theorem B_mul (h : Q (.int (i * j)) σ) (hm : IntMulOk i j) : O2 z VR (.int i) (.int j) (binaryOp .Mult) σ Q := O2_ii fun W s p _ _ => mul_int (here .int p.toks h) hm
theorem B_mod (h : Q (.int (i.fmod j)) σ) (hj : j ≠ 0) : O2 z VR (.int i) (.int j) (binaryOp .Mod) σ Q := O2_ii fun W s p _ _ => mod_int' hj (here .int p.toks h)
theorem B_div (h : Q (.int (i.fdiv j)) σ) (hj : j ≠ 0) (hp : Builtin.divisionGoesByPylong i j = false) : O2 z VR (.int i) (.int j) (binaryOp .FloorDiv) σ Q := O2_ii fun W s p _ _ => floordiv_int hj (here .int p.toks h) (.inl hp)
theorem B_pow (h : Q (.int (i ^ j.toNat)) σ) (hj : 0 ≤ j) (hs : (Builtin.Int.intBits i : Int) * j ≤ 2 ^ 27) : O2 z VR (.int i) (.int j) (binaryOp .Pow) σ Q := O2_ii fun W s p _ _ => pow_int hj hs (here .int p.toks h)
theorem K_eq (h : Q (.bool (i == j)) σ) : O2 z VR (.int i) (.int j) (compareOp .Eq) σ Q := O2_ii fun W s p _ _ => eq_int (here .bool p h)
theorem K_ne (h : Q (.bool (i != j)) σ) : O2 z VR (.int i) (.int j) (compareOp .NotEq) σ Q := O2_ii fun W s p _ _ => ne_int (here .bool p h)
theorem K_lt (h : Q (.bool (decide (i < j))) σ) : O2 z VR (.int i) (.int j) (compareOp .Lt) σ Q := O2_ii fun W s p _ _ => lt_int (here .bool p h)
theorem K_le (h : Q (.bool (decide (i ≤ j))) σ) : O2 z VR (.int i) (.int j) (compareOp .LtE) σ Q := O2_ii fun W s p _ _ => le_int (here .bool p h)
theorem K_gt (h : Q (.bool (decide (i > j))) σ) : O2 z VR (.int i) (.int j) (compareOp .Gt) σ Q := O2_ii fun W s p _ _ => gt_int (here .bool p h)
theorem K_ge (h : Q (.bool (decide (i ≥ j))) σ) : O2 z VR (.int i) (.int j) (compareOp .GtE) σ Q := O2_ii fun W s p _ _ => ge_int (here .bool p h)
theorem K_eq_in (h : Q (.bool false) σ) : O2 z VR (.int i) .none (compareOp .Eq) σ Q := O2_in fun W s p _ => RcAt.int_none _ _ _ _ _ _ (here .bool p h)
theorem K_ne_in (h : Q (.bool true) σ) : O2 z VR (.int i) .none (compareOp .NotEq) σ Q := O2_in fun W s p _ => RcNeAt.int_none _ _ _ _ _ _ (here .bool p h)
theorem K_eq_ni (h : Q (.bool false) σ) : O2 z VR .none (.int i) (compareOp .Eq) σ Q := O2_ni fun W s p _ => RcAt.none_int _ _ _ _ _ _ (here .bool p h)
theorem K_ne_ni (h : Q (.bool true) σ) : O2 z VR .none (.int i) (compareOp .NotEq) σ Q := O2_ni fun W s p _ => RcNeAt.none_int _ _ _ _ _ _ (here .bool p h)
theorem K_eq_s {a b : Str} (h : Q (.bool (a == b)) σ) : O2 z VR (.str a) (.str b) (compareOp .Eq) σ Q := O2_ss fun W s p _ _ => eq_str (here .bool p h)
theorem K_ne_s {a b : Str} (h : Q (.bool (!(a == b))) σ) : O2 z VR (.str a) (.str b) (compareOp .NotEq) σ Q := O2_ss fun W s p _ _ => RcNeAt.str_str _ _ _ _ _ _ _ _ (here .bool p h)

noncomputable def V.isNone : V → Bool
  | .none => true
  | _ => false
noncomputable def V.plain : V → Bool
  | .con _ => false
  | _ => true
theorem K_is {a : V} (h : Q (.bool a.isNone) σ) (hc : a.plain = true) : O2 z VR a .none (compareOp .Is) σ Q := fun W s x y ra rb p => by
  obtain rfl := rb.inv
  induction ra <;> first | exact wpAny_is_plain rfl (here .bool p h) | cases hc
theorem K_isnot {a : V} (h : Q (.bool (!a.isNone)) σ) (hc : a.plain = true) : O2 z VR a .none (compareOp .IsNot) σ Q := fun W s x y ra rb p => by
  obtain rfl := rb.inv
  induction ra <;> first | exact wpAny_isNot_plain rfl (here .bool p h) | cases hc


set_option tactic.hygienic true in
theorem min_call (h : Q (.int (if j < i then j else i)) σ) (hz : z.Ok n) : OL z VR [.int i, .int j] (fun xs => call (.builtin "min") xs) σ Q := fun W s xs r p => by
  obtain ⟨x, xs, rfl, r1, r'⟩ := r.cons_inv
  obtain ⟨y, xs, rfl, r2, r''⟩ := r'.cons_inv
  obtain rfl := r''.nil_inv
  obtain ⟨_, rfl⟩ := r1.inv; obtain ⟨_, rfl⟩ := r2.inv
  exact min_two_ints hz.hd fun h' tk k => by split <;> (rename_i c; first | exact here (b := V.int _) (by rw [if_pos c]; exact .int) (p.ext k) h | exact here (b := V.int _) (by rw [if_neg c]; exact .int) (p.ext k) h)
set_option tactic.hygienic true in
theorem max_call (h : Q (.int (if j > i then j else i)) σ) (hz : z.Ok n) : OL z VR [.int i, .int j] (fun xs => call (.builtin "max") xs) σ Q := fun W s xs r p => by
  obtain ⟨x, xs, rfl, r1, r'⟩ := r.cons_inv
  obtain ⟨y, xs, rfl, r2, r''⟩ := r'.cons_inv
  obtain rfl := r''.nil_inv
  obtain ⟨_, rfl⟩ := r1.inv; obtain ⟨_, rfl⟩ := r2.inv
  exact max_two_ints hz.hd fun h' tk k => by split <;> (rename_i c; first | exact here (b := V.int _) (by rw [if_pos c]; exact .int) (p.ext k) h | exact here (b := V.int _) (by rw [if_neg c]; exact .int) (p.ext k) h)

theorem len_call {o : V} {vs : List V} (h : Q (.int vs.length) σ) (hl : isL σ o vs) (hs : vs.length ≤ 2 ^ 24) : OL z VR [o] (fun xs => call (.builtin "len") xs) σ Q := fun W s xs r p => by
  obtain ⟨x, xs, rfl, r1, r'⟩ := r.cons_inv
  obtain rfl := r'.nil_inv
  refine hideG fun R_ k_ => ?_
  obtain ⟨a, ys, m, rfl, e, rs⟩ := hl.at r1 p
  refine k_ ?_
  clear k_
  refine len_list (asL e) (by rw [List.size_toArray, ← rs.1]; lia) (here (b := V.int _) ?_ p.toks h)
  rw [List.size_toArray, ← rs.1]; exact .int

theorem append_call {v : V} {vs : List V} (h : Q .none ⟨σ.m, upd σ.o k (.list (vs ++ [v])), σ.nx⟩) (ho : σ.o k = some (.list vs)) (hs : vs.length ≤ 2 ^ 24) : OL z VR [.ref k, v] (fun xs => call (.builtin "list.append") xs) σ Q := fun W s xs r p => by
  obtain ⟨x, xs, rfl, r1, r'⟩ := r.cons_inv
  obtain ⟨y, xs, rfl, r2, r''⟩ := r'.cons_inv
  obtain rfl := r''.nil_inv
  obtain ⟨_, rfl, e⟩ := r1.inv
  refine hideG fun R_ k_ => ?_
  obtain ⟨a, e', ys, m, eo, rs⟩ := p.g.mu k _ ho
  refine k_ ?_
  clear k_
  obtain rfl := Option.some.inj (e.symm.trans e')
  refine append_at eo (fun h' hsb e2 => here (b := V.none) .none (p.put ho e hsb (x := .list (vs ++ [v])) ⟨ys ++ [y], m + 1, ?_, rs.app (.cons r2 .nil)⟩) h) (by rw [List.size_toArray, ← rs.1, sizeLine_eq]; exact hs)
  rw [e2]; simp

theorem B_cat {a b : V} {us vs : List V} (h : Q (.lst (us ++ vs)) σ) (ha : isL σ a us) (hb : isL σ b vs) (hs : us.length + vs.length ≤ 2 ^ 24) : O2 z VR a b (binaryOp .Add) σ Q := fun W s x y ra rb p => by
  obtain ⟨a, xs, m, rfl, e1, r1⟩ := ha.at ra p
  obtain ⟨b, ys, m', rfl, e2, r2⟩ := hb.at rb p
  refine P.add_list e1 e2 ?_ (by rw [List.size_toArray, List.size_toArray, ← r1.1, ← r2.1, sizeLine_eq]; exact hs)
  obtain ⟨p', l, e⟩ := p.newF (lstO (xs ++ ys) 0) (toks := s.toks) (dr := s.drawn)
  rw [List.append_toArray]
  exact there l (VRs.lst e ((r1.app r2).mono l)) p' h
theorem B_catM {a b : V} {us vs : List V} (h : Q (.ref σ.nx) ⟨σ.m, upd σ.o σ.nx (.list (us ++ vs)), σ.nx + 1⟩) (ha : isL σ a us) (hb : isL σ b vs) (hs : us.length + vs.length ≤ 2 ^ 24) : O2 z VR a b (binaryOp .Add) σ Q := fun W s x y ra rb p => by
  obtain ⟨a, xs, m, rfl, e1, r1⟩ := ha.at ra p
  obtain ⟨b, ys, m', rfl, e2, r2⟩ := hb.at rb p
  refine P.add_list e1 e2 ?_ (by rw [List.size_toArray, List.size_toArray, ← r1.1, ← r2.1, sizeLine_eq]; exact hs)
  have l0 := Wd.le_addR (W := W) (a := s.heap.objs.size) (p.g.fresh σ.nx (Nat.le_refl _))
  obtain ⟨p', l, e⟩ := p.newM (x := lstO (xs ++ ys) 0) rfl (toks := s.toks) (dr := s.drawn) (y := .list (us ++ vs)) ⟨_, 0, Heap.get?_push_size _ rfl, (r1.app r2).mono l0⟩
  rw [List.append_toArray]
  exact there l (.ref e) p' h
set_option tactic.hygienic true in
theorem B_rep {a : V} {v : V} {t : Int} (h : Q (.lst (List.replicate t.toNat v)) σ) (ha : isL σ a [v]) (h0 : 0 ≤ t) (hs : t ≤ 2 ^ 24) : O2 z VR a (.int t) (binaryOp .Mult) σ Q := fun W s x y ra rb p => by
  obtain ⟨a, xs, m, rfl, e1, r1⟩ := ha.at ra p
  refine hideG fun R_ k_ => ?_
  obtain ⟨x, xs, rfl, r, r'⟩ := r1.cons_inv
  refine k_ ?_
  clear k_
  obtain rfl := r'.nil_inv
  obtain ⟨u, rfl⟩ := rb.inv
  refine wpAny_binaryOp_repeat_ref (T := "list") (U := "int") (by decide) ⟨_, e1, rfl⟩ (fun s' => typeIs_int s' t u) noFill_list_mul F.fills_int_mul F.slot_int_rmul repeat_list F.slot_int_index.lookup
    (call_meets F.slot_int_rmul (typeIs_int s t u) F.entry_int_rmul (F.args_int_rmul_2 _ _) (int___rmul___int_list t u a #[x] m)
      ⟨e1, rfl, ⟨_, e1, rfl⟩, call_meets F.slot_list_mul ⟨_, e1, rfl⟩ F.entry_list_mul (F.args_list_mul_2 _ _)
        (AutoListH.list___mul___list_int_3 a #[x] m t u (by simp [Builtin.List.listFitsIndex]; lia) (by simp; lia) (by simp [Builtin.List.listTooLong, sizeLine]; lia)) ⟨e1, ?_⟩⟩)
  have q : ∀ n : Nat, ∀ acc : Array Value, List.foldl (fun x1 x2 => x1 ++ x2) acc (List.replicate n #[x]) = acc ++ (List.replicate n x).toArray := by
    intro n
    induction n with
    | zero => intro acc; simp
    | succ n ih =>
      intro acc
      rw [List.replicate_succ, List.foldl_cons, ih, List.replicate_succ]
      apply Array.ext'
      simp
  obtain ⟨p', l, e⟩ := p.newF (lstO (List.replicate t.toNat x) 0) (toks := s.toks) (dr := s.drawn)
  have := there (R := VR) (Q := Q) (b := V.lst (List.replicate t.toNat v)) l (VRs.lst e ⟨by simp, fun i w y a b => by
    simp only [List.getElem?_replicate] at a b
    split at a
    · obtain rfl := Option.some.inj a; rename_i c; rw [if_pos c] at b; obtain rfl := Option.some.inj b; exact r.mono l
    · exact nomatch a⟩) p' h
  have e0 : (if (#[x] : Array Value).isEmpty = true then 0 else t.toNat) = t.toNat := by simp
  rw [e0, q, Array.empty_append]
  exact this

theorem R_list {es : List Expr} (h : EX z VRs (spliced (backTo pos (starEach es z.env))) σ fun vs σ1 => vs.length ≤ 2 ^ 24 ∧ Q (.lst vs) σ1) : EX z VR (eval (.List es pos) z.env) σ Q := fun W s p =>
  List_ (seq .rfl' h p fun W1 vs σ1 xs s1 l1 ra p1 q1 => by
    refine wpAny_newObj_type ?_ (by show xs.toArray.size ≤ sizeLine; rw [List.size_toArray, ← ra.1, sizeLine_eq]; exact q1.1)
    obtain ⟨p', l, e⟩ := p1.newF (lstO xs 0) (toks := s1.toks) (dr := s1.drawn)
    exact there (l1.trans l) (VRs.lst e (ra.mono l)) p' q1.2)
theorem R_listM {es : List Expr} (h : EX z VRs (spliced (backTo pos (starEach es z.env))) σ fun vs σ1 => vs.length ≤ 2 ^ 24 ∧ Q (.ref σ1.nx) ⟨σ1.m, upd σ1.o σ1.nx (.list vs), σ1.nx + 1⟩) : EX z VR (eval (.List es pos) z.env) σ Q := fun W s p =>
  List_ (seq .rfl' h p fun W1 vs σ1 xs s1 l1 ra p1 q1 => by
    refine wpAny_newObj_type ?_ (by show xs.toArray.size ≤ sizeLine; rw [List.size_toArray, ← ra.1, sizeLine_eq]; exact q1.1)
    have l0 := Wd.le_addR (W := W1) (a := s1.heap.objs.size) (p1.g.fresh σ1.nx (Nat.le_refl _))
    obtain ⟨p', l, e⟩ := p1.newM (x := lstO xs 0) rfl (toks := s1.toks) (dr := s1.drawn) (y := .list vs) ⟨_, 0, Heap.get?_push_size _ rfl, ra.mono l0⟩
    exact there (l1.trans l) (.ref e) p' q1.2)
theorem R_tuple {es : List Expr} {q : Nat} (h : EX z VRs (spliced (backTo pos (starEach es z.env))) σ fun vs σ1 => vs.length ≤ 2 ^ 24 ∧ Q (.tup vs) σ1) : EX z VR (eval (.Tuple es q pos) z.env) σ Q := fun W s p =>
  Tuple_ (seq .rfl' h p fun W1 vs σ1 xs s1 l1 ra p1 q1 => by
    refine wpAny_newObj_type ?_ (by show xs.toArray.size ≤ sizeLine; rw [List.size_toArray, ← ra.1, sizeLine_eq]; exact q1.1)
    obtain ⟨p', l, e⟩ := p1.newF (tupO xs 0) (toks := s1.toks) (dr := s1.drawn)
    exact there (l1.trans l) (VRs.tup e (ra.mono l)) p' q1.2)

theorem R_item {v i : Expr} (h : EX z VR (eval v z.env) σ fun o σ1 => EX z VR (eval i z.env) σ1 fun t σ2 => O2 z VR o t (subscriptTail v i) σ2 Q) : EX z VR (eval (.Subscript v i pos) z.env) σ Q := fun W s p =>
  Subscript_ (seq .rfl' h p fun W1 a σ1 va s1 l1 ra p1 q1 => seq l1 q1 p1 fun W2 b σ2 vb s2 l2 rb p2 q2 => fin (l1.trans l2) (q2 W2 s2 va vb (ra.mono l2) rb p2))
theorem I_list {ve ie : Expr} {o u : V} {vs : List V} (h : Q u σ) (hl : isL σ o vs) (h0 : 0 ≤ i) (h1 : i < 2 ^ 63) (hu : vs[i.toNat]? = some u)
    (hs : ∀ a b, subscripted ie false (.ref a) (.int i b) = operate [.ref a, .int i b] (getItem (.ref a) (.int i b))) : O2 z VR o (.int i) (subscriptTail ve ie) σ Q := fun W s x y ra rb p => by
  obtain ⟨a, xs, m, rfl, e1, r1⟩ := hl.at ra p
  obtain ⟨_, rfl⟩ := rb.inv
  obtain ⟨w, ew, rw'⟩ := r1.at hu
  exact tail_any (asL e1).typeIs slot_list_getitem.lookup (wpAny_getItem_list (asL e1) h0 h1 (by simpa using ew) (here rw' p h)) (hs _ _)
theorem I_listneg {ve ie : Expr} {o u : V} {vs : List V} (h : Q u σ) (hl : isL σ o vs) (h0 : i < 0) (h1 : -(2 ^ 63) ≤ i) (hn : -(vs.length : Int) ≤ i) (hu : vs[(i + vs.length).toNat]? = some u)
    (hs : ∀ a b, subscripted ie false (.ref a) (.int i b) = operate [.ref a, .int i b] (getItem (.ref a) (.int i b))) : O2 z VR o (.int i) (subscriptTail ve ie) σ Q := fun W s x y ra rb p => by
  obtain ⟨a, xs, m, rfl, e1, r1⟩ := hl.at ra p
  obtain ⟨_, rfl⟩ := rb.inv
  obtain ⟨w, ew, rw'⟩ := r1.at hu
  refine tail_any (asL e1).typeIs slot_list_getitem.lookup (wpAny_getItem_list_neg (asL e1) h0 (by rw [List.size_toArray, ← r1.1]; exact hn) h1 (by rw [List.size_toArray, ← r1.1]; simpa using ew) (here rw' p h)) (hs _ _)
theorem I_tup {ve ie : Expr} {u : V} {vs : List V} (h : Q u σ) (h0 : 0 ≤ i) (h1 : i < 2 ^ 63) (hu : vs[i.toNat]? = some u)
    (hs : ∀ a b, subscripted ie false (.ref a) (.int i b) = operate [.ref a, .int i b] (getItem (.ref a) (.int i b))) : O2 z VR (.tup vs) (.int i) (subscriptTail ve ie) σ Q := fun W s x y ra rb p => by
  obtain ⟨a, xs, m, rfl, e1, r1⟩ := tup_at ra p
  obtain ⟨_, rfl⟩ := rb.inv
  obtain ⟨w, ew, rw'⟩ := r1.at hu
  refine item_tupleT (asT e1) (by lia) h1 (j := i.toNat) (seqIndex_of h0 ?_) ew (here rw' p h) (hs _ _)
  have := (List.getElem?_eq_some_iff.mp ew).1
  lia
end
end Mine
end

section
open PySem PySem.W PySem.Calls PyProof.Rows PySem.SeqAt
set_option Elab.async false
set_option linter.unusedVariables false
set_option autoImplicit true
set_option maxRecDepth 100000
set_option tactic.hygienic false
namespace Mine

noncomputable def partOf : V → Option (Option Int)
  | .none => some none
  | .int i => some (some i)
  | _ => none
theorem isPart_of {W : Wd} {v : V} {x : Value} {p} (r : VR W v x) (h : partOf v = some p) : IsPart x p := by
  cases v with
  | none => obtain rfl := r.inv; obtain rfl := Option.some.inj h; exact .none
  | int i => obtain ⟨_, rfl⟩ := r.inv; obtain rfl := Option.some.inj h; exact .int _ _
  | _ => cases h
noncomputable def pickV {α : Type} (l : List α) (lo hi : Option Int) : List α := (l.drop (kms_lo lo l.length)).take (kms_hi hi l.length - kms_lo lo l.length)
theorem pick_rel {W : Wd} {vs : List V} {xs : List Value} (r : VRs W vs xs) (lo hi) : VRs W (pickV vs lo hi) (kms_pick xs lo hi) := by
  unfold pickV kms_pick
  rw [r.1]
  exact (r.drop _).take _
section
variable {z : Z} {n : Nat} {σ : St} {Q : V → St → Prop} {QB : Bool → St → Prop} {QF : Fl → St → Prop} {QU : Unit → St → Prop} {QL : List V → St → Prop} {pos : Pos} {k : Nat} {i j : Int}

noncomputable def EP (z : Z) (e : Option Expr) (σ : St) (Q : V → St → Prop) : Prop := EX z VR (evalPart e z.env) σ Q
theorem EP_some {e} (h : EX z VR (eval e z.env) σ Q) : EP z (some e) σ Q := fun W s p => wpAny_evalPart_some (h W s p)
theorem EP_none (h : Q .none σ) : EP z none σ Q := fun W s p => wpAny_evalPart_none (here .none p h)

theorem slice_core {v : Expr} {lo hi : Option Expr} {p' : Pos} {R : Value → Shared → Prop} {W : Wd} {s : Shared} (p : z.pre W σ s)
    (h : EX z VR (eval v z.env) σ fun o σ1 => EP z lo σ1 fun l σ2 => EP z hi σ2 fun u σ3 => ∃ vs pl pu, isL σ3 o vs ∧ vs.length ≤ 2 ^ 24 ∧ partOf l = some pl ∧ partOf u = some pu ∧
      ∀ W3 s3 xs, W.le W3 → z.pre W3 σ3 s3 → VRs W3 (pickV vs pl pu) xs → R (.ref s3.heap.objs.size) { s3 with heap := s3.heap.push (lstO xs 0) })
    (hs : ∀ a b, subscripted (.Slice lo hi none p') false (.ref a) (.ref b) = operate [.ref b, .ref a] (getItem (.ref a) (.ref b))) : wpAny (model z.c.prog z.c.w) z.A (eval (.Subscript v (.Slice lo hi none p') pos) z.env) R (z.XE.p W) s := by
  refine Subscript_ (seq .rfl' h p fun W1 o σ1 vo s1 l1 ro p1 q1 => wpAny_Slice (seq l1 q1 p1 fun W2 l σ2 vl s2 l2 rl p2 q2 => seq (l1.trans l2) q2 p2 fun W3 u σ3 vu s3 l3 ru p3 q3 => ?_))
  refine hideG fun R_ k_ => ?_
  obtain ⟨vs, pl, pu, hl, hz, e1, e2, hq⟩ := q3
  obtain ⟨a, xs, m, rfl, ea, rx⟩ := hl.at ((ro.mono l2).mono l3) p3
  refine k_ ?_
  clear k_
  rw [evalPart_none]
  refine wpAny_pure ?_
  have ea' : (s3.heap.push { cls := .type "slice", data := .fields #[vl, vu, .none] }).get? a = some (lstO xs m) := Heap.get?_push_of_some _ ea
  refine tail_any (s := { s3 with heap := s3.heap.push { cls := .type "slice", data := .fields #[vl, vu, .none] } }) (asL ea').typeIs slot_list_getitem.lookup
    (wpAny_getItem_list_slice (asL ea') (Heap.IsSliceOf.new ..) (isPart_of (rl.mono l3) e1) (isPart_of ru e2) .none (by simp) ?_ (by rw [List.size_toArray, ← rx.1, sizeLine_eq]; exact hz)) (hs _ _)
  have key := hq W3 { s3 with heap := s3.heap.push { cls := .type "slice", data := .fields #[vl, vu, .none] } } _ ((l1.trans l2).trans l3) (p3.ext fun b x e => Heap.get?_push_of_some _ e) (pick_rel rx pl pu)
  rw [kms_pick_eq]
  exact key


noncomputable def spliceV {α : Type} (l : List α) (lo hi : Option Int) (new : List α) : List α := l.take (kms_lo lo l.length) ++ new ++ l.drop (max (kms_lo lo l.length) (kms_hi hi l.length))
theorem maxZ_nat (a b : Nat) : (max (a : Int) (b : Int)).toNat = max a b := by lia
theorem slice_size {a b n k : Nat} (h : n + k ≤ 2 ^ 24) : min a n - 0 + k + (min n n - max a b) ≤ 2 ^ 24 := by lia
theorem wp_ite2 {prog : Program} {w : World} {A : Around} {α β : Type} {c : Prop} [Decidable c] {x y : Sem α} {K : α → Sem β} {v : α} {s : Shared} {QQ : β → Shared → Prop} {E : Value → Shared → Prop} (hx : ∀ R : α → Shared → Prop, R v s → wpAny (model prog w) A x R E s) (hy : ∀ R : α → Shared → Prop, R v s → wpAny (model prog w) A y R E s) (h : wpAny (model prog w) A (K v) QQ E s) :
    wpAny (model prog w) A (if c then x >>= K else y >>= K) QQ E s := by
  split
  · exact wpAny_bind (hx _ h)
  · exact wpAny_bind (hy _ h)
theorem setSlice {l sl b : Addr} {xs ys : List Value} {m m' : Nat} {vl vu : Value} {lo hi : Option Int} {s : Shared} {A : Around} {E : Value → Shared → Prop} {prog w} {QQ : Unit → Shared → Prop}
    (e1 : s.heap.get? l = some (lstO xs m)) (hsl : s.heap.IsSliceOf sl vl vu .none) (pl : IsPart vl lo) (pu : IsPart vu hi) (e2 : s.heap.get? b = some (lstO ys m'))
    (hz : xs.length + ys.length ≤ 2 ^ 24)
    (h : QQ () { s with heap := s.heap.update l (Obj.mapSeq fun zs => zs.extract 0 (kms_lo lo xs.length) ++ ys.toArray ++ zs.extract (max (kms_lo lo xs.length) (kms_hi hi xs.length)) zs.size) }) :
    wpAny (model prog w) A (setItem (.ref l) (.ref sl) (.ref b)) QQ E s := by
  have hl := asL e1
  refine hideG fun R_ k_ => ?_
  obtain ⟨os, hos, hcs, hds⟩ := id hsl
  refine k_ ?_
  clear k_
  have hTs : s.TypeIs (.ref sl) "slice" := ⟨os, hos, hcs⟩
  unfold setItem
  try with_reducible refine wpAny_holding ?_
  first | refine wpAny_bind (wpAny_pure ?_) | skip
  refine wpAny_bind (wpAny_sequenceKey hl.typeIs (by decide) ?_)
  refine wpAny_bind (wpAny_callSpecial?_slot (name := Str.ofString "__setitem__") hl.typeIs slot_list_setitem
    (wpAny_call_entry slot_list_setitem hl.typeIs entry_list_setitem ?_ (args_list_setitem _ _ _)))
  show wpAny _ _ (Builtin.List.listSubscript? (.ref sl) >>= _) _ _ s
  refine wpAny_bind ?_
  unfold Builtin.List.listSubscript?
  refine wpAny_bind (wpAny_specialOf hTs slice_no_index ?_)
  rw [if_pos (by rfl)]
  refine wpAny_pure ?_
  refine wpAny_bind (wpAny_typeOf hTs ?_)
  rw [if_neg (by decide)]
  rw [listSliceParts_eq]
  refine wpAny_bind (wpAny_bind (wpAny_field hos hds (x := .none) rfl (wpAny_bind (wpAny_listPart .none ?_))))
  rw [if_neg (by decide)]
  refine wpAny_bind (wpAny_field hos hds (x := vl) rfl (wpAny_bind (wpAny_listPart pl ?_)))
  refine wpAny_bind (wpAny_field hos hds (x := vu) rfl (wpAny_bind (wpAny_listPart pu (wpAny_pure ?_))))
  have items : ∀ {a : Addr} {us : List Value} {k : Nat} {R : Array Value → Shared → Prop} {E'}, s.heap.get? a = some (lstO us k) → R us.toArray s → wpAny (model prog w) A.in1 (Builtin.List.listItems (.ref a)) R E' s := fun e hR => by
    unfold Builtin.List.listItems
    exact wpAny_bind (wpAny_seqItems e rfl (wpAny_pure hR))
  have new : ∀ {R : Array Value → Shared → Prop} {E'}, R ys.toArray s → wpAny (model prog w) A.in1 (Builtin.List.listAllItems (.ref b) "must assign iterable to extended slice") R E' s := fun hR => by
    unfold Builtin.List.listAllItems
    refine wpAny_bind (wpAny_typeOf (asL e2).typeIs ?_)
    rw [if_pos (by decide)]
    exact items e2 hR
  have e3 : (max ((kms_lo lo xs.toArray.size : Nat) : Int) ((kms_hi hi xs.toArray.size : Nat) : Int)).toNat = max (kms_lo lo xs.length) (kms_hi hi xs.length) := by rw [List.size_toArray]; exact maxZ_nat _ _
  have e4 : ((kms_lo lo xs.toArray.size : Nat) : Int).toNat = kms_lo lo xs.length := by rw [List.size_toArray]; rfl
  refine wp_ite2 (v := ys.toArray) (fun R h => items e2 h) (fun R h => new h) ?_
  refine wpAny_bind (items e1 ?_)
  refine wpAny_bind (wpAny_of_eq (sliceIndices_raw lo hi none xs.toArray.size (by simp)) ?_)
  rw [kms_bounds]
  dsimp only
  rw [if_pos (by decide)]
  refine wpAny_bind (wpAny_rule ?_)
  rw [if_neg (by simp only [Builtin.List.listTooLong, List.size_toArray, decide_eq_true_eq, sizeLine_eq]; exact Nat.not_lt.mpr hz)]
  rw [e3, e4]
  unfold Builtin.List.listUpdate
  refine wpAny_bind (wpAny_updateSeq e1 rfl ?_ (by rw [List.size_toArray, sizeLine_eq]; exact Nat.le_trans (Nat.le_add_right _ _) hz) (by
    simp only [Array.size_append, Array.size_extract, List.size_toArray, sizeLine_eq]
    exact Nat.le_succ_of_le (slice_size hz)))
  refine wpAny_bind (wpAny_letGo ?_)
  exact wpAny_pure ⟨.none, rfl, wpAny_pure h⟩

theorem mapSeq_list {xs zs : List Value} {m : Nat} {f : Array Value → Array Value} (h : f xs.toArray = zs.toArray) : ∃ m', Obj.mapSeq f (lstO xs m) = lstO zs m' := by
  unfold Obj.mapSeq lstO
  dsimp only
  rw [h]
  exact ⟨_, rfl⟩
theorem splice_arr (xs ys : List Value) (a b : Nat) : xs.toArray.extract 0 a ++ ys.toArray ++ xs.toArray.extract b xs.toArray.size = (xs.take a ++ ys ++ xs.drop b).toArray := by
  apply Array.ext'
  simp
  exact List.take_of_length_le (by simp)

theorem S_slice {o : Expr} {lo hi : Option Expr} {p' pos' : Pos} {value : Expr}
    (h : EX z VR (eval value z.env) σ fun v σ1 => EX z VR (eval o z.env) σ1 fun ov σ2 => EP z lo σ2 fun l σ3 => EP z hi σ3 fun u σ4 => ∃ k vs us pl pu, ov = .ref k ∧ σ4.o k = some (.list vs) ∧ isL σ4 v us ∧ vs.length + us.length ≤ 2 ^ 24 ∧ partOf l = some pl ∧ partOf u = some pu ∧
      QF .next ⟨σ4.m, upd σ4.o k (.list (spliceV vs pl pu us)), σ4.nx⟩)
    (hs : swapsWith value (some (.Subscript o (.Slice lo hi none p') pos')) pos.line z.env = pure false) : EX z FlR (exec (.Assign [.Subscript o (.Slice lo hi none p') pos'] value pos) z.env) σ QF := fun W s p => by
  refine wpAny_Assign_Subscript (seq .rfl' h p fun W1 v σ1 va s1 l1 rv p1 q1 => seq l1 q1 p1 fun W2 ov σ2 vo s2 l2 ro p2 q2 => wpAny_Slice (seq (l1.trans l2) q2 p2 fun W3 l σ3 vl s3 l3 rl p3 q3 => seq ((l1.trans l2).trans l3) q3 p3 fun W4 u σ4 vu s4 l4 ru p4 q4 => ?_)) hs
  refine hideG fun R_ k_ => ?_
  obtain ⟨k, vs, us, pl, pu, rfl, ek, hl, hz, e1, e2, hq⟩ := q4
  obtain ⟨b, ys, m', rfl, eb, rb⟩ := hl.at (((rv.mono l2).mono l3).mono l4) p4
  refine k_ ?_
  clear k_
  rw [evalPart_none]
  refine wpAny_pure ?_
  cases (ro.mono l3).mono l4 with
  | @ref a k ea =>
    refine hideG fun R_ k_ => ?_
    obtain ⟨a', ea', xs, m, eo, rs⟩ := p4.g.mu k _ ek
    obtain rfl := Option.some.inj (ea.symm.trans ea')
    have k4 : ∀ c x, s4.heap.get? c = some x → (s4.heap.push { cls := .type "slice", data := .fields #[vl, vu, .none] }).get? c = some x := fun c x e => Heap.get?_push_of_some _ e
    have p5 := p4.ext (h' := s4.heap.push { cls := .type "slice", data := .fields #[vl, vu, .none] }) k4 (toks := s4.toks) (dr := s4.drawn)
    obtain ⟨m2, hm2⟩ := mapSeq_list (m := m) (splice_arr xs ys (kms_lo pl xs.length) (max (kms_lo pl xs.length) (kms_hi pu xs.length)))
      (f := fun zs => zs.extract 0 (kms_lo pl xs.length) ++ ys.toArray ++ zs.extract (max (kms_lo pl xs.length) (kms_hi pu xs.length)) zs.size)
    refine k_ ?_
    clear k_
    refine setSlice (s := { s4 with heap := s4.heap.push { cls := .type "slice", data := .fields #[vl, vu, .none] } }) (k4 _ _ eo) (Heap.IsSliceOf.new ..) (isPart_of (rl.mono l4) e1) (isPart_of ru e2) (k4 _ _ eb) (by rw [← rs.1, ← rb.1]; exact hz) ?_
    refine there (((l1.trans l2).trans l3).trans l4) (b := Fl.next) trivial (p5.put ek ea (Heap.SameBut.update ..) (x := .list (spliceV vs pl pu us)) ⟨xs.take (kms_lo pl xs.length) ++ ys ++ xs.drop (max (kms_lo pl xs.length) (kms_hi pu xs.length)), m2, ?_, ?_⟩) hq
    · rw [Heap.get?_update_self _ (k4 _ _ eo) (by rw [hm2]; rfl), hm2]
    · unfold spliceV; rw [rs.1]; exact ((rs.take _).app rb).app (rs.drop _)
end
end Mine
end

section
open PySem PySem.W PySem.Calls PyProof.Rows PySem.SeqAt
set_option Elab.async false
set_option linter.unusedVariables false
set_option autoImplicit true
set_option maxRecDepth 100000
set_option tactic.hygienic false
namespace Mine

section
variable {z : Z} {n : Nat} {σ : St} {Q : V → St → Prop} {QB : Bool → St → Prop} {QF : Fl → St → Prop} {QU : Unit → St → Prop} {QL : List V → St → Prop} {pos : Pos} {k : Nat} {i j : Int}

theorem setIdx {l : Addr} {xs : List Value} {m : Nat} {i : Int} {t : Tok} {u : Value} {jj : Nat} {s : Shared} {A : Around} {E : Value → Shared → Prop} {prog w} {QQ : Unit → Shared → Prop}
    (e1 : s.heap.get? l = some (lstO xs m)) (hlo : -(2 ^ 63) ≤ i) (hhi : i < 2 ^ 63) (hj : seqIndex? i xs.length = some jj) (hjl : jj < xs.length)
    (h : QQ () { s with heap := s.heap.update l (Obj.mapSeq (·.setIfInBounds jj u)) }) : wpAny (model prog w) A (setItem (.ref l) (.int i t) u) QQ E s := by
  have hl := asL e1
  unfold setItem
  try with_reducible refine wpAny_holding ?_
  first | refine wpAny_bind (wpAny_pure ?_) | skip
  refine wpAny_bind (wpAny_sequenceKey hl.typeIs (by decide) ?_)
  refine wpAny_bind (wpAny_callSpecial?_slot (name := Str.ofString "__setitem__") hl.typeIs slot_list_setitem
    (wpAny_call_entry slot_list_setitem hl.typeIs entry_list_setitem ?_ (args_list_setitem _ _ _)))
  show wpAny _ _ (Builtin.List.listSubscript? (.int i t) >>= _) _ _ s
  have hx : xs.toArray[jj]? = some xs[jj] := by simp [hjl]
  by_cases h0 : 0 ≤ i
  · refine wpAny_bind (wpAny_listSubscript_int (fitsIndex_of h0 hhi) ?_)
    clear hhi
    obtain ⟨q, rfl⟩ := Int.eq_ofNat_of_zero_le h0
    have : jj = q := by
      unfold seqIndex? at hj
      simp at hj
      lia
    subst this
    show wpAny _ _ ((seqItemAt l jj >>= fun r => pure (r.map (jj, ·))) >>= _) _ _ s
    refine wpAny_bind (wpAny_bind (wpAny_seqItemAt e1 rfl (wpAny_pure ?_)))
    rw [hx]
    show wpAny _ _ (setSeqItemAt l jj u >>= _) _ _ s
    refine wpAny_bind (wpAny_setSeqItemAt e1 rfl ?_)
    first
      | exact wpAny_bind (wpAny_pure (wpAny_pure ⟨.none, rfl, wpAny_pure h⟩))
      | exact wpAny_pure ⟨.none, rfl, wpAny_pure h⟩
  · have h0 : i < 0 := by lia
    refine wpAny_bind (wpAny_listSubscript_int (fitsIndex_neg h0 hlo) ?_)
    clear hlo
    obtain ⟨q, rfl⟩ : ∃ q : Nat, i = Int.negSucc q := by
      induction i with
      | ofNat n => exact absurd h0 (Int.not_lt.mpr (Int.natCast_nonneg n))
      | negSucc n => exact ⟨n, rfl⟩
    show wpAny _ _ ((Builtin.List.listItems (.ref l) >>= fun zs => pure ((seqIndex? (Int.negSucc q) zs.size).bind fun i => zs[i]?.map (i, ·))) >>= _) _ _ s
    refine wpAny_bind (wpAny_bind ?_)
    show wpAny _ _ (seqItems? (.ref l) >>= _) _ _ s
    refine wpAny_bind (wpAny_seqItems e1 rfl (wpAny_pure (wpAny_pure ?_)))
    rw [List.size_toArray, hj]
    simp only [Option.bind_some, hx, Option.map_some]
    refine wpAny_bind (wpAny_setSeqItemAt e1 rfl ?_)
    first
      | exact wpAny_bind (wpAny_pure (wpAny_pure ⟨.none, rfl, wpAny_pure h⟩))
      | exact wpAny_pure ⟨.none, rfl, wpAny_pure h⟩

theorem setAt_list {v : V} {vs : List V} {jj : Nat} (h : QU () ⟨σ.m, upd σ.o k (.list (vs.set jj v)), σ.nx⟩) (ho : σ.o k = some (.list vs)) (hlo : -(2 ^ 63) ≤ i) (hhi : i < 2 ^ 63) (hj : seqIndex? i vs.length = some jj) (hjl : jj < vs.length) :
    O3 z RU (.ref k) (.int i) v (fun a b c => setItem a b c) σ QU := fun W s x y u r ri rv p => by
  obtain ⟨_, rfl⟩ := ri.inv
  obtain ⟨a, rfl, ea⟩ := r.inv
  refine hideG fun R_ k_ => ?_
  obtain ⟨a', ea', xs, m, eo, rs⟩ := p.g.mu k _ ho
  rw [ea] at ea'; cases ea'
  obtain ⟨m2, hm2⟩ := mapSeq_list (xs := xs) (zs := xs.set jj u) (m := m) (f := (·.setIfInBounds jj u)) (by simp)
  refine k_ ?_
  clear k_
  refine setIdx eo hlo hhi (rs.1 ▸ hj) (rs.1 ▸ hjl) (here (b := ()) trivial (p.put ho ea (Heap.SameBut.update ..) (x := .list (vs.set jj v)) ⟨_, m2, ?_, rs.set _ rv⟩) h)
  rw [Heap.get?_update_self _ eo (by rw [hm2]; rfl), hm2]

set_option tactic.hygienic true in
theorem erase_eq {α : Type} (l : List α) (k : Nat) : (l.toArray.eraseIdxIfInBounds k) = (l.eraseIdx k).toArray := by
  unfold Array.eraseIdxIfInBounds
  split
  · simp
  · rename_i h
    rw [List.eraseIdx_of_length_le (by simpa using h)]
theorem VRs.eraseIdx {W : Wd} {vs xs} (h : VRs W vs xs) (k : Nat) : VRs W (vs.eraseIdx k) (xs.eraseIdx k) := by
  rw [List.eraseIdx_eq_take_drop_succ, List.eraseIdx_eq_take_drop_succ]
  exact (h.take _).app (h.drop _)
theorem pop_rel {W : Wd} {s : Shared} (p : z.pre W σ s) {a : Addr} {vs : List V} {jj : Nat} (ho : σ.o k = some (.list vs)) (ea : W.ρ k = some a) {xs m} (eo : s.heap.get? a = some (lstO xs m)) (rs : VRs W vs xs) :
    z.pre W ⟨σ.m, upd σ.o k (.list (vs.eraseIdx jj)), σ.nx⟩ { s with heap := s.heap.update a (Obj.mapSeq fun ys => ys.eraseIdxIfInBounds jj) } := by
  obtain ⟨m2, hm2⟩ := mapSeq_list (xs := xs) (zs := xs.eraseIdx jj) (m := m) (f := fun ys => ys.eraseIdxIfInBounds jj) (erase_eq xs jj)
  refine p.put ho ea (Heap.SameBut.update ..) (x := .list (vs.eraseIdx jj)) ⟨_, m2, ?_, rs.eraseIdx _⟩
  rw [Heap.get?_update_self _ eo (by rw [hm2]; rfl), hm2]
theorem pop_last {v : V} {vs : List V} (h : Q v ⟨σ.m, upd σ.o k (.list (vs.eraseIdx (vs.length - 1))), σ.nx⟩) (ho : σ.o k = some (.list vs)) (hv : vs[vs.length - 1]? = some v) (hs : vs.length ≤ 2 ^ 24) :
    OL z VR [.ref k] (fun xs => call (.builtin "list.pop") xs) σ Q := fun W s xs r p => by
  obtain ⟨x, xs, rfl, r1, r'⟩ := r.cons_inv
  obtain rfl := r'.nil_inv
  obtain ⟨a, rfl, ea⟩ := r1.inv
  obtain ⟨a', ea', ys, m, eo, rs⟩ := p.g.mu k _ ho
  rw [ea] at ea'; cases ea'
  obtain ⟨y, ey, ry⟩ := rs.at hv
  refine call_meets F.slot_list_pop ⟨_, eo, rfl⟩ F.entry_list_pop (F.args_list_pop_1 _) (MeetsSeq.list_pop_last a ys.toArray m y (by rw [List.size_toArray, ← rs.1]; simpa using ey) (by rw [List.size_toArray, ← rs.1, sizeLine_eq]; exact hs)) ⟨eo, ?_⟩
  rw [List.size_toArray, ← rs.1]
  exact here ry (pop_rel p ho ea eo rs) h
theorem pop_first {v : V} {vs : List V} (h : Q v ⟨σ.m, upd σ.o k (.list (vs.eraseIdx 0)), σ.nx⟩) (ho : σ.o k = some (.list vs)) (hv : vs[0]? = some v) (hs : vs.length ≤ 2 ^ 24) :
    OL z VR [.ref k, .int 0] (fun xs => call (.builtin "list.pop") xs) σ Q := fun W s xs r p => by
  obtain ⟨x, xs, rfl, r1, r'⟩ := r.cons_inv
  obtain ⟨x, xs, rfl, r2, r''⟩ := r'.cons_inv
  obtain rfl := r''.nil_inv
  obtain ⟨_, rfl⟩ := r2.inv
  obtain ⟨a, rfl, ea⟩ := r1.inv
  obtain ⟨a', ea', ys, m, eo, rs⟩ := p.g.mu k _ ho
  rw [ea] at ea'; cases ea'
  obtain ⟨y, ey, ry⟩ := rs.at hv
  have hl : (0 : Int) < (ys.length : Int) := by have := (List.getElem?_eq_some_iff.mp ey).1; lia
  refine call_meets F.slot_list_pop ⟨_, eo, rfl⟩ F.entry_list_pop (F.args_list_pop_2 _ _) (MeetsSeq.list_pop_at a ys.toArray m 0 _ 0 y (by decide) (by rw [List.size_toArray]; exact seqIndex_of (by lia) hl) (by simpa using ey) (by rw [List.size_toArray, ← rs.1, sizeLine_eq]; exact hs)) ⟨eo, ?_⟩
  exact here ry (pop_rel p ho ea eo rs) h

set_option tactic.hygienic true in
theorem list_call {o : V} {vs : List V} (h : Q (.lst vs) σ) (hl : isL σ o vs) (hs : vs.length ≤ 2 ^ 24) : OL z VR [o] (fun xs => call (.type "list") xs) σ Q := fun W s xs r p => by
  obtain ⟨x, xs, rfl, r1, r'⟩ := r.cons_inv
  obtain rfl := r'.nil_inv
  refine hideG fun R_ k_ => ?_
  obtain ⟨a, ys, m, rfl, e, rs⟩ := hl.at r1 p
  refine k_ ?_
  clear k_
  refine call_list_seq a (.inl rfl) e rfl rfl (fun h' c' hk hD => ?_) (by rw [List.size_toArray, ← rs.1, sizeLine_eq]; exact hs)
  have F0 := p.g.freshF
  have P0 := p.g.freshP
  have l := Wd.le_addF (x := lstO ys c') F0
  have p1 := p.ext hk (toks := s.toks) (dr := s.drawn)
  have p2 : z.pre (W.addF s.heap.objs.size (lstO ys c')) σ { s with heap := h' } := by
    have hrho : ∀ n, W.ρ n ≠ some s.heap.objs.size := fun n q => by obtain ⟨_, e⟩ := (p.g.sep n _ q).2.2; exact absurd (Heap.lt_size e) (Nat.lt_irrefl _)
    refine ⟨⟨p1.g.ok, fun b x e => ?_, fun b x e => l.F _ _ (p1.g.base b x e), fun n x e => by obtain ⟨b, c, d⟩ := p1.g.mu n x e; exact ⟨b, c, d.mono l⟩, fun n b e => ⟨?_, (p1.g.sep n b e).2⟩, p1.g.inj, p1.g.fresh, fun b m e => ⟨(p1.g.park b m e).1, (p1.g.park b m e).2.1, ?_⟩, p1.g.os, p1.g.gens, p1.g.new.1, p1.g.new.2.keep l fun _ _ e => e⟩,
      p1.f.mono l ?_ p1.f.outP p1.f.outR, p1.k.mono l⟩
    · simp only [Wd.addF] at e
      split at e
      · rename_i q; subst q; cases e; exact hD
      · exact p1.g.fz b x e
    · exact (if_neg (fun q => by subst q; exact hrho n e)).trans ((p1.g.sep n b e).1)
    · exact (if_neg (fun q => by subst q; have e : W.P _ = some m := e; rw [P0] at e; cases e)).trans ((p1.g.park b m e).2.2)
    · exact (if_neg (Nat.ne_of_lt p.f.lt)).trans p.f.outF
  exact there l (VRs.lst (n := c') (if_pos rfl) (rs.mono l)) p2 h

noncomputable def eqK (a b : V) : Option Bool := match a with
  | .str x => (match b with
    | .str y => some (x == y)
    | .int _ => some false
    | _ => none)
  | .int x => (match b with
    | .int y => some (x == y)
    | .str _ => some false
    | _ => none)
  | .bool x => (match b with
    | .bool y => some (x == y)
    | _ => none)
  | _ => none
theorem eqK_at {W : Wd} {A : Around} {s : Shared} {a b : V} {x y : Value} {e : Bool} (ra : VR W a x) (rb : VR W b y) (h : eqK a b = some e) : EqAt A s x y e := by
  cases a with
  | str x =>
    obtain ⟨_, rfl⟩ := ra.inv
    cases b with
    | str y => obtain ⟨_, rfl⟩ := rb.inv; cases h; exact EqAt.str_str _ _ _ _
    | int y => obtain ⟨_, rfl⟩ := rb.inv; cases h; exact EqAt.str_int _ _ _ _
    | _ => cases h
  | int x =>
    obtain ⟨_, rfl⟩ := ra.inv
    cases b with
    | int y => obtain ⟨_, rfl⟩ := rb.inv; cases h; exact EqAt.int_int _ _ _ _
    | str y => obtain ⟨_, rfl⟩ := rb.inv; cases h; exact EqAt.int_str _ _ _ _
    | _ => cases h
  | bool x =>
    obtain rfl := ra.inv
    cases b with
    | bool y => obtain rfl := rb.inv; cases h; exact EqAt.bool_bool _ _
    | _ => cases h
  | _ => cases h
noncomputable def and2 (p q : Option Bool) : Option Bool := match p with
  | none => none
  | some x => (match q with
    | none => none
    | some y => some (x && y))
theorem and2_some {p q : Option Bool} {e : Bool} (h : and2 p q = some e) : ∃ x y, p = some x ∧ q = some y ∧ (x && y) = e := by
  induction p with
  | none => cases h
  | some x =>
    induction q with
    | none => cases h
    | some y => exact ⟨x, y, rfl, rfl, Option.some.inj h⟩
noncomputable def eqKs : List V → List V → Option Bool
  | [], vs => some vs.isEmpty
  | a :: as, vs => (match vs with
    | [] => some false
    | b :: bs => and2 (eqK a b) (eqKs as bs))
theorem eqKs_spec {us : List V} : ∀ {vs : List V} {e : Bool}, eqKs us vs = some e → ∃ f : Nat → Bool, (∀ j a b, us[j]? = some a → vs[j]? = some b → eqK a b = some (f j)) ∧ ((List.range (min us.length vs.length)).all f && us.length == vs.length) = e := by
  induction us with
  | nil => intro vs e h; refine ⟨fun _ => true, (fun j a b q => by cases q), ?_⟩; cases h; rw [List.length_nil, Nat.zero_min]; induction vs <;> rfl
  | cons a as ih =>
    intro vs e h
    cases vs with
    | nil => cases h; exact ⟨fun _ => true, (fun j a b q q' => by cases q'), rfl⟩
    | cons b bs =>
      obtain ⟨x, y, h1, h2, rfl⟩ := and2_some h
      obtain ⟨f, hf, rfl⟩ := ih h2
      refine ⟨fun j => Nat.casesOn j x f, fun j u v hu hv => ?_, ?_⟩
      · induction j with
        | zero => cases hu; cases hv; exact h1
        | succ j => exact hf j u v hu hv
      · have e1 : min (a :: as).length (b :: bs).length = min as.length bs.length + 1 := Nat.succ_min_succ _ _
        have e2 : ((a :: as).length == (b :: bs).length) = (as.length == bs.length) := by simp
        rw [e1, e2, List.range_succ_eq_map, List.all_cons, List.all_map, Bool.and_assoc]
        rfl
theorem tup_pairs {W : Wd} {A : Around} {s : Shared} {us vs : List V} {xs ys : List Value} {f : Nat → Bool} (r1 : VRs W us xs) (r2 : VRs W vs ys) (hf : ∀ j a b, us[j]? = some a → vs[j]? = some b → eqK a b = some (f j)) (j : Nat) (h1 : j < xs.toArray.size) (h2 : j < ys.toArray.size) : EqAt A s xs.toArray[j] ys.toArray[j] (f j) := by
  have h1' : j < us.length := by rw [r1.1]; exact h1
  have h2' : j < vs.length := by rw [r2.1]; exact h2
  exact eqK_at (r1.2 j us[j] _ (List.getElem?_eq_getElem h1') (List.getElem?_eq_getElem (l := xs) h1)) (r2.2 j vs[j] _ (List.getElem?_eq_getElem h2') (List.getElem?_eq_getElem (l := ys) h2)) (hf j _ _ (List.getElem?_eq_getElem h1') (List.getElem?_eq_getElem h2'))
theorem K_eq_t {us vs : List V} {e : Bool} (h : Q (.bool e) σ) (he : eqKs us vs = some e) (hz : z.Ok n) : O2 z VR (.tup us) (.tup vs) (compareOp .Eq) σ Q := fun W s x y ra rb p => by
  obtain ⟨a, xs, m, rfl, e1, r1⟩ := tup_at ra p
  obtain ⟨b, ys, m', rfl, e2, r2⟩ := tup_at rb p
  obtain ⟨f, hf, hfe⟩ := eqKs_spec he
  refine eq_tupleAt (e := f) (asT e1) (asT e2) (by have := hz.uni; show z.A.units < 9900; lia) (tup_pairs r1 r2 hf) ?_
  rw [List.size_toArray, List.size_toArray, ← r1.1, ← r2.1, hfe]; exact here .bool p h
theorem K_ne_t {us vs : List V} {e : Bool} (h : Q (.bool (!e)) σ) (he : eqKs us vs = some e) (hz : z.Ok n) : O2 z VR (.tup us) (.tup vs) (compareOp .NotEq) σ Q := fun W s x y ra rb p => by
  obtain ⟨a, xs, m, rfl, e1, r1⟩ := tup_at ra p
  obtain ⟨b, ys, m', rfl, e2, r2⟩ := tup_at rb p
  obtain ⟨f, hf, hfe⟩ := eqKs_spec he
  refine (RcNeAt.tuples (e := f) (asT e1) (asT e2) (by have := hz.uni; show z.A.units < 9900; lia) (tup_pairs r1 r2 hf)) _ _ _ _ ?_
  rw [List.size_toArray, List.size_toArray, ← r1.1, ← r2.1, hfe]; exact here .bool p h

noncomputable def iV (is : List Int) : List V := is.map V.int
theorem ints_are {W : Wd} : ∀ {is : List Int} {xs : List Value}, VRs W (iV is) xs → IntsAre xs is
  | [], xs, r => by rw [r.nil_inv]; exact .nil
  | i :: is, xs, r => by
    refine hideG fun R_ k_ => ?_
    obtain ⟨x, ys, rfl, r1, r2⟩ := VRs.cons_inv r
    refine k_ ?_
    clear k_
    obtain ⟨_, rfl⟩ := r1.inv
    exact .cons _ _ (ints_are r2)
theorem K_eq_l {a b : V} {is js : List Int} (h : Q (.bool (decide (is = js))) σ) (ha : isL σ a (iV is)) (hb : isL σ b (iV js)) (hz : z.Ok n) : O2 z VR a b (compareOp .Eq) σ Q := fun W s x y ra rb p => by
  obtain ⟨a, xs, m, rfl, e1, r1⟩ := ha.at ra p
  obtain ⟨b, ys, m', rfl, e2, r2⟩ := hb.at rb p
  exact eq_intsK (asL e1) (ints_are r1) (asL e2) (ints_are r2) (by have := hz.uni; show z.A.units + 64 < 9900; lia) (here .bool p h)
theorem K_ne_l {a b : V} {is js : List Int} (h : Q (.bool (!decide (is = js))) σ) (ha : isL σ a (iV is)) (hb : isL σ b (iV js)) (hz : z.Ok n) : O2 z VR a b (compareOp .NotEq) σ Q := fun W s x y ra rb p => by
  obtain ⟨a, xs, m, rfl, e1, r1⟩ := ha.at ra p
  obtain ⟨b, ys, m', rfl, e2, r2⟩ := hb.at rb p
  exact ne_intsK (asL e1) (ints_are r1) (asL e2) (ints_are r2) (by have := hz.uni; show z.A.units + 64 < 9900; lia) (here .bool p h)

theorem R_dict0 (h : Q (.ref σ.nx) ⟨σ.m, upd σ.o σ.nx (.imap (fun _ => none) 0), σ.nx + 1⟩) : EX z VR (eval (.Dict [] [] pos) z.env) σ Q := fun W s p => by
  refine wpAny_Dict_empty ?_
  obtain ⟨p', l, e⟩ := p.newM (x := { cls := .type "dict", data := .dict #[] }) rfl (toks := s.toks) (dr := s.drawn) (y := .imap (fun _ => none) 0) ⟨[], Heap.DictOf.new _, Nat.le_refl _, fun _ => trivial⟩
  exact there l (.ref e) p' h
section
variable {mp : Int → Option V} {kk : Nat}
theorem map_at {W s} (p : z.pre W σ s) {a} (ho : σ.o k = some (.imap mp kk)) (e : W.ρ k = some a) : ∃ kvs, s.heap.DictOf (intKind z.c.prog z.c.w) a kvs ∧ kvs.length ≤ kk ∧ ∀ x, OR W (mp x) (valueAt kvs x) := by
  refine hideG fun R_ k_ => ?_
  obtain ⟨a', e', r⟩ := p.g.mu k _ ho
  rw [e] at e'; cases e'
  refine k_ ?_
  clear k_
  exact r
theorem intKind_is (p : Program) (w : World) (i : Int) (t : Tok) : (intKind p w).is i (.int i t) = true := by simp [intKind, Value.isInt]
theorem OR.isSome {W : Wd} {a b} (h : OR W a b) : b.isSome = a.isSome := by induction a <;> induction b <;> first | rfl | exact h.elim
theorem K_in (h : Q (.bool (mp i).isSome) σ) (ho : σ.o k = some (.imap mp kk)) : O2 z VR (.int i) (.ref k) (compareOp .In) σ Q := fun W s x y ra rb p => by
  obtain ⟨_, rfl⟩ := ra.inv
  obtain ⟨_, rfl, e⟩ := rb.inv
  obtain ⟨kvs, hd, hl, hr⟩ := map_at p ho e
  exact wpAny_in_of (intKind_is ..) (p.g.sysm e) hd.mapOf (here (b := V.bool _) (by rw [(hr i).isSome]; exact .bool) p.toks h)
theorem K_notin (h : Q (.bool (!(mp i).isSome)) σ) (ho : σ.o k = some (.imap mp kk)) : O2 z VR (.int i) (.ref k) (compareOp .NotIn) σ Q := fun W s x y ra rb p => by
  obtain ⟨_, rfl⟩ := ra.inv
  obtain ⟨_, rfl, e⟩ := rb.inv
  obtain ⟨kvs, hd, hl, hr⟩ := map_at p ho e
  exact wpAny_notIn_of (intKind_is ..) (p.g.sysm e) hd.mapOf (here (b := V.bool _) (by rw [(hr i).isSome]; exact .bool) p.toks h)
theorem I_dict {ve ie : Expr} {u : V} (h : Q u σ) (ho : σ.o k = some (.imap mp kk)) (hu : mp i = some u)
    (hs : ∀ a b, subscripted ie false (.ref a) (.int i b) = operate [.ref a, .int i b] (getItem (.ref a) (.int i b))) : O2 z VR (.ref k) (.int i) (subscriptTail ve ie) σ Q := fun W s x y ra rb p => by
  obtain ⟨_, rfl⟩ := rb.inv
  obtain ⟨_, rfl, e⟩ := ra.inv
  obtain ⟨kvs, hd, hl, hr⟩ := map_at p ho e
  have q := hr i
  rw [hu] at q
  obtain ⟨x, ex, rx⟩ := q.some_inv
  exact tail_any hd.typeIs slot_dict_getitem.lookup (wpAny_getItem_of (intKind_is ..) hd.mapOf ex (here rx p.toks h)) (hs _ _)
theorem get_call {d : V} (h : Q ((mp i).getD d) σ) (ho : σ.o k = some (.imap mp kk)) : OL z VR [.ref k, .int i, d] (fun xs => call (.builtin "dict.get") xs) σ Q := fun W s xs r p => by
  obtain ⟨x, xs, rfl, r1, r'⟩ := r.cons_inv
  obtain ⟨y, xs, rfl, r2, r''⟩ := r'.cons_inv
  obtain ⟨u, xs, rfl, r3, r'''⟩ := r''.cons_inv
  obtain rfl := r'''.nil_inv
  obtain ⟨_, rfl⟩ := r2.inv
  obtain ⟨_, rfl, e⟩ := r1.inv
  refine hideG fun R_ k_ => ?_
  obtain ⟨kvs, hd, hl, hr⟩ := map_at p ho e
  refine k_ ?_
  clear k_
  refine call_meetsIn F.slot_dict_get hd.typeIs F.entry_dict_get (F.args_dict_get_3 _ _ _) (meets_dict_get_default _ _ (intKind_is ..) (p.g.sysm e) u) ⟨_, hd.mapOf, here (b := (mp i).getD d) ?_ p.toks h⟩
  have q := hr i
  cases em : mp i with
  | none => rw [em] at q; rw [q.none_inv]; exact r3
  | some w => rw [em] at q; obtain ⟨v, ev, rv⟩ := q.some_inv; rw [ev]; exact rv
set_option tactic.hygienic true in
theorem valueAt_stored {κ : Type} [DecidableEq κ] (kvs : List (κ × Value)) (a b : κ) (v : Value) : valueAt (stored kvs a v) b = if b = a then some v else valueAt kvs b := by
  unfold stored
  split
  · rename_i hh
    rw [List.any_eq_true] at hh
    unfold valueAt
    induction kvs with
    | nil => obtain ⟨_, h, _⟩ := hh; cases h
    | cons kv r ih =>
      obtain ⟨c, u⟩ := kv
      simp only [List.map_cons, List.find?_cons]
      by_cases h1 : c = a
      · subst h1
        simp only [if_true]
        by_cases h2 : b = c
        · subst h2; simp
        · have : ¬ c = b := fun q => h2 q.symm
          simp only [h2, if_false, this, decide_false]
          clear ih hh
          induction r with
          | nil => rfl
          | cons x r ih =>
            obtain ⟨d, y⟩ := x
            simp only [List.map_cons, List.find?_cons]
            by_cases h3 : d = c
            · subst h3; simp only [if_true, this, decide_false]; exact ih
            · simp only [h3, if_false]
              by_cases h4 : d = b
              · simp [h4]
              · simp only [h4, decide_false]; exact ih
      · simp only [h1, if_false]
        by_cases h2 : c = b
        · subst h2; simp [h1]
        · simp only [h2, decide_false]
          refine ih ?_
          obtain ⟨x, hx, hq⟩ := hh
          rcases List.mem_cons.mp hx with rfl | hx
          · simp [h1] at hq
          · exact ⟨x, hx, hq⟩
  · rename_i hh
    unfold valueAt
    rw [List.find?_append]
    by_cases h : b = a
    · subst h
      have : List.find? (fun kv => decide (kv.1 = b)) kvs = none := by
        rw [List.find?_eq_none]
        intro x hx hq
        exact hh (List.any_eq_true.mpr ⟨x, hx, hq⟩)
      simp [this]
    · have : ¬ a = b := fun q => h q.symm
      simp [h, this]
theorem valueAt_without (kvs : List (Int × Value)) (a b : Int) : valueAt (without kvs a) b = if b = a then none else valueAt kvs b := by
  unfold valueAt without
  induction kvs with
  | nil => simp
  | cons kv r ih =>
    obtain ⟨c, u⟩ := kv
    simp only [List.filter_cons]
    by_cases h1 : c = a
    · subst h1
      simp only [ne_eq, not_true_eq_false, decide_false, Bool.false_eq_true, if_false, ih, List.find?_cons]
      by_cases h2 : b = c
      · simp [h2]
      · have : ¬ c = b := fun q => h2 q.symm
        simp [h2, this]
    · simp only [ne_eq, h1, not_false_eq_true, decide_true, if_true, List.find?_cons]
      by_cases h2 : c = b
      · subst h2; simp [h1]
      · simp only [h2, decide_false]; exact ih
noncomputable def updI (m : Int → Option V) (a : Int) (v : Option V) : Int → Option V := fun b => if b = a then v else m b
theorem set_dict_int {v : V} (h : QU () ⟨σ.m, upd σ.o k (.imap (updI mp i (some v)) (kk + 1)), σ.nx⟩) (ho : σ.o k = some (.imap mp kk)) (hs : kk ≤ 2 ^ 24) : O3 z RU (.ref k) (.int i) v (fun a b c => setItem a b c) σ QU := fun W s x y u r ri rv p => by
  obtain ⟨_, rfl⟩ := ri.inv
  obtain ⟨_, rfl, e⟩ := r.inv
  obtain ⟨kvs, hd, hl, hr⟩ := map_at p ho e
  refine wpAny_setItem_pairs (intKind_is ..) hd (fun h' hm hsb => here (b := ()) trivial (p.put ho e hsb (x := .imap (updI mp i (some v)) (kk + 1)) ⟨_, hm, Nat.le_trans (stored_length_le ..) (by lia), fun b => ?_⟩) h) (by rw [sizeLine_eq]; lia)
  rw [valueAt_stored]
  unfold updI
  split
  · exact rv
  · exact hr b
theorem pop_dict {u : V} (h : Q u ⟨σ.m, upd σ.o k (.imap (updI mp i none) kk), σ.nx⟩) (ho : σ.o k = some (.imap mp kk)) (hu : mp i = some u) (hs : kk ≤ 2 ^ 24) : OL z VR [.ref k, .int i] (fun xs => call (.builtin "dict.pop") xs) σ Q := fun W s xs r p => by
  obtain ⟨x, xs, rfl, r1, r'⟩ := r.cons_inv
  obtain ⟨y, xs, rfl, r2, r''⟩ := r'.cons_inv
  obtain rfl := r''.nil_inv
  obtain ⟨_, rfl⟩ := r2.inv
  obtain ⟨_, rfl, e⟩ := r1.inv
  refine hideG fun R_ k_ => ?_
  obtain ⟨kvs, hd, hl, hr⟩ := map_at p ho e
  have q := hr i
  refine k_ ?_
  clear k_
  rw [hu] at q
  obtain ⟨v, ev, rv⟩ := q.some_inv
  refine call_meetsIn F.slot_dict_pop hd.typeIs F.entry_dict_pop (F.args_dict_pop_2 _ _) (meets_dict_pop_there _ _ (intKind_is ..) [] (.inl rfl) rfl) ⟨kvs, v, hd, by rw [sizeLine_eq]; lia, ev, fun h' hm hsb => here rv (p.put ho e hsb (x := .imap (updI mp i none) kk) ⟨_, hm, Nat.le_trans (length_without_le ..) hl, fun b => ?_⟩) h⟩
  rw [valueAt_without]
  unfold updI
  split
  · trivial
  · exact hr b
end
end
end Mine
end

section
open PySem PySem.W PySem.Calls PyProof.Rows PySem.SeqAt
set_option Elab.async false
set_option linter.unusedVariables false
set_option autoImplicit true
set_option maxRecDepth 100000
set_option tactic.hygienic false
namespace Mine

section
variable {z : Z} {n : Nat} {σ : St} {Q : V → St → Prop} {QB : Bool → St → Prop} {QF : Fl → St → Prop} {QU : Unit → St → Prop} {QL : List V → St → Prop} {pos : Pos} {k : Nat} {i j : Int}

noncomputable def Z.Own (z : Z) : Prop := ∀ W, PassesOwn (model z.c.prog z.c.w) z.A z.env (z.XE.p W)

theorem S_while {t : Expr} {b : List Stmt} (hz : z.Own) (I : St → Prop) (μ : St → Nat) (h0 : I σ)
    (h : ∀ σ, I σ → EX z RB (isTrue t z.env (eval t z.env)) σ fun c σ1 => if c then EX z FlR (execs b z.env) σ1 fun f σ2 => match f with
        | .next | .cont => I σ2 ∧ μ σ2 < μ σ
        | .brk => QF .next σ2
        | .ret v => QF (.ret v) σ2
      else QF .next σ1) : EX z FlR (exec (.While t b [] pos) z.env) σ QF := fun W s p => by
  refine wpAny_While (codeAny_whileLoop (R := fun r s' => match r with | .ok f => z.post FlR QF W f s' | .error e => cameBackBy (model z.c.prog z.c.w) z.A z.env (z.XE.p W) e s')
    (fun n s => ∃ W1 σ1, W.le W1 ∧ z.pre W1 σ1 s ∧ I σ1 ∧ μ σ1 = n) ?_ (μ σ) ⟨W, σ, .rfl', p, h0, rfl⟩)
  refine fun n s1 hq_ => hideG fun R_ k_ => ?_
  obtain ⟨W1, σ1, l1, p1, i1, rfl⟩ := hq_
  refine k_ ?_
  clear k_
  refine wpAny_passesOwn (hz W) (seq l1 (h σ1 i1) p1 fun W2 b2 σ2 v2 s2 l2 r2 p2 q2 => ?_)
  induction r2
  induction b2
  · exact wpAny_execs_nil (there (l1.trans l2) (b := Fl.next) trivial p2 q2)
  · refine wpAny_passesOwn (hz W) (seq (l1.trans l2) q2 p2 fun W3 b3 σ3 v3 s3 l3 r3 p3 q3 => ?_)
    induction b3 <;> induction v3 <;> first | exact r3.elim | skip
    · exact ⟨_, q3.2, W3, σ3, (l1.trans l2).trans l3, p3, q3.1, rfl⟩
    · exact there ((l1.trans l2).trans l3) (b := Fl.next) trivial p3 q3
    · exact ⟨_, q3.2, W3, σ3, (l1.trans l2).trans l3, p3, q3.1, rfl⟩
    · exact there ((l1.trans l2).trans l3) (b := Fl.ret _) r3 p3 q3

theorem for_nil {t : Expr} {b : List Stmt} (hz : z.Ok n) {W W1 : Wd} {s1 : Shared} {v : V} {xv : Value} (l1 : W.le W1) (p1 : z.pre W1 σ s1) (r1 : VR W1 v xv) (hl : isL σ v []) (q : QF .next σ) :
    wpAny (model z.c.prog z.c.w) z.A (pyIter xv) (fun it s₂ => codeAny (model z.c.prog z.c.w) z.A (.forLoop t it b [] z.env) (fun r s' => match r with | .ok f => z.post FlR QF W f s' | .error e => cameBackBy (model z.c.prog z.c.w) z.A z.env (z.XE.p W) e s') s₂) (z.XE.p W) s1 := by
  refine hideG fun R_ k_ => ?_
  obtain ⟨a, xs, m, rfl, ea, rs⟩ := hl.at r1 p1
  obtain rfl := rs.nil_inv
  refine k_ ?_
  clear k_
  refine wpAny_pyIter_list (asL ea) ?_
  refine codeAny_forLoop_any (R := fun r s' => match r with | .ok f => z.post FlR QF W f s' | .error e => cameBackBy (model z.c.prog z.c.w) z.A z.env (z.XE.p W) e s')
    (fun _ s' => s' = { s1 with heap := s1.heap.push { cls := .type "list_iterator", data := .fields #[.ref a, .int 0 0] } }) ?_ 0 rfl
  rintro _ _ rfl
  have kk : ∀ b x, s1.heap.get? b = some x → (s1.heap.push { cls := .type "list_iterator", data := .fields #[.ref a, .int 0 0] }).get? b = some x := fun b x e => Heap.get?_push_of_some _ e
  refine wpAny_pyNext_list_end (i := 0) (items := #[]) hz.hd ⟨_, Heap.get?_push_size _ rfl, rfl, rfl⟩ (asL (kk _ _ ea)) rfl fun h' he => wpAny_execs_nil ?_
  exact there l1 (b := Fl.next) trivial (p1.ext fun b x e => he b x (Nat.ne_of_lt (Heap.lt_size e)) (kk _ _ e)) q

theorem range_call (h : Q (.rng i) σ) : OL z VR [.int i] (fun xs => call (.type "range") xs) σ Q := fun W s xs r p => by
  obtain ⟨x, xs, rfl, r1, r'⟩ := r.cons_inv
  obtain rfl := r'.nil_inv
  obtain ⟨_, rfl⟩ := r1.inv
  refine call_range_1 ?_
  obtain ⟨p', l, e⟩ := p.newF (⟨.type "range", none, .fields #[.int 0 s.toks, .int i _, .int 1 (s.toks + 1)], #[]⟩ : Obj) (toks := s.toks + 1 + 1) (dr := s.drawn)
  exact there l (.rng e) p' h
theorem abs_call (h : Q (.int (if i < 0 then -i else i)) σ) : OL z VR [.int i] (fun xs => call (.builtin "abs") xs) σ Q := fun W s xs r p => by
  obtain ⟨x, xs, rfl, r1, r'⟩ := r.cons_inv
  obtain rfl := r'.nil_inv
  obtain ⟨_, rfl⟩ := r1.inv
  exact call_abs_int fun u tk => here (b := V.int _) .int p.toks h

theorem Z.pre.parkd {W : Wd} {s : Shared} (p : z.pre W σ s) {a : Addr} {pr : Option Obj → Prop} {ob : Obj} (h : pr (some ob)) (eo : s.heap.get? a = some ob) (hF : W.F a = none) (hP : W.P a = none) (hR : ∀ n, W.ρ n ≠ some a) (hL : z.env.locals ≠ a) :
    z.pre (W.addP a pr) σ s := by
  have l0 : W.le (W.addP a pr) := Wd.le_addP hP
  exact ⟨p.g.parkd h eo hF hP hR, p.f.mono l0 p.f.outF (by simp only [Wd.addP]; rw [if_neg hL]; exact p.f.outP) p.f.outR, p.k.mono l0⟩
theorem Stk.out {W : Wd} {outer} (k : Stk W outer) {a : Addr} (h : ∀ e ∈ outer, e.frame ≠ some a) : Stk (W.delP a) outer := fun e he => by
  refine hideG fun R_ k_ => ?_
  obtain ⟨x, L, m, y, w⟩ := k e he
  refine k_ ?_
  clear k_
  refine ⟨x, L, m, y, ?_⟩
  exact (if_neg (fun q => h e he (by rw [y, q]))).trans w
theorem Z.pre.unP {W W0 : Wd} {s : Shared} {a : Addr} (p : z.pre W σ s) {s0 : Shared} {σ0} (p0 : z.pre W0 σ0 s0) (hP : W0.P a = none) : z.pre (W.delP a) σ s :=
  ⟨p.g.unP (p0.g.new.2.ne hP), ⟨by obtain ⟨m', e, b⟩ := p.f.ns; exact ⟨m', e, fun x v q => by obtain ⟨v', c, d⟩ := b x v q; exact ⟨v', c, d.unP⟩⟩, p.f.outF, (by
    simp only [Wd.delP]; split
    · rfl
    · exact p.f.outP), p.f.outR, p.f.cells⟩,
   p.k.out fun e he q => by
    obtain ⟨x, L, m, y, w⟩ := p0.k e he
    obtain rfl := Option.some.inj (y.symm.trans q); cases hP.symm.trans w⟩

end
end Mine
end

section
open PySem PySem.W PySem.Calls PyProof.Rows PySem.SeqAt
set_option Elab.async false
set_option linter.unusedVariables false
set_option autoImplicit true
set_option maxRecDepth 100000
set_option tactic.hygienic false
namespace Mine

section
variable {z : Z} {n : Nat} {σ : St} {Q : V → St → Prop} {QB : Bool → St → Prop} {QF : Fl → St → Prop} {QU : Unit → St → Prop} {QL : List V → St → Prop} {pos : Pos} {k : Nat} {i j : Int}

theorem Z.pre.nowhere {W : Wd} {s : Shared} (p : z.pre W σ s) {a : Addr} (h : s.heap.get? a = none) : W.F a = none ∧ W.P a = none ∧ (∀ n, W.ρ n ≠ some a) ∧ z.env.locals ≠ a := by
  refine ⟨?_, ?_, fun n q => ?_, fun q => ?_⟩
  · cases e : W.F a with
    | none => rfl
    | some x => have := p.g.fz _ _ e; cases h.symm.trans this
  · cases e : W.P a with
    | none => rfl
    | some x => obtain ⟨_, ⟨_, e⟩, _⟩ := p.g.park _ _ e; cases h.symm.trans e
  · obtain ⟨_, _, _, e⟩ := p.g.sep n _ q; cases h.symm.trans e
  · obtain ⟨m, ⟨o, _, _, e, _⟩, _⟩ := p.f.ns; rw [q, h] at e; exact nomatch e
set_option tactic.hygienic true in
theorem Z.pre.bornF {W : Wd} {s : Shared} (p : z.pre W σ s) {h' : Heap} (k : ∀ b x, s.heap.get? b = some x → h'.get? b = some x) {a : Addr} (h : s.heap.get? a = none) {x : Obj} (ex : h'.get? a = some x) {toks dr} :
    z.pre (W.addF a x) σ ⟨h', s.gens, dr, toks, s.os⟩ ∧ W.le (W.addF a x) ∧ (W.addF a x).F a = some x := by
  refine hideG fun R_ k_ => ?_
  obtain ⟨F0, P0, R0, L0⟩ := p.nowhere h
  refine k_ ?_
  clear k_
  have l := Wd.le_addF (x := x) F0
  have p1 := p.ext k (toks := toks) (dr := dr)
  refine ⟨⟨⟨p1.g.ok, fun b x e => ?_, fun b x e => l.F _ _ (p1.g.base b x e), fun n x e => by obtain ⟨b, c, d⟩ := p1.g.mu n x e; exact ⟨b, c, d.mono l⟩, fun n b e => ⟨?_, (p1.g.sep n b e).2⟩, p1.g.inj, p1.g.fresh, fun b m e => ⟨(p1.g.park b m e).1, (p1.g.park b m e).2.1, ?_⟩, p1.g.os, p1.g.gens, p1.g.new.1, p1.g.new.2.keep l fun _ _ e => e⟩,
      p1.f.mono l ?_ p1.f.outP p1.f.outR, p1.k.mono l⟩, l, if_pos rfl⟩
  · simp only [Wd.addF] at e
    split at e
    · rename_i q; subst q; obtain rfl := Option.some.inj e; exact ex
    · exact p1.g.fz b x e
  · exact (if_neg (fun q => by subst q; exact R0 n e)).trans ((p1.g.sep n b e).1)
  · exact (if_neg (fun q => by subst q; have e : W.P _ = some m := e; cases P0.symm.trans e)).trans ((p1.g.park b m e).2.2)
  · simp only [Wd.addF]; rw [if_neg L0]; exact p.f.outF

theorem get_size {h : Heap} {a : Addr} (l : h.objs.size ≤ a) : h.get? a = none := by
  cases e : h.get? a with
  | none => rfl
  | some x => exact absurd (Heap.lt_size e) (Nat.not_lt.mpr l)

theorem R_neg {e} (h : EX z VR (eval e z.env) σ fun a σ1 => ∃ i, a = .int i ∧ Q (.int (-i)) σ1) : EX z VR (eval (.UnaryOp .USub e pos) z.env) σ Q := fun W s p =>
  UnaryOp_ (seq .rfl' h p fun W1 a σ1 va s1 l1 ra p1 q1 => by
    refine hideG fun R_ k_ => ?_
    obtain ⟨i, rfl, q⟩ := q1
    refine k_ ?_
    clear k_
    obtain ⟨_, rfl⟩ := ra.inv
    exact neg_int (there l1 .int p1.toks q))

theorem list_range (h : Q (.lst ((List.range j.toNat).map fun (i : Nat) => V.int (i : Nat))) σ) (h0 : 0 ≤ j) (hj : j < 2 ^ 24) (hz : z.Ok n) : OL z VR [.rng j] (fun xs => call (.type "list") xs) σ Q := fun W s xs r p => by
  obtain ⟨x, xs, rfl, r1, r'⟩ := r.cons_inv
  obtain rfl := r'.nil_inv
  obtain ⟨a, t, u, v, rfl, e⟩ := r1.inv
  have hs : Builtin.Range.rangeSize 0 j 1 = j.toNat := by rw [rangeSize_one]; split <;> lia
  refine call_list_range hz.hd (p.g.fz _ _ e) (small_one (by lia) (by lia) (by lia) (by lia)) hs (by lia) fun h' tk acc c' hk hD hI => ?_
  obtain ⟨p', l, e'⟩ := p.bornF (toks := tk) (dr := s.drawn) hk (get_size (Nat.le_refl _)) hD
  refine there l (VRs.lst (n := c') (xs := acc.toList) ?_ ⟨?_, fun i v x e1 e2 => ?_⟩) p' h
  · rw [e']
  · simp [hI.1]
  · rw [List.getElem?_map, Option.map_eq_some_iff] at e1
    obtain ⟨i', e3, rfl⟩ := e1
    rw [List.getElem?_eq_some_iff] at e3
    obtain ⟨e4, e5⟩ := e3
    simp at e5
    subst e5
    obtain ⟨t, rfl⟩ := hI.2 i x (by simpa using e2)
    have : (0 : Int) + (i : Int) * 1 = (i : Nat) := by lia
    rw [this]; exact .int

theorem sorted_dict0 {mp : Int → Option V} (h : Q (.lst []) σ) (ho : σ.o k = some (.imap mp 0)) (hz : z.Ok n) : OL z VR [.ref k] (fun xs => call (.builtin "sorted") xs) σ Q := fun W s xs r p => by
  obtain ⟨x, xs, rfl, r1, r'⟩ := r.cons_inv
  obtain rfl := r'.nil_inv
  obtain ⟨d, rfl, e⟩ := r1.inv
  refine hideG fun R_ k_ => ?_
  obtain ⟨kvs, hd, hl, hr⟩ := map_at p ho e
  obtain rfl : kvs = [] := List.length_eq_zero_iff.mp (Nat.le_zero.mp hl)
  obtain ⟨ep, hda⟩ := hd.dictAt
  refine k_ ?_
  clear k_
  have hT := hd.typeIs
  have sy := p.g.sysm e
  have hlt : d < s.heap.objs.size := hda.lt_size
  refine Calls.call_function_entry kind_sorted plain_sorted entry_sorted (args_sorted1 _) ?_
  unfold Builtin.«sorted»
  refine wpAny_bind (m := checkCount "sorted" 1 1 _) (wpAny_pure ?_)
  have key : ∀ h1 : Heap, (∀ b x, s.heap.get? b = some x → h1.get? b = some x) → s.heap.objs.size ≤ h1.objs.size → ∀ t1, wpAny (model z.c.prog z.c.w) z.A.in1 (do
      let l ← newList []
      let _ ← holding [l] (call (.builtin "list.sort") [l] [])
      ret l) (fun f s' => ∃ v, f = .done (.ret v) ∧ z.post VR Q W v s') (z.XE.p W) ⟨h1, s.gens, s.drawn, t1, s.os⟩ := fun h1 k1 l1 t1 => by
    refine wpAny_bind (wpAny_newList ?_)
    have hoL : (h1.push (seqObj "list" #[] 0)).get? h1.objs.size = some (seqObj "list" #[] 0) := Heap.get?_push_size _ rfl
    refine wpAny_bind (wpAny_holding (wpAny_call_entry slot_list_sort ⟨_, hoL, rfl⟩ entry_list_sort (list_sort_tree (vs := []) (ns := []) (n := 0) hoL .nil (by simp) fun out ns' a1 a2 a3 => ⟨_, rfl, ?_⟩) (args_list_sort _)))
    obtain rfl := a2.eq_nil
    have ho : out = #[] := by
      induction out with
      | mk l => cases a1; rfl
    subst ho
    refine wpAny_pure ⟨_, rfl, ?_⟩
    have l2 : h1.objs.size < (h1.push (seqObj "list" #[] 0)).objs.size := by rw [size_push']; exact Nat.lt_succ_self _
    obtain ⟨m0, hm0⟩ : ∃ m, ((h1.push (seqObj "list" #[] 0)).update h1.objs.size (Obj.mapSeq fun _ => #[])).get? h1.objs.size = some (seqObj "list" #[] m) := ⟨_, get?_update_seq hoL _⟩
    have hm1 : ((((h1.push (seqObj "list" #[] 0)).update h1.objs.size (Obj.mapSeq fun _ => #[])).push (seqObj "tuple" ([] : List Value).toArray 0)).push (seqObj "list" #[] 0)).get? h1.objs.size = some (seqObj "list" #[] m0) :=
      Heap.get?_push_of_some _ (Heap.get?_push_of_some _ hm0)
    obtain ⟨m, hm⟩ : ∃ m, (sortedHeap (h1.push (seqObj "list" #[] 0)) h1.objs.size [] #[]).get? h1.objs.size = some (lstO [] m) := ⟨_, get?_update_seq hm1 _⟩
    have k2 : ∀ b x, s.heap.get? b = some x → (sortedHeap (h1.push (seqObj "list" #[] 0)) h1.objs.size [] #[]).get? b = some x := fun b x e => by
      have hb : h1.objs.size ≠ b := Nat.ne_of_gt (Nat.lt_of_lt_of_le (Heap.lt_size e) l1)
      exact (Heap.get?_update_other _ _ hb).trans (Heap.get?_push_of_some _ (Heap.get?_push_of_some _ ((Heap.get?_update_other _ _ hb).trans (Heap.get?_push_of_some _ (k1 b x e)))))
    obtain ⟨p', l, e'⟩ := p.bornF (h' := sortedHeap (h1.push (seqObj "list" #[] 0)) h1.objs.size [] #[]) (toks := t1) (dr := s.drawn) k2 (get_size l1) hm
    exact there l (VRs.lst e' .nil) p' h
  refine wpAny_bind (m := collect (.ref d)) ?_
  unfold collect
  refine wpAny_bind (wpAny_runValue (codeAny_builtin F.entry_proto_collect ?_))
  rw [Around.under_plainId F.plain_proto_collect _]
  show wpAny _ z.A.in1.in1 (newList [] >>= fun l => again (.builtin "list.__iadd__" ⟨[l, .ref d], []⟩)) _ _ s
  refine wpAny_bind (wpAny_newObj_type ?_)
  refine wpAny_pure ⟨plainId_quiet F.plain_list_iadd _, codeAny_builtin F.entry_list_iadd ?_⟩
  rw [Around.under_plainId F.plain_list_iadd _]
  show wpAny _ z.A.in1.in1 (Builtin.List.listExtendWith (.ref s.heap.objs.size) (.ref d) (.ref s.heap.objs.size)) _ _ _
  unfold Builtin.List.listExtendWith
  have hS0 : (s.heap.push (lstO [] 0)).get? s.heap.objs.size = some (lstO [] 0) := Heap.get?_push_size _ rfl
  have hd1 := hda.push (lstO [] 0)
  have hT1 : Shared.TypeIs ⟨s.heap.push (lstO [] 0), s.gens, s.drawn, s.toks, s.os⟩ (.ref d) "dict" := hd1.dictOf.typeIs
  refine wpAny_bind (wpAny_typeOf hT1 ?_)
  have h1 : Builtin.List.listSameRef (.ref s.heap.objs.size) (.ref d) = false := by simp [Builtin.List.listSameRef]; exact fun q => Nat.ne_of_lt hlt q.symm
  rw [if_neg (by rw [h1]; decide)]
  refine wpAny_bind (wpAny_pyIter_dict sy hd1 ?_)
  have hd2 := hd1.push { cls := .type "dict_keyiterator", data := .fields #[.ref d, .int 0 0, .int (([] : List (Int × Value)).length : Nat) 0, .int ep 0] }
  generalize hs2 : ((s.heap.push (lstO [] 0)).push { cls := .type "dict_keyiterator", data := .fields #[.ref d, .int 0 0, .int (([] : List (Int × Value)).length : Nat) 0, .int ep 0] }) = h2 at hd2
  have kk2 : ∀ b x, (s.heap.push (lstO [] 0)).get? b = some x → h2.get? b = some x := fun b x e => by subst hs2; exact Heap.get?_push_of_some _ e
  have hI2 : h2.IsKeyIter (s.heap.objs.size + 1) d 0 0 ep := by subst hs2; rw [← size_push' s.heap (lstO [] 0)]; exact ⟨_, Heap.get?_push_size _ rfl, rfl, rfl⟩
  have sz2 : h2.objs.size = s.heap.objs.size + 1 + 1 := by subst hs2; rw [size_push', size_push']
  have hS2 := kk2 _ _ hS0
  have hp2 : (s.heap.push (lstO [] 0)).objs.size = s.heap.objs.size + 1 := size_push' _ _
  refine wpAny_bind (wpAny_holding ?_)
  show wpAny _ z.A.in1.in1 (Builtin.List.listLengthHint (.ref d)) _ _ _
  unfold Builtin.List.listLengthHint
  refine wpAny_bind (wpAny_specialOf (T := "dict") hd2.dictOf.typeIs F.slot_dict_len.lookup ?_)
  generalize hid : ("dict.__len__" : String) = id0
  wp_delta
  rw [show splitId id0 = some ("dict", "__len__") from by subst hid; decide +kernel]
  subst hid
  refine wpAny_bind (wpAny_isInstance (T := "dict") (b := true) hd2.dictOf.typeIs (by rw [isSubtype_type]; kernel_rfl) ?_)
  refine wpAny_ite_split (fun hab => absurd hab (by decide)) (fun _ => ?_)
  refine wpAny_ite_split (fun _ => ?_) (fun hab => absurd (by decide +kernel) hab)
  refine wpAny_bind (wpAny_typeOf (T := "dict") hd2.dictOf.typeIs ?_)
  refine wpAny_pure ?_
  refine wpAny_ite_split (fun _ => ?_) (fun hab => absurd (by decide +kernel) hab)
  refine wpAny_bind (wpAny_rule ?_)
  unfold Builtin.List.listTouch
  refine wpAny_bind (wpAny_bind (listUpdate_at hS2 rfl ?_))
  have hS3 := Heap.get?_update_self (Obj.mapSeq (·.push Value.none)) hS2 rfl
  refine listUpdate_at hS3 rfl ?_
  have hS4 := Heap.get?_update_self (Obj.mapSeq (·.pop)) hS3 rfl
  generalize hs4 : ((h2.update s.heap.objs.size (Obj.mapSeq (·.push Value.none))).update s.heap.objs.size (Obj.mapSeq (·.pop))) = h4 at hS4
  have sz4 : h4.objs.size = s.heap.objs.size + 1 + 1 := by subst hs4; rw [Heap.size_update, Heap.size_update, sz2]
  have k4 : ∀ b x, b ≠ s.heap.objs.size → h2.get? b = some x → h4.get? b = some x := fun b x hb e => by
    subst hs4
    exact (Heap.get?_update_other _ _ (Ne.symm hb)).trans ((Heap.get?_update_other _ _ (Ne.symm hb)).trans e)
  have hd4 : Heap.DictAt (intKind z.c.prog z.c.w) h4 d [] ep := by obtain ⟨o, es, ho, r⟩ := hd2; exact ⟨o, es, k4 _ _ (Nat.ne_of_lt hlt) ho, r⟩
  have hI4 : h4.IsKeyIter (s.heap.objs.size + 1) d 0 0 ep := by obtain ⟨o, ho, r⟩ := hI2; exact ⟨o, k4 _ _ (Nat.succ_ne_self _) ho, r⟩
  refine wpAny_pure ⟨plainId_quiet F.plain_extend_loop _, codeAny_builtin F.entry_extend_loop ?_⟩
  rw [Around.under_plainId F.plain_extend_loop _, hp2]
  refine wpAny_bind (wpAny_pyNext_dict_end (kvs := []) (i := 0) (ep := ep) hz.hd hI4 hd4 rfl fun h5 he5 => ?_)
  refine wpAny_pure ?_
  have hS5 := he5 _ _ (Nat.succ_ne_self _).symm hS4
  refine wpAny_bind (wpAny_load hS5 ?_)
  refine wpAny_pure (key _ (fun b x e => ?_) ?_ _)
  · have b1 : b < s.heap.objs.size := Heap.lt_size e
    exact he5 b x (Nat.ne_of_lt (Nat.lt_succ_of_lt b1)) (k4 b x (Nat.ne_of_lt b1) (kk2 _ _ (Heap.get?_push_of_some _ e)))
  · exact Nat.le_of_lt (Heap.lt_size hS5)
end
end Mine
end

section
open PySem PySem.W PySem.Calls PyProof.Rows PySem.SeqAt
set_option Elab.async false
set_option linter.unusedVariables false
set_option autoImplicit true
set_option maxRecDepth 100000
set_option tactic.hygienic false
namespace Mine

section
variable {z : Z} {n : Nat} {σ : St} {Q : V → St → Prop} {QB : Bool → St → Prop} {QF : Fl → St → Prop} {QU : Unit → St → Prop} {QS : St → Prop} {QL : List V → St → Prop} {pos : Pos} {k : Nat} {i j : Int}

noncomputable def ST (z : Z) (t : Expr) (v : V) (σ : St) (Q : St → Prop) : Prop := O1 z RU v (assign t z.env) σ fun _ σ' => Q σ'
noncomputable def SB (z : Z) (x : Str) (v : V) (σ : St) (Q : St → Prop) : Prop := O1 z RU v (fun u => storeName z.env x u) σ fun _ σ' => Q σ'
theorem ST_name {x : Str} {v : V} (h : SB z x v σ QS) : ST z (.Name x pos) v σ QS := fun W s u r p => wpAny_assign_Name (h W s u r p)
theorem SB_local {x : Str} {v : V} (h : QS (σ.set x v)) (hz : z.Ok n) (hx : z.env.kindOf x = some .local) : SB z x v σ QS := fun W s u r p => by
  obtain ⟨m', hn, hm⟩ := p.f.ns
  exact wpAny_storeName_local hx hn (fun h' hn' hs' => here (b := ()) trivial (p.loc r hm hn' hs') h) (by rw [hz.kind]; rfl)
theorem SB_cell {x : Str} {v : V} {v₀} (h : QS ⟨σ.m, upd σ.o k (.cell (some v)), σ.nx⟩) (ho : σ.o k = some (.cell v₀)) (hz : z.Ok n) (hc : z.cl.lookup x = some k) (hx : z.env.kindOf x = some .cell) : SB z x v σ QS := fun W s u r p => by
  refine hideG fun R_ k_ => ?_
  obtain ⟨b, e1, e2⟩ := p.f.cells x k hc
  obtain ⟨b', e3, ob, v', e4, e5, r'⟩ := p.g.mu k _ ho
  obtain rfl := Option.some.inj (e2.symm.trans e3)
  refine k_ ?_
  clear k_
  exact wpAny_storeName_cell hz.kind hx e1 ⟨ob, e4, e5⟩ (fun h' hi hs' => here (b := ()) trivial (p.put ho e2 hs' (x := .cell (some v)) (by obtain ⟨o, a, b⟩ := hi; exact ⟨o, _, a, b, r⟩)) h)
noncomputable def STs (z : Z) : List Expr → List V → St → (St → Prop) → Prop
  | [], [], σ, Q => Q σ
  | t :: ts, v :: vs, σ, Q => ST z t v σ fun σ' => STs z ts vs σ' Q
  | _, _, _, _ => False
noncomputable def SBs (z : Z) : List Str → List V → St → (St → Prop) → Prop
  | [], [], σ, Q => Q σ
  | t :: ts, v :: vs, σ, Q => SB z t v σ fun σ' => SBs z ts vs σ' Q
  | _, _, _, _ => False
noncomputable def noStars : List Expr → Bool
  | [] => true
  | .Starred _ _ :: _ => false
  | _ :: r => noStars r
theorem noStars_cons {t : Expr} {ts : List Expr} {env : Env} (h : noStars (t :: ts) = true) : assignEach (t :: ts) env = (false, assign t env) :: assignEach ts env ∧ noStars ts = true := by
  cases t <;> first | cases h | exact ⟨rfl, h⟩
theorem noStars_each : ∀ {ts : List Expr} {env : Env}, noStars ts = true → assignEach ts env = ts.map fun t => (false, assign t env)
  | [], _, _ => rfl
  | t :: ts, env, h => by rw [(noStars_cons (env := env) h).1, noStars_each (noStars_cons (env := env) h).2]; rfl
theorem STs_ok {ts : List Expr} : ∀ {vs : List V} {σ : St} {W : Wd} {s : Shared} {xs : List Value} {W0 : Wd} {K : Unit → Shared → Prop} , STs z ts vs σ QS → W0.le W → VRs W vs xs → z.pre W σ s →
    (∀ W' σ' s', W.le W' → z.pre W' σ' s' → QS σ' → K () s') → wpAny (model z.c.prog z.c.w) z.A (assignInOrder (ts.map fun t => assign t z.env) xs) K (z.XE.p W0) s := by
  induction ts with
  | nil =>
    intro vs σ W s xs W0 K h l r p k
    cases vs with
    | nil => exact assignInOrder_nil (k W σ s .rfl' p h)
    | cons v vs => exact h.elim
  | cons t ts ih =>
    intro vs σ W s xs W0 K h l r p k
    cases vs with
    | nil => exact h.elim
    | cons v vs =>
      obtain ⟨x, xs, rfl, r1, r2⟩ := r.cons_inv
      refine assignInOrder_cons (seq1 l h r1 p fun W1 b σ1 v1 s1 l1 _ p1 q1 => ?_)
      exact ih q1 (l.trans l1) (r2.mono l1) p1 fun W' σ' s' l' p' q' => k W' σ' s' (l1.trans l') p' q'
theorem SBs_ok {ts : List Str} : ∀ {vs : List V} {σ : St} {W : Wd} {s : Shared} {xs : List Value} {W0 : Wd} {K : Unit → Shared → Prop} , SBs z ts vs σ QS → W0.le W → VRs W vs xs → z.pre W σ s →
    (∀ W' σ' s', W.le W' → z.pre W' σ' s' → QS σ' → K () s') → wpAny (model z.c.prog z.c.w) z.A (assignInOrder (ts.map fun t => bindName z.env t) xs) K (z.XE.p W0) s := by
  induction ts with
  | nil =>
    intro vs σ W s xs W0 K h l r p k
    cases vs with
    | nil => exact assignInOrder_nil (k W σ s .rfl' p h)
    | cons v vs => exact h.elim
  | cons t ts ih =>
    intro vs σ W s xs W0 K h l r p k
    cases vs with
    | nil => exact h.elim
    | cons v vs =>
      obtain ⟨x, xs, rfl, r1, r2⟩ := r.cons_inv
      refine assignInOrder_cons (wpAny_bindName (seq1 l h r1 p fun W1 b σ1 v1 s1 l1 _ p1 q1 => ?_))
      exact ih q1 (l.trans l1) (r2.mono l1) p1 fun W' σ' s' l' p' q' => k W' σ' s' (l1.trans l') p' q'
theorem S_tuple {elts : List Expr} {k : Nat} {tpos : Pos} {value : Expr} (hz : z.Ok n) (h : EX z VR (eval value z.env) σ fun v σ1 => ∃ vs, v = .tup vs ∧ vs.length = elts.length ∧ STs z elts vs σ1 (QF .next))
    (hn : noStars elts = true) (h1 : swapsWithSole [.Tuple elts k tpos] value pos.line z.env = pure false) (h2 : swappedStores [.Tuple elts k tpos] value z.env = pure none) :
    EX z FlR (exec (.Assign [.Tuple elts k tpos] value pos) z.env) σ QF := fun W s p => by
  refine Assign_Tuple (seq .rfl' h p fun W1 v σ1 x s1 l1 r1 p1 q1 => ?_) h1 h2
  obtain ⟨vs, rfl, hl, q⟩ := q1
  obtain ⟨a, xs, m, rfl, e, rs⟩ := tup_at r1 p1
  rw [assign_Tuple]
  refine wpAny_bind (wpAny_standAt (unpack_tuple hz.hd (asT e) (by rw [noStars_each hn, List.length_map, List.size_toArray, ← rs.1, hl]) ?_ fun h' he => ?_))
  · rw [noStars_each hn, List.findIdx?_map]; simp
  · rw [noStars_each hn, List.map_map]
    exact STs_ok q l1 rs (p1.ext (extBut_keeps he)) fun W' σ' s' l' p' q' => there (l1.trans l') (b := Fl.next) trivial p' q'
theorem S_swap {elts : List Expr} {k : Nat} {tpos : Pos} {value : Expr} {names : List Str} (hz : z.Ok n) (h2 : swappedStores [.Tuple elts k tpos] value z.env = pure (some names)) (h : EX z VR (eval value z.env) σ fun v σ1 => ∃ vs, v = .tup vs ∧ vs.length = names.length ∧ SBs z names.reverse vs.reverse σ1 (QF .next))
    (h1 : swapsWithSole [.Tuple elts k tpos] value pos.line z.env = pure false) :
    EX z FlR (exec (.Assign [.Tuple elts k tpos] value pos) z.env) σ QF := fun W s p => by
  refine Assign_Tuple_swapped (seq .rfl' h p fun W1 v σ1 x s1 l1 r1 p1 q1 => ?_) h1 h2
  obtain ⟨vs, rfl, hl, q⟩ := q1
  obtain ⟨a, xs, m, rfl, e, rs⟩ := tup_at r1 p1
  have hs : names.length = xs.toArray.size := by rw [List.size_toArray, ← rs.1, hl]
  rw [hs]
  refine wpAny_unpackItems_tuple hz.hd (asT e) fun h' he => ?_
  have rr : VRs W1 vs.reverse xs.reverse := by
    refine ⟨by simp [rs.1], fun i v x a b => ?_⟩
    have hi : i < vs.length := by
      have := (List.getElem?_eq_some_iff.mp a).1
      simpa using this
    rw [List.getElem?_reverse hi] at a
    rw [List.getElem?_reverse (rs.1 ▸ hi), ← rs.1] at b
    exact rs.2 _ v x a b
  exact SBs_ok q l1 rr (p1.ext (extBut_keeps he)) fun W' σ' s' l' p' q' => there (l1.trans l') (b := Fl.next) trivial p' q'

theorem smap_at {mp : Str → Option V} {kk : Nat} {W s} (p : z.pre W σ s) {a} (ho : σ.o k = some (.smap mp kk)) (e : W.ρ k = some a) : ∃ kvs, s.heap.DictOf (PySem.strKind z.c.prog z.c.w) a kvs ∧ kvs.length ≤ kk ∧ ∀ x, OR W (mp x) (valueAt kvs x) := by
  refine hideG fun R_ k_ => ?_
  obtain ⟨a', e', r⟩ := p.g.mu k _ ho
  obtain rfl := Option.some.inj (e.symm.trans e')
  refine k_ ?_
  clear k_
  exact r
theorem strKind_is (p : Program) (w : World) (i : Str) (t : Tok) : (PySem.strKind p w).is i (.str i t) = true := by simp [PySem.strKind, Value.isStrOf]
theorem I_sdict {mp : Str → Option V} {kk : Nat} {ve ie : Expr} {u : V} {x : Str} (h : Q u σ) (ho : σ.o k = some (.smap mp kk)) (hu : mp x = some u)
    (hs : ∀ a b, subscripted ie false (.ref a) (.str x b) = operate [.ref a, .str x b] (getItem (.ref a) (.str x b))) : O2 z VR (.ref k) (.str x) (subscriptTail ve ie) σ Q := fun W s a b ra rb p => by
  obtain ⟨_, rfl⟩ := rb.inv
  obtain ⟨_, rfl, e⟩ := ra.inv
  obtain ⟨kvs, hd, hl, hr⟩ := smap_at p ho e
  have q := hr x
  rw [hu] at q
  obtain ⟨y, ex, rx⟩ := q.some_inv
  exact tail_any hd.typeIs slot_dict_getitem.lookup (wpAny_getItem_of (strKind_is ..) hd.mapOf ex (here rx p.toks h)) (hs _ _)
noncomputable def updS (m : Str → Option V) (a : Str) (v : Option V) : Str → Option V := fun b => if b = a then v else m b
theorem set_dict_str {mp : Str → Option V} {kk : Nat} {v : V} {x : Str} (h : QU () ⟨σ.m, upd σ.o k (.smap (updS mp x (some v)) kk), σ.nx⟩) (ho : σ.o k = some (.smap mp kk)) (hx : (mp x).isSome = true) (hs : kk ≤ 2 ^ 24) : O3 z RU (.ref k) (.str x) v (fun a b c => setItem a b c) σ QU := fun W s xx y u r ri rv p => by
  obtain ⟨_, rfl⟩ := ri.inv
  obtain ⟨_, rfl, e⟩ := r.inv
  obtain ⟨kvs, hd, hl, hr⟩ := smap_at p ho e
  refine wpAny_setItem_pairs (strKind_is ..) hd (fun h' hm hsb => here (b := ()) trivial (p.put ho e hsb (x := .smap (updS mp x (some v)) kk) ⟨_, hm, ?_, fun b => ?_⟩) h) (by rw [sizeLine_eq]; lia)
  · have q := hr x
    have q2 := OR.isSome q
    rw [hx] at q2
    have : kvs.any (fun kv => decide (kv.1 = x)) = true := by
      unfold valueAt at q2
      rw [Option.isSome_map, List.find?_isSome] at q2
      obtain ⟨y, hy, hz⟩ := q2
      exact List.any_eq_true.mpr ⟨y, hy, hz⟩
    unfold stored
    rw [if_pos this, List.length_map]; exact hl
  · rw [valueAt_stored]
    unfold updS
    split
    · exact rv
    · exact hr b
end
end Mine
end

section
open PySem PySem.W PySem.Calls PyProof.Rows PySem.SeqAt
set_option Elab.async false
set_option linter.unusedVariables false
set_option autoImplicit true
set_option maxRecDepth 100000
set_option tactic.hygienic false
namespace Mine

structure Wd.Free (W : Wd) (a : Addr) : Prop where
  F : W.F a = none
  P : W.P a = none
  R : ∀ n, W.ρ n ≠ some a
theorem Wd.Free.delP {W : Wd} {a b} (h : W.Free a) : (W.delP b).Free a := ⟨h.F, by simp only [Wd.delP]; split; exact rfl; exact h.P, h.R⟩
theorem Wd.Free.addP {W : Wd} {a b pr} (h : W.Free a) (n : a ≠ b) : (W.addP b pr).Free a := ⟨h.F, by simp only [Wd.addP]; rw [if_neg n]; exact h.P, h.R⟩
theorem GS.freeOf {c W o nx s} (g : GS c W o nx s) {a pr} (h : W.P a = some pr) : (W.delP a).Free a :=
  ⟨(g.park _ _ h).2.2, if_pos rfl, fun n q => by have := (g.sep n _ q).2.1; cases h.symm.trans this⟩

set_option tactic.hygienic true in
theorem GS.freeze {c W o nx s} (g : GS c W o nx s) {a : Addr} (f : W.Free a) {x : Obj} (ex : s.heap.get? a = some x) : GS c (W.addF a x) o nx s := by
  have l := Wd.le_addF (x := x) f.F
  refine ⟨g.ok, fun b x e => ?_, fun b x e => l.F _ _ (g.base b x e), fun n x e => let ⟨b, c, d⟩ := g.mu n x e; ⟨b, c, d.mono l⟩, fun n b e => ⟨?_, (g.sep n b e).2⟩, g.inj, g.fresh, fun b m e => ⟨(g.park b m e).1, (g.park b m e).2.1, ?_⟩, g.os, g.gens, g.new.1, g.new.2.keep l fun _ _ e => e⟩
  · simp only [Wd.addF] at e
    split at e
    · rename_i q; subst q; obtain rfl := Option.some.inj e; exact ex
    · exact g.fz b x e
  · exact (if_neg (fun q => by subst q; exact f.R n e)).trans ((g.sep n b e).1)
  · exact (if_neg (fun q => by subst q; have e : W.P _ = some m := e; cases f.P.symm.trans e)).trans ((g.park b m e).2.2)
set_option tactic.hygienic true in
theorem GS.adopt {c W o nx s} (g : GS c W o nx s) {a : Addr} (f : W.Free a) (hn : c.h₀.objs.size ≤ a) {y : MO} (m : MR c.prog c.w (W.addR nx a) s.heap a y) : GS c (W.addR nx a) (upd o nx y) (nx + 1) s where
  ok := g.ok
  fz := g.fz
  base := g.base
  mu := fun n z e => by
    unfold upd at e
    split at e
    · rename_i q; subst q; obtain rfl := Option.some.inj e; exact ⟨_, if_pos rfl, m⟩
    · obtain ⟨b, hb, m'⟩ := g.mu n z e
      exact ⟨b, (Wd.le_addR (g.fresh nx (Nat.le_refl _))).ρ _ _ hb, m'.mono (Wd.le_addR (g.fresh nx (Nat.le_refl _)))⟩
  sep := fun n b e => by
    simp only [Wd.addR] at e
    split at e
    · obtain rfl := Option.some.inj e; exact ⟨f.F, f.P, m.some⟩
    · exact g.sep n b e
  inj := fun n k b e1 e2 => by
    simp only [Wd.addR] at e1 e2
    split at e1 <;> split at e2
    · rename_i z1 z2; rw [z1, z2]
    · obtain rfl := Option.some.inj e1; exact absurd e2 (f.R _)
    · obtain rfl := Option.some.inj e2; exact absurd e1 (f.R _)
    · exact g.inj n k b e1 e2
  fresh := fun n hn => by
    exact (if_neg (Nat.ne_of_gt hn)).trans (g.fresh n (Nat.le_of_lt hn))
  park := g.park
  os := g.os
  gens := g.gens
  new := ⟨fun n b e => by
    simp only [Wd.addR] at e
    split at e
    · obtain rfl := Option.some.inj e; exact Nat.le_trans g.ok.many hn
    · exact g.new.1 n b e, g.new.2.keep (Wd.le_addR (g.fresh nx (Nat.le_refl _))) fun _ _ e => e⟩

theorem GS.moveFree {c W o nx s} (g : GS c W o nx s) {a : Addr} (f : W.Free a) {h' : Heap} (hs : Heap.SameBut a s.heap h') {toks dr} : GS c W o nx ⟨h', s.gens, dr, toks, s.os⟩ where
  ok := g.ok
  fz := fun b x e => (hs.2 b fun z => by subst z; cases f.F.symm.trans e).trans (g.fz b x e)
  base := g.base
  mu := fun n x e => let ⟨b, hb, m⟩ := g.mu n x e; ⟨b, hb, m.same (hs.2 b fun z => by subst z; exact f.R n hb)⟩
  sep := fun n b e => ⟨(g.sep n b e).1, (g.sep n b e).2.1, by obtain ⟨ob, q⟩ := (g.sep n b e).2.2; exact ⟨ob, (hs.2 b fun z => by subst z; exact f.R n e).trans q⟩⟩
  inj := g.inj
  fresh := g.fresh
  park := fun b m e => by
    have q := hs.2 b (fun z => by subst z; have e : W.P b = some m := e; cases f.P.symm.trans e)
    rw [q]; exact g.park b m e
  os := g.os
  gens := g.gens
  new := ⟨g.new.1, g.new.2.but f.P fun b o q e => (hs.2 b q).trans e⟩

section
variable {z : Z} {n : Nat} {σ : St} {Q : V → St → Prop} {QB : Bool → St → Prop} {QF : Fl → St → Prop} {QU : Unit → St → Prop} {QS : St → Prop} {QL : List V → St → Prop} {pos : Pos} {k : Nat} {i j : Int}

theorem Z.pre.moveFree {W : Wd} {s : Shared} (p : z.pre W σ s) {a : Addr} (f : W.Free a) (hL : z.env.locals ≠ a) {h' : Heap} (hs : Heap.SameBut a s.heap h') (hl : ∃ ob, h'.get? a = some ob) {toks dr} : z.pre W σ ⟨h', s.gens, dr, toks, s.os⟩ :=
  ⟨p.g.move hs f.F f.P (fun _ _ e _ => e) (fun n _ _ q => absurd q (f.R n)) (fun n x e => (p.g.mu n x e).imp fun _ q => q.1) hl,
   ⟨let ⟨m', e, b⟩ := p.f.ns; ⟨m', e.sameBut hs hL, b⟩, p.f.outF, p.f.outP, p.f.outR, p.f.cells⟩, p.k⟩
theorem Z.pre.extFree {W : Wd} {s : Shared} (p : z.pre W σ s) {a : Addr} (f : W.Free a) (hL : z.env.locals ≠ a) {h' : Heap} (he : Heap.ExtBut a s.heap h') {toks dr} : z.pre W σ ⟨h', s.gens, dr, toks, s.os⟩ := by
  have keep : ∀ b o, b ≠ a → s.heap.get? b = some o → h'.get? b = some o := fun b o q e => he b o q e
  refine ⟨⟨p.g.ok, fun b x e => keep _ _ (fun q => by subst q; cases f.F.symm.trans e) (p.g.fz b x e), p.g.base, fun n x e => ?_, fun n b e => ⟨(p.g.sep n b e).1, (p.g.sep n b e).2.1, by obtain ⟨ob, q⟩ := (p.g.sep n b e).2.2; exact ⟨ob, keep _ _ (fun z => f.R n (z ▸ e)) q⟩⟩, p.g.inj, p.g.fresh, fun b m e => ?_, p.g.os, p.g.gens, p.g.new.1, p.g.new.2.but f.P keep⟩,
    ⟨let ⟨m', e, b⟩ := p.f.ns; ⟨m', e.extBut he hL, b⟩, p.f.outF, p.f.outP, p.f.outR, p.f.cells⟩, p.k⟩
  · obtain ⟨b, hb, m⟩ := p.g.mu n x e
    obtain ⟨ob, q⟩ := m.some
    exact ⟨b, hb, m.same ((keep _ _ (fun z => f.R n (z ▸ hb)) q).trans q.symm)⟩
  · obtain ⟨k1, ⟨ob, k2⟩, k3⟩ := p.g.park b m e
    have k4 := keep b ob (fun q => by subst q; have e : W.P _ = some m := e; cases f.P.symm.trans e) k2
    rw [k2] at k1
    exact ⟨by rw [k4]; exact k1, ⟨ob, k4⟩, k3⟩

noncomputable def ifsOf : Option Expr → List Expr
  | none => []
  | some c => [c]
theorem Z.pre.fewer {W : Wd} {s : Shared} (p : z.pre W σ s) {m : List (Str × V)} (h : ∀ y w, m.lookup y = some w → σ.m.lookup y = some w) : z.pre W ⟨m, σ.o, σ.nx⟩ s :=
  ⟨p.g, ⟨let ⟨m', a, b⟩ := p.f.ns; ⟨m', a, fun x v e => b x v (h x v e)⟩, p.f.outF, p.f.outP, p.f.outR, p.f.cells⟩, p.k⟩
noncomputable def compEnv (z : Z) (scope : Scope) (C : Addr) : Env := { newEnv scope C z.env.globals [] z.env.qual none .none (some z.env) builtinsNs with scope := scope }
noncomputable def compZ (z : Z) (scope : Scope) (C : Addr) : Z := ⟨z.c, z.A, compEnv z scope C, [], z.outer, .no⟩

noncomputable def CondOk (z : Z) (scope : Scope) (x : Str) (c : Option Expr) (pr : V → Bool) (σ1 : St) (C : Addr) (v : V) : Prop :=
  match c with
  | none => pr v = true
  | some c => EX (compZ z scope C) RB (isTrue c (compEnv z scope C) (eval c (compEnv z scope C))) ⟨[(x, v)], σ1.o, σ1.nx⟩ fun b σ2 => b = pr v ∧ σ2 = ⟨[(x, v)], σ1.o, σ1.nx⟩
noncomputable def EltOk (z : Z) (scope : Scope) (x : Str) (elt : Expr) (f : V → V) (σ1 : St) (C : Addr) (v : V) : Prop :=
  EX (compZ z scope C) VR (eval elt (compEnv z scope C)) ⟨[(x, v)], σ1.o, σ1.nx⟩ fun u σ2 => u = f v ∧ σ2 = ⟨[(x, v)], σ1.o, σ1.nx⟩
inductive CTurn (z : Z) (scope : Scope) (C I D a : Addr) (W0 : Wd) (σ1 : St) (f : V → V) (pr : V → Bool) (vs : List V) (k : Nat) (s : Shared) : Prop
  | mk (W' : Wd) (i : Nat) (xs : List Value) (mm : List (Str × V)) (cc : Nat) (l : W0.le W') (p : (compZ z scope C).pre W' ⟨mm, σ1.o, σ1.nx⟩ s) (hit : s.heap.IsListIter I a i) (acc : s.heap.get? D = some (lstO xs cc)) (fI : W'.Free I) (fD : W'.Free D) (rv : VRs W' (((vs.take i).filter pr).map f) xs) (hi : i ≤ vs.length) (hk : k = vs.length + 1 - i) : CTurn z scope C I D a W0 σ1 f pr vs k s
theorem turn_lt {n i : Nat} (h : i < n) : n + 1 - (i + 1) < n + 1 - i := by lia
theorem turn_len {pr : V → Bool} {f : V → V} {vs : List V} {i : Nat} {xs : List Value} (h : (((vs.take i).filter pr).map f).length = xs.length) (hl : vs.length ≤ 2 ^ 24) : xs.toArray.size ≤ sizeLine := by
  have h2 := List.length_filter_le pr (vs.take i)
  rw [List.length_map] at h
  rw [List.length_take] at h2
  rw [List.size_toArray, ← h, sizeLine_eq]; exact Nat.le_trans h2 (Nat.le_trans (Nat.min_le_right _ _) hl)
set_option tactic.hygienic true in
theorem comp_block {elt iter : Expr} {x : Str} {px : Pos} {c : Option Expr} {scope : Scope} (f : V → V) (pr : V → Bool) {W1 : Wd} {s1 : Shared} {σ1 : St} {v : V} {a : Addr} {vs : List V} {m0 : Nat} {xs0 : List Value} (p1 : z.pre W1 σ1 s1) {RR : Value → Env → Result → Shared → Prop} {E : Value → Shared → Prop} (hz : z.Ok n)
    (hcell : ∀ x ∈ scope.names, x.2 ≠ .cell) (hkind : scope.kind = .function) (hx : scope.names.lookup x = some .local) (hl : isL σ1 v vs) (r1 : VR W1 v (.ref a)) (ea : s1.heap.get? a = some (lstO xs0 m0))
    (hlen : vs.length ≤ 2 ^ 24)
    (hc : ∀ C v, v ∈ vs → CondOk z scope x c pr σ1 C v)
    (he : ∀ C v, v ∈ vs → pr v = true → EltOk z scope x elt f σ1 C v)
    (fin : ∀ W' D C xs m s', W1.le W' → z.pre W' σ1 s' → W'.Free D → W'.Free C → D ≠ C → z.env.locals ≠ D → z.env.locals ≠ C → z.c.h₀.objs.size ≤ D → s'.heap.get? D = some (lstO xs m) → (∃ mc, s'.heap.Ns C mc) → VRs W' ((vs.filter pr).map f) xs → RR (.ref D) (compEnv z scope C) (.ok .next) s') :
    wpAny (model z.c.prog z.c.w) z.A (pyIter (.ref a)) (fun it s₂ => wpAny (model z.c.prog z.c.w) z.A (newList []) (fun acc s₃ =>
      wpAny (model z.c.prog z.c.w) z.A (newFunctionEnv scope z.env.globals [] [] z.env.qual none .none (some z.env)) (fun cenv s₄ =>
        codeAny (model z.c.prog z.c.w) z.A (.compStart (.ListComp elt [⟨.Name x px, iter, ifsOf c, 0⟩] scope pos) 0 it acc { cenv with scope := scope }) (RR acc { cenv with scope := scope }) s₄) E s₃) E s₂) E s1 := by
  refine wpAny_pyIter_list (asL ea) ?_
  refine wpAny_newList ?_
  refine wpAny_newFunctionEnv hcell (fun x hx => by cases hx) (fun h4 hns hsb => ?_) hkind
  have sI : (s1.heap.push { cls := .type "list_iterator", data := .fields #[.ref a, .int 0 0] }).objs.size = s1.heap.objs.size + 1 := size_push' _ _
  have sC : ((s1.heap.push { cls := .type "list_iterator", data := .fields #[.ref a, .int 0 0] }).push (seqObj "list" #[] 0)).objs.size = s1.heap.objs.size + 1 + 1 := by rw [size_push', sI]
  have gI : ((s1.heap.push { cls := .type "list_iterator", data := .fields #[.ref a, .int 0 0] }).push (seqObj "list" #[] 0)).get? s1.heap.objs.size = some { cls := .type "list_iterator", data := .fields #[.ref a, .int 0 0] } := Heap.get?_push_of_some _ (Heap.get?_push_size _ rfl)
  have gD : ((s1.heap.push { cls := .type "list_iterator", data := .fields #[.ref a, .int 0 0] }).push (seqObj "list" #[] 0)).get? (s1.heap.push { cls := .type "list_iterator", data := .fields #[.ref a, .int 0 0] }).objs.size = some (seqObj "list" #[] 0) := Heap.get?_push_size _ rfl
  have k3 : ∀ b x, s1.heap.get? b = some x → ((s1.heap.push { cls := .type "list_iterator", data := .fields #[.ref a, .int 0 0] }).push (seqObj "list" #[] 0)).get? b = some x := fun b x e => Heap.get?_push_of_some _ (Heap.get?_push_of_some _ e)
  generalize hD : (s1.heap.push { cls := .type "list_iterator", data := .fields #[.ref a, .int 0 0] }).objs.size = D at *
  generalize h3e : (s1.heap.push { cls := .type "list_iterator", data := .fields #[.ref a, .int 0 0] }).push (seqObj "list" #[] 0) = h3 at *
  have k4 : ∀ b x, h3.get? b = some x → h4.get? b = some x := fun b x e => (hsb.2 b (Nat.ne_of_lt (Heap.lt_size e))).trans (Heap.get?_push_of_some _ e)
  have nD : s1.heap.get? D = none := get_size (by rw [sI]; exact Nat.le_succ _)
  have nI : s1.heap.get? s1.heap.objs.size = none := get_size (Nat.le_refl _)
  have nC : s1.heap.get? h3.objs.size = none := get_size (by rw [sC]; exact Nat.le_succ_of_le (Nat.le_succ _))
  have fD : W1.Free D := let ⟨a, b, c, d⟩ := p1.nowhere nD; ⟨a, b, c⟩
  have fI : W1.Free s1.heap.objs.size := let ⟨a, b, c, d⟩ := p1.nowhere nI; ⟨a, b, c⟩
  have fC : W1.Free h3.objs.size := let ⟨a, b, c, d⟩ := p1.nowhere nC; ⟨a, b, c⟩
  have LD : z.env.locals ≠ D := (p1.nowhere nD).2.2.2
  have LI : z.env.locals ≠ s1.heap.objs.size := (p1.nowhere nI).2.2.2
  have LC : z.env.locals ≠ h3.objs.size := (p1.nowhere nC).2.2.2
  have DI : D ≠ s1.heap.objs.size := by rw [sI]; exact Nat.succ_ne_self _
  have DC : D ≠ h3.objs.size := by rw [sC, sI]; exact (Nat.succ_ne_self _).symm
  have IC : s1.heap.objs.size ≠ h3.objs.size := by rw [sC]; exact Nat.ne_of_lt (Nat.lt_succ_of_lt (Nat.lt_succ_self _))
  generalize hIe : s1.heap.objs.size = I at *
  generalize hCe : h3.objs.size = C at *
  obtain ⟨m', hn, hmm⟩ := p1.f.ns
  obtain ⟨ob, eob⟩ : ∃ ob, s1.heap.get? z.env.locals = some ob := by obtain ⟨o, _, _, e, _⟩ := hn; exact ⟨o, e⟩
  generalize hpr : nsPr m' = ppr
  have l2 : W1.le (W1.addP z.env.locals ppr) := Wd.le_addP p1.f.outP
  have P2 : (W1.addP z.env.locals ppr).P z.env.locals = some ppr := if_pos rfl
  have p4 : (compZ z scope C).pre (W1.addP z.env.locals ppr) ⟨[], σ1.o, σ1.nx⟩ ⟨h4, s1.gens, s1.drawn, s1.toks + ([] : List (Str × Value)).length, s1.os⟩ := by
    refine ⟨(p1.g.parkd (by subst hpr; exact .of hn eob) eob p1.f.outF p1.f.outP p1.f.outR).ext (fun b x e => k4 _ _ (k3 _ _ e)), ⟨⟨_, hns, fun x v e => by cases e⟩, fC.F, (fC.addP (Ne.symm LC)).P, fC.R, fun x n e => by cases e⟩, p1.k.mono l2⟩
  have turn0 : CTurn z scope C I D a (W1.addP z.env.locals ppr) σ1 f pr vs (vs.length + 1) ⟨h4, s1.gens, s1.drawn, s1.toks + ([] : List (Str × Value)).length, s1.os⟩ :=
    ⟨_, 0, [], [], 0, .rfl', p4, ⟨_, k4 _ _ gI, rfl, rfl⟩, k4 _ _ gD, fI.addP (Ne.symm LI), fD.addP (Ne.symm LD), .nil, Nat.zero_le _, rfl⟩
  have loop : codeAny (model z.c.prog z.c.w) z.A (.compLoop (.ListComp elt [⟨.Name x px, iter, ifsOf c, 0⟩] scope pos) 0 (.ref I) (.ref D) (compEnv z scope C)) (RR (.ref D) (compEnv z scope C)) ⟨h4, s1.gens, s1.drawn, s1.toks + ([] : List (Str × Value)).length, s1.os⟩ := by
    refine codeAny_compLoop_tests (CTurn z scope C I D a (W1.addP z.env.locals ppr) σ1 f pr vs) ?_ (vs.length + 1) turn0
    rintro k s' ⟨W', i, xs, mm, cc, l, p', hit, hacc, fI', fD', rv, hi, rfl⟩
    refine hideG fun R_ k_ => ?_
    obtain ⟨a', xs', n', eaa, ea', rs'⟩ := isL.at (z := compZ z scope C) (σ := ⟨mm, σ1.o, σ1.nx⟩) hl (r1.mono (l2.trans l)) p'
    cases eaa
    refine k_ ?_
    clear k_
    by_cases hlt : i < vs.length
    · obtain ⟨u, hu, ru⟩ := rs'.at (i := i) (v := vs[i]) (by simp [hlt])
      refine wpAny_pyNext_list_item hit (asL ea') (by simpa using hu) fun h1 hit1 hs1 => ?_
      have p2 := p'.moveFree (toks := s'.toks) (dr := s'.drawn) fI' (Ne.symm IC) hs1 (by obtain ⟨o, e, _⟩ := hit1; exact ⟨o, e⟩)
      obtain ⟨m2, hn2, hm2⟩ := p2.f.ns
      refine wpAny_assign_Name (wpAny_storeName_local (show scope.names.lookup x = some .local from hx) hn2 (fun h2 hn2' hs2 => ?_) (by show (scope.kind == .class || (scope.kind == .module && _)) = false; rw [hkind]; rfl))
      have p3 := (p2.loc (x := x) (v := vs[i]) (u := u) ru hm2 hn2' hs2 (toks := s'.toks + 1) (dr := s'.drawn)).fewer (m := [(x, vs[i])]) (fun y w e => by
        simp only [List.lookup_cons, List.lookup_nil] at e
        simp only [St.set, List.lookup_cons]
        split at e
        · exact e
        · cases e)
      have hv : vs[i] ∈ vs := List.getElem_mem hlt
      obtain ⟨itO, eIt, cIt, dIt⟩ : h2.IsListIter I a (i + 1) := hit1.at fun o e => (hs2.2 I IC).trans e
      have eAcc : h2.get? D = some (lstO xs cc) := (hs2.2 D DC).trans ((hs1.2 D DI).trans hacc)
      have p4 := p3.parkd (pr := fun x => x = some (lstO xs cc)) rfl eAcc fD'.F fD'.P fD'.R (Ne.symm DC)
      have lD := Wd.le_addP (W := W') (m := fun x => x = some (lstO xs cc)) fD'.P
      have fI2 := fI'.addP (pr := fun x => x = some (lstO xs cc)) (Ne.symm DI)
      have p5 := p4.parkd (pr := fun x => x = some itO) rfl eIt fI2.F fI2.P fI2.R (Ne.symm IC)
      have lI := Wd.le_addP (W := W'.addP D (fun x => x = some (lstO xs cc))) (m := fun x => x = some itO) fI2.P
      have PI : ((W'.addP D (fun x => x = some (lstO xs cc))).addP I (fun x => x = some itO)).P I = some (fun x => x = some itO) := if_pos rfl
      have PD : ((W'.addP D (fun x => x = some (lstO xs cc))).addP I (fun x => x = some itO)).P D = some (fun x => x = some (lstO xs cc)) := by simp [Wd.addP, DI]
      have next : ∀ W3 s3 σ3, ((W'.addP D (fun x => x = some (lstO xs cc))).addP I (fun x => x = some itO)).le W3 → (compZ z scope C).pre W3 ⟨σ3, σ1.o, σ1.nx⟩ s3 →
          W'.le ((W3.delP I).delP D) ∧ (compZ z scope C).pre ((W3.delP I).delP D) ⟨σ3, σ1.o, σ1.nx⟩ s3 ∧ s3.heap.IsListIter I a (i + 1) ∧ s3.heap.get? D = some (lstO xs cc) ∧ ((W3.delP I).delP D).Free I ∧ ((W3.delP I).delP D).Free D := by
        intro W3 s3 σ3 l3 p3'
        have a1 := p3'.g.park _ _ (l3.P _ _ PI)
        have a2 := p3'.g.park _ _ (l3.P _ _ PD)
        have l3I : (W'.addP D (fun x => x = some (lstO xs cc))).le (W3.delP I) := l3.delP fI2.P
        have p6 := p3'.unP p4 fI2.P
        have PD2 : (W3.delP I).P D = some (fun x => x = some (lstO xs cc)) := by simp only [Wd.delP]; rw [if_neg DI]; exact l3.P _ _ PD
        exact ⟨l3I.delP fD'.P, p6.unP p3 fD'.P, ⟨itO, a1.1, cIt, dIt⟩, a2.1, (p3'.g.freeOf (l3.P _ _ PI)).delP, p6.g.freeOf PD2⟩
      have after : ∀ W3 s3, ((W'.addP D (fun x => x = some (lstO xs cc))).addP I (fun x => x = some itO)).le W3 → (compZ z scope C).pre W3 ⟨[(x, vs[i])], σ1.o, σ1.nx⟩ s3 → ∀ E',
          (if pr vs[i] = true then wpAny (model z.c.prog z.c.w) z.A (eval elt (compEnv z scope C)) (fun y s4 => wpAny (model z.c.prog z.c.w) z.A (call (.builtin "list.append") [.ref D, y]) (fun _ s5 => ∃ m, m < vs.length + 1 - i ∧ CTurn z scope C I D a (W1.addP z.env.locals ppr) σ1 f pr vs m s5) E' s4) E' s3
           else ∃ m, m < vs.length + 1 - i ∧ CTurn z scope C I D a (W1.addP z.env.locals ppr) σ1 f pr vs m s3) := by
        intro W3 s3 l3 p3' E'
        split
        · rename_i hp
          refine wpAny_noRaise (seq (z := compZ z scope C) (W₀ := W3) .rfl' (he C _ hv hp) p3' fun W4 y' σ4 y s4 l4 ry p4' q4 => ?_)
          obtain ⟨rfl, rfl⟩ := q4
          refine hideG fun R_ k_ => ?_
          obtain ⟨n1, n2, n3, n4, n5, n6⟩ := next W4 s4 _ (l3.trans l4) p4'
          refine k_ ?_
          clear k_
          refine append_at n4 (fun h5 hs5 e5 => ?_) (turn_len rv.1 hlen)
          refine ⟨vs.length + 1 - (i + 1), turn_lt hlt, (W4.delP I).delP D, i + 1, xs ++ [y], _, cc + 1, l.trans n1, n2.moveFree n6 (Ne.symm DC) hs5 ⟨_, e5⟩, n3.at fun o e => (hs5.2 I (Ne.symm DI)).trans e, by rw [e5]; simp, n5, n6, ?_, hlt, rfl⟩
          rw [take_succ_filter pr vs i vs[i] (by simp [hlt]), if_pos hp, List.map_append]
          exact (rv.mono n1).app (.cons ry.unP.unP .nil)
        · rename_i hp
          refine hideG fun R_ k_ => ?_
          obtain ⟨n1, n2, n3, n4, n5, n6⟩ := next W3 s3 _ l3 p3'
          refine k_ ?_
          clear k_
          refine ⟨vs.length + 1 - (i + 1), turn_lt hlt, (W3.delP I).delP D, i + 1, xs, _, cc, l.trans n1, n2, n3, n4, n5, n6, ?_, hlt, rfl⟩
          rw [take_succ_filter pr vs i vs[i] (by simp [hlt]), if_neg hp, List.append_nil]
          exact rv.mono n1
      induction c with
      | none =>
        have hp : pr vs[i] = true := hc C _ hv
        refine wpAny_tests_nil ?_
        have := after _ _ .rfl' p5
        rw [hp] at this
        exact this _
      | some c =>
        refine wpAny_tests_one (wpAny_noRaise (seq (z := compZ z scope C) (W₀ := _) .rfl' (hc C _ hv) p5 fun W3 b σ3 v3 s3 l3 r3 p3' q3 => ?_))
        obtain ⟨rfl, rfl⟩ := q3
        induction r3
        exact after W3 s3 l3 p3' _
    · have hin : i = vs.length := Nat.le_antisymm hi (Nat.le_of_not_lt hlt)
      subst hin
      refine wpAny_pyNext_list_end hz.hd hit (asL ea') (by simpa using Nat.le_of_eq rs'.1.symm) fun h1 he1 => ?_
      have p2 := p'.extFree (toks := s'.toks) (dr := s'.drawn) fI' (Ne.symm IC) he1
      obtain ⟨m2, hn2, hm2⟩ := p2.f.ns
      have fC' : W'.Free C := ⟨p2.f.outF, p2.f.outP, p2.f.outR⟩
      have a2 := p2.g.park _ _ (l.P _ _ P2)
      have l5 : W1.le (W'.delP z.env.locals) := l.delP p1.f.outP
      refine fin (W'.delP z.env.locals) D C xs cc _ l5 ⟨p2.g.unP (p1.g.new.2.ne p1.f.outP), ⟨⟨m', (hpr ▸ a2.1 : nsPr m' _).ns, fun x v e => by obtain ⟨v', a, b⟩ := hmm x v e; exact ⟨v', a, b.mono l5⟩⟩, a2.2.2, if_pos rfl, (p2.g.freeOf (l.P _ _ P2)).R, fun x k e => by obtain ⟨a, b, c⟩ := p1.f.cells x k e; exact ⟨a, b, l5.ρ _ _ c⟩⟩, p1.k.mono l5⟩ fD'.delP fC'.delP DC LD LC ?_ ?_ ⟨m2, hn2⟩ ?_
      · exact Nat.le_trans p1.g.big (by rw [hIe, sI]; exact Nat.le_succ _)
      · exact he1 D _ DI hacc
      · rw [List.take_length] at rv; exact rv.unP
  exact codeAny_compStart_list loop (wpAny_pyIter_listiter (i := 0) (l := a) ⟨_, k4 _ _ gI, rfl, rfl⟩ loop)
theorem Z.pre.moveGone {W : Wd} {s : Shared} (p : z.pre W σ s) {a : Addr} (f : W.Free a) (hL : z.env.locals ≠ a) {h' : Heap} (hs : Heap.SameBut a s.heap h') {toks dr} : z.pre W σ ⟨h', s.gens, dr, toks, s.os⟩ :=
  ⟨p.g.moveFree f hs, ⟨let ⟨m', e, b⟩ := p.f.ns; ⟨m', e.sameBut hs hL, b⟩, p.f.outF, p.f.outP, p.f.outR, p.f.cells⟩, p.k⟩

theorem comp_core {elt iter : Expr} {x : Str} {px : Pos} {c : Option Expr} {scope : Scope} {W : Wd} {s : Shared} (p : z.pre W σ s) {R : Value → Shared → Prop} (hz : z.Ok n)
    (hfree : ∀ x ∈ scope.names, x.2 ≠ .free) (hcell : ∀ x ∈ scope.names, x.2 ≠ .cell) (hkind : scope.kind = .function) (hnames : ∀ x ∈ scope.names, x.2 = .local → scope.names.lookup x.1 = some .local) (hx : scope.names.lookup x = some .local)
    (h : EX z VR (eval iter z.env) σ fun v σ1 => ∃ (vs : List V) (f : V → V) (pr : V → Bool), isL σ1 v vs ∧ vs.length ≤ 2 ^ 24 ∧
      (∀ C v, v ∈ vs → CondOk z scope x c pr σ1 C v) ∧
      (∀ C v, v ∈ vs → pr v = true → EltOk z scope x elt f σ1 C v) ∧
      ∀ W' D xs m s', W.le W' → z.pre W' σ1 s' → W'.Free D → z.env.locals ≠ D → z.c.h₀.objs.size ≤ D → s'.heap.get? D = some (lstO xs m) → VRs W' ((vs.filter pr).map f) xs → R (.ref D) s')
    (hs : ∀ x, foldedSetIterable iter z.env x = pure x) : wpAny (model z.c.prog z.c.w) z.A (eval (.ListComp elt [⟨.Name x px, iter, ifsOf c, 0⟩] scope pos) z.env) R (z.XE.p W) s := by
  refine wpAny_ListComp hfree hkind hnames (seq .rfl' h p fun W1 v σ1 xv s1 l1 r1 p1 q1 => ?_) hs
  refine hideG fun R_ k_ => ?_
  obtain ⟨vs, f, pr, hl, hlen, hc, he, fin⟩ := q1
  obtain ⟨a, xs0, m0, rfl, ea, rs0⟩ := hl.at r1 p1
  refine k_ ?_
  clear k_
  refine comp_block (RR := fun acc cenv r s' => ∃ m, s'.heap.Ns cenv.locals m ∧ ∀ h', Heap.SameBut cenv.locals s'.heap h' →
      match r with | .ok _ => R acc { s' with heap := h' } | .error x => wpAny (model z.c.prog z.c.w) z.A (PySem.passOn "comprehension.variables-let-go" x cenv) R (z.XE.p W) { s' with heap := h' }) f pr p1 hz hcell hkind hx hl r1 ea hlen hc he fun W' D C xs m s' l p' fD fC DC LD LC hD eD ⟨mc, nC⟩ rv => ?_
  refine ⟨mc, nC, fun h' hs => ?_⟩
  exact fin W' D xs m _ (l1.trans l) (p'.moveGone (toks := s'.toks) (dr := s'.drawn) fC LC hs) fD LD hD ((hs.2 D DC).trans eD) rv

theorem S_comp {y : Str} {py spos : Pos} {elt iter : Expr} {x : Str} {px : Pos} {c : Option Expr} {scope : Scope} (hz : z.Ok n)
    (hfree : ∀ x ∈ scope.names, x.2 ≠ .free) (hcell : ∀ x ∈ scope.names, x.2 ≠ .cell) (hkind : scope.kind = .function) (hnames : ∀ x ∈ scope.names, x.2 = .local → scope.names.lookup x.1 = some .local) (hx : scope.names.lookup x = some .local)
    (hy : z.env.kindOf y = some .local) (hsw : swapsWith (.ListComp elt [⟨.Name x px, iter, ifsOf c, 0⟩] scope pos) (some (.Name y py)) spos.line z.env = pure true)
    (h : EX z VR (eval iter z.env) σ fun v σ1 => ∃ (vs : List V) (f : V → V) (pr : V → Bool), isL σ1 v vs ∧ vs.length ≤ 2 ^ 24 ∧
      (∀ C v, v ∈ vs → CondOk z scope x c pr σ1 C v) ∧
      (∀ C v, v ∈ vs → pr v = true → EltOk z scope x elt f σ1 C v) ∧
      QF .next (σ1.set y (.lst ((vs.filter pr).map f))))
    (hs : ∀ x, foldedSetIterable iter z.env x = pure x) : EX z FlR (exec (.Assign [.Name y py] (.ListComp elt [⟨.Name x px, iter, ifsOf c, 0⟩] scope pos) spos) z.env) σ QF := fun W s p => by
  rw [exec_Assign_Name_used _ _ _ _ hsw]
  refine wpAny_bind (wpAny_standAt (wpAny_bind ?_))
  show wpAny _ _ (do let _ ← comprehension (.ListComp elt [⟨.Name x px, iter, ifsOf c, 0⟩] scope pos) scope z.env _ (newList []) false (eval iter z.env) (some (assign (.Name y py) z.env))) _ _ s
  refine wpAny_bind (wpAny_mono (wpAny_comprehension_use (Q := fun _ s' => z.post FlR QF W .next s') rfl hs hfree hkind hnames (seq .rfl' h p fun W1 v σ1 xv s1 l1 r1 p1 q1 => ?_))
    (fun _ s' hq => wpAny_pure (wpAny_pure hq)) fun _ _ e => e)
  refine hideG fun R_ k_ => ?_
  obtain ⟨vs, f, pr, hl, hlen, hc, he, q⟩ := q1
  obtain ⟨a, xs0, m0, rfl, ea, rs0⟩ := hl.at r1 p1
  refine k_ ?_
  clear k_
  refine comp_block (RR := fun acc cenv r s' => match r with
      | .ok _ => wpAny (model z.c.prog z.c.w) z.A (assign (.Name y py) z.env acc) (fun _ s'' => ∃ m, s''.heap.Ns cenv.locals m ∧ ∀ h', Heap.SameBut cenv.locals s''.heap h' → z.post FlR QF W .next { s'' with heap := h' }) (z.XE.p W) s'
      | .error x => ∃ m, s'.heap.Ns cenv.locals m ∧ ∀ h', Heap.SameBut cenv.locals s'.heap h' → wpAny (model z.c.prog z.c.w) z.A (PySem.passOn "comprehension.variables-let-go" x cenv) (fun _ s' => z.post FlR QF W .next s') (z.XE.p W) { s' with heap := h' }) f pr p1 hz hcell hkind hx hl r1 ea hlen hc he fun W' D C xs m s' l p' fD fC DC LD LC hD eD ⟨mc, nC⟩ rv => ?_
  have l' := Wd.le_addF (x := lstO xs m) fD.F
  have p2 : z.pre (W'.addF D (lstO xs m)) σ1 s' := ⟨p'.g.freeze fD eD, p'.f.mono l' (by simp only [Wd.addF]; rw [if_neg LD]; exact p'.f.outF) p'.f.outP p'.f.outR, p'.k.mono l'⟩
  have fC2 : (W'.addF D (lstO xs m)).Free C := ⟨(if_neg (Ne.symm DC)).trans fC.F, fC.P, fC.R⟩
  obtain ⟨m', hn, hm⟩ := p2.f.ns
  refine wpAny_assign_Name (wpAny_storeName_local hy hn (fun h' hn' hs' => ⟨mc, nC.sameBut hs' (Ne.symm LC), fun h5 hs5 => ?_⟩) (by rw [hz.kind]; rfl))
  have p3 := p2.loc (toks := s'.toks + 1) (dr := s'.drawn) (x := y) (v := .lst ((vs.filter pr).map f)) (u := .ref D) (VRs.lst (n := m) (if_pos rfl) (rv.mono l')) hm hn' hs'
  exact there ((l1.trans l).trans l') (b := Fl.next) trivial (p3.moveGone (toks := s'.toks + 1) (dr := s'.drawn) fC2 LC hs5) q

theorem codeAny_compLoop_none {elt target iter : Expr} {ifs : List Expr} {scope : Scope} {pos : Pos} {it acc : Value} {env : Env} {A : Around} {R : Result → Shared → Prop} {s : Shared} {prog w}
    (h : wpAny (model prog w) A (pyNext it) (fun r s1 => r = none ∧ R (.ok .next) s1) (notedBy (model prog w) A env fun e s' => R (.error e) s') s) : codeAny (model prog w) A (.compLoop (.ListComp elt [⟨target, iter, ifs, 0⟩] scope pos) 0 it acc env) R s := by
  refine codeAny_loop rfl (fun _ s' => s' = s) (fun n s' e => ?_) 0 rfl
  subst e
  show wpAny _ A ((compTurn (.ListComp elt [⟨target, iter, ifs, 0⟩] scope pos) 0 it acc env).onRaise (fun x => do noteFrame x env; theTreesLotGoes x)) _ _ s'
  refine wpAny_noted ?_
  rw [compTurn_list]
  refine wpAny_bind (wpAny_standAt (wpAny_bind (wpAny_mono h (fun r s₁ h₁ => ?_) fun _ _ h' => h')))
  obtain ⟨rfl, h₁⟩ := h₁
  exact wpAny_pure h₁
theorem S_comp0 {y : Str} {py spos : Pos} {elt iter t : Expr} {ifs : List Expr} {scope : Scope} (hz : z.Ok n)
    {cl : List (Str × Addr)} (hclos : closureFor scope z.env = pure cl) (hcell : ∀ x ∈ scope.names, x.2 ≠ .cell) (hkind : scope.kind = .function) (hnames : ∀ x ∈ scope.names, x.2 = .local → scope.names.lookup x.1 = some .local)
    (hy : z.env.kindOf y = some .local) (hsw : swapsWith (.ListComp elt [⟨t, iter, ifs, 0⟩] scope pos) (some (.Name y py)) spos.line z.env = pure true)
    (h : EX z VR (eval iter z.env) σ fun v σ1 => isL σ1 v [] ∧ QF .next (σ1.set y (.lst [])))
    (hs : ∀ x, foldedSetIterable iter z.env x = pure x) : EX z FlR (exec (.Assign [.Name y py] (.ListComp elt [⟨t, iter, ifs, 0⟩] scope pos) spos) z.env) σ QF := fun W s p => by
  rw [exec_Assign_Name_used _ _ _ _ hsw]
  refine wpAny_bind (wpAny_standAt (wpAny_bind ?_))
  show wpAny _ _ (do let _ ← comprehension (.ListComp elt [⟨t, iter, ifs, 0⟩] scope pos) scope z.env _ (newList []) false (eval iter z.env) (some (assign (.Name y py) z.env))) _ _ s
  refine wpAny_bind (wpAny_mono (wpAny_comprehension_free (use := some (assign (.Name y py) z.env)) (Q := fun _ s' => z.post FlR QF W .next s') rfl hs hclos hkind hnames (seq .rfl' h p fun W1 v σ1 xv s1 l1 r1 p1 q1 => ?_))
    (fun _ s' hq => wpAny_pure (wpAny_pure hq)) fun _ _ e => e)
  obtain ⟨hl, q⟩ := q1
  refine hideG fun R_ k_ => ?_
  obtain ⟨a, xs0, m0, rfl, ea, rs0⟩ := hl.at r1 p1
  obtain rfl := rs0.nil_inv
  refine k_ ?_
  clear k_
  refine wpAny_pyIter_list (asL ea) ?_
  refine wpAny_newList ?_
  refine wpAny_newFunctionEnv hcell (fun x hx => by cases hx) (fun h4 hns hsb => ?_) hkind
  have sI : (s1.heap.push { cls := .type "list_iterator", data := .fields #[.ref a, .int 0 0] }).objs.size = s1.heap.objs.size + 1 := size_push' _ _
  have sC : ((s1.heap.push { cls := .type "list_iterator", data := .fields #[.ref a, .int 0 0] }).push (seqObj "list" #[] 0)).objs.size = s1.heap.objs.size + 1 + 1 := by rw [size_push', sI]
  have gI : ((s1.heap.push { cls := .type "list_iterator", data := .fields #[.ref a, .int 0 0] }).push (seqObj "list" #[] 0)).get? s1.heap.objs.size = some { cls := .type "list_iterator", data := .fields #[.ref a, .int 0 0] } := Heap.get?_push_of_some _ (Heap.get?_push_size _ rfl)
  have gD : ((s1.heap.push { cls := .type "list_iterator", data := .fields #[.ref a, .int 0 0] }).push (seqObj "list" #[] 0)).get? (s1.heap.push { cls := .type "list_iterator", data := .fields #[.ref a, .int 0 0] }).objs.size = some (seqObj "list" #[] 0) := Heap.get?_push_size _ rfl
  have k3 : ∀ b x, s1.heap.get? b = some x → ((s1.heap.push { cls := .type "list_iterator", data := .fields #[.ref a, .int 0 0] }).push (seqObj "list" #[] 0)).get? b = some x := fun b x e => Heap.get?_push_of_some _ (Heap.get?_push_of_some _ e)
  generalize hD : (s1.heap.push { cls := .type "list_iterator", data := .fields #[.ref a, .int 0 0] }).objs.size = D at *
  generalize h3e : (s1.heap.push { cls := .type "list_iterator", data := .fields #[.ref a, .int 0 0] }).push (seqObj "list" #[] 0) = h3 at *
  have k4 : ∀ b x, h3.get? b = some x → h4.get? b = some x := fun b x e => (hsb.2 b (Nat.ne_of_lt (Heap.lt_size e))).trans (Heap.get?_push_of_some _ e)
  have nD : s1.heap.get? D = none := get_size (by rw [sI]; exact Nat.le_succ _)
  have nI : s1.heap.get? s1.heap.objs.size = none := get_size (Nat.le_refl _)
  have nC : s1.heap.get? h3.objs.size = none := get_size (by rw [sC]; exact Nat.le_succ_of_le (Nat.le_succ _))
  have fD : W1.Free D := let ⟨a, b, c, d⟩ := p1.nowhere nD; ⟨a, b, c⟩
  have fI : W1.Free s1.heap.objs.size := let ⟨a, b, c, d⟩ := p1.nowhere nI; ⟨a, b, c⟩
  have fC : W1.Free h3.objs.size := let ⟨a, b, c, d⟩ := p1.nowhere nC; ⟨a, b, c⟩
  have LD : z.env.locals ≠ D := (p1.nowhere nD).2.2.2
  have LI : z.env.locals ≠ s1.heap.objs.size := (p1.nowhere nI).2.2.2
  have LC : z.env.locals ≠ h3.objs.size := (p1.nowhere nC).2.2.2
  have DI : D ≠ s1.heap.objs.size := by rw [sI]; exact Nat.succ_ne_self _
  have DC : D ≠ h3.objs.size := by rw [sC, sI]; exact (Nat.succ_ne_self _).symm
  have IC : s1.heap.objs.size ≠ h3.objs.size := by rw [sC]; exact Nat.ne_of_lt (Nat.lt_succ_of_lt (Nat.lt_succ_self _))
  generalize hIe : s1.heap.objs.size = I at *
  generalize hCe : h3.objs.size = C at *
  have p4 := p1.ext (h' := h4) (fun b x e => k4 _ _ (k3 _ _ e)) (toks := s1.toks + ([] : List (Str × Value)).length) (dr := s1.drawn)
  have hit : h4.IsListIter I a 0 := ⟨_, k4 _ _ gI, rfl, rfl⟩
  have loop : ∀ (ce : Env) (RR : Result → Shared → Prop), (∀ s', z.pre W1 σ1 s' → (∀ b o, b ≠ I → h4.get? b = some o → s'.heap.get? b = some o) → RR (.ok .next) s') →
      codeAny (model z.c.prog z.c.w) z.A (.compLoop (.ListComp elt [⟨t, iter, ifs, 0⟩] scope pos) 0 (.ref I) (.ref D) ce) RR ⟨h4, s1.gens, s1.drawn, s1.toks + ([] : List (Str × Value)).length, s1.os⟩ := fun ce RR hR => by
    refine codeAny_compLoop_none (wpAny_pyNext_list_end hz.hd hit (asL (k4 _ _ (k3 _ _ ea))) (by simp) fun h1 he1 => ⟨rfl, hR _ (p4.extFree fI LI he1) fun b o hb e => he1 b o hb e⟩)
  have key : ∀ s', z.pre W1 σ1 s' → (∀ b o, b ≠ I → h4.get? b = some o → s'.heap.get? b = some o) → wpAny (model z.c.prog z.c.w) z.A (assign (.Name y py) z.env (.ref D)) (fun _ s'' => ∃ m, s''.heap.Ns C m ∧ ∀ h', Heap.SameBut C s''.heap h' → z.post FlR QF W .next { s'' with heap := h' }) (z.XE.p W) s' := by
    intro s' p' k5
    have eD : s'.heap.get? D = some (lstO [] 0) := k5 _ _ DI (k4 _ _ gD)
    have nC' : s'.heap.Ns C (fun x => ([] : List (Str × Value)).reverse.lookup x) := hns.at' fun o e => k5 _ _ (Ne.symm IC) e
    have l' := Wd.le_addF (x := lstO [] 0) fD.F
    have p2 : z.pre (W1.addF D (lstO [] 0)) σ1 s' := ⟨p'.g.freeze fD eD, p'.f.mono l' (by simp only [Wd.addF]; rw [if_neg LD]; exact p'.f.outF) p'.f.outP p'.f.outR, p'.k.mono l'⟩
    have fC2 : (W1.addF D (lstO [] 0)).Free C := ⟨(if_neg (Ne.symm DC)).trans fC.F, fC.P, fC.R⟩
    refine hideG fun R_ k_ => ?_
    obtain ⟨m', hn, hm⟩ := p2.f.ns
    refine k_ ?_
    clear k_
    refine wpAny_assign_Name (wpAny_storeName_local hy hn (fun h' hn' hs' => ⟨_, nC'.sameBut hs' (Ne.symm LC), fun h5 hs5 => ?_⟩) (by rw [hz.kind]; rfl))
    have p3 := p2.loc (toks := s'.toks + 1) (dr := s'.drawn) (x := y) (v := .lst []) (u := .ref D) (VRs.lst (n := 0) (xs := []) (if_pos rfl) .nil) hm hn' hs'
    exact there (l1.trans l') (b := Fl.next) trivial (p3.moveGone (toks := s'.toks + 1) (dr := s'.drawn) fC2 LC hs5) q
  exact codeAny_compStart_list (loop _ _ key) (wpAny_pyIter_listiter (i := 0) (l := a) hit (loop _ _ key))
theorem Z.pre.frozen {W : Wd} {s : Shared} (p : z.pre W σ s) {D : Addr} (f : W.Free D) (LD : z.env.locals ≠ D) {x : Obj} (e : s.heap.get? D = some x) : z.pre (W.addF D x) σ s ∧ W.le (W.addF D x) ∧ (W.addF D x).F D = some x := by
  have l' := Wd.le_addF (x := x) f.F
  refine ⟨⟨p.g.freeze f e, p.f.mono l' ?_ p.f.outP p.f.outR, p.k.mono l'⟩, l', if_pos rfl⟩
  simp only [Wd.addF]; rw [if_neg LD]; exact p.f.outF
theorem Z.pre.adopted {W : Wd} {s : Shared} (p : z.pre W σ s) {D : Addr} (f : W.Free D) (LD : z.env.locals ≠ D) (hn : z.c.h₀.objs.size ≤ D) {y : MO} (m : MR z.c.prog z.c.w (W.addR σ.nx D) s.heap D y) :
    z.pre (W.addR σ.nx D) ⟨σ.m, upd σ.o σ.nx y, σ.nx + 1⟩ s ∧ W.le (W.addR σ.nx D) ∧ (W.addR σ.nx D).ρ σ.nx = some D := by
  have l' := Wd.le_addR (W := W) (a := D) (p.g.fresh σ.nx (Nat.le_refl _))
  refine ⟨⟨p.g.adopt f hn m, p.f.mono l' p.f.outF p.f.outP (fun k q => ?_), p.k.mono l'⟩, l', if_pos rfl⟩
  rcases ite_cases q with ⟨z_, q⟩ | ⟨z_, q⟩
  · obtain rfl := Option.some.inj q; exact LD rfl
  · exact p.f.outR k q
inductive RTurn (z : Z) (W1 : Wd) (it : Addr) (N : Nat) (I : Nat → St → Prop) (k : Nat) (s : Shared) : Prop
  | mk (W2 : Wd) (σ2 : St) (i : Nat) (l : W1.le W2) (p : z.pre W2 σ2 s) (hI : I i σ2) (hi : i ≤ N) (hk : k = N - i) (hit : IsRangeIter s.heap it (i : Nat) ((N : Int) - (i : Nat)) 1) (g : W2.Free it) : RTurn z W1 it N I k s
noncomputable def rObj (i n : Int) : Option Obj → Prop := fun x => x = some ⟨.type "range_iterator", none, .fields #[rawInt i, rawInt n, rawInt 1], #[]⟩
noncomputable def stepF (I : Nat → St → Prop) (QF : Fl → St → Prop) (i : Nat) (f : Fl) (σ3 : St) : Prop := match f with
        | .next | .cont => I (i + 1) σ3
        | .brk => QF .next σ3
        | .ret v => QF (.ret v) σ3
theorem rng_next {i N : Nat} {x : Option Obj} (h : rObj ((i : Nat) + 1) ((N : Int) - (i : Nat) - 1) x) : rObj ((i + 1 : Nat) : Int) ((N : Int) - ((i + 1 : Nat) : Int)) x := by
  rw [show (N : Int) - ((i + 1 : Nat) : Int) = (N : Int) - (i : Nat) - 1 by rw [Int.natCast_add, ← Int.sub_sub]; rfl]; exact h
theorem rng_lt {i N : Nat} (h : i < N) : N - (i + 1) < N - i := by lia
theorem rng_pos {i N : Nat} (h : i < N) : 0 < (N : Int) - (i : Nat) := by lia
theorem for_range {x : Str} {px : Pos} {b : List Stmt} (hz : z.Ok n) (ho : z.Own) (hx : z.env.kindOf x = some .local) {W W1 : Wd} {s1 : Shared} {xv : Value} {N : Nat} (l1 : W.le W1) (p1 : z.pre W1 σ s1) (r1 : VR W1 (.rng N) xv) (hN : N < 2 ^ 62) (I : Nat → St → Prop) (i0 : I 0 σ)
    (step : ∀ i σ2, i < N → I i σ2 → EX z FlR (execs b z.env) (σ2.set x (.int (i : Nat))) (stepF I QF i)) (done : ∀ σ2, I N σ2 → QF .next σ2) :
    wpAny (model z.c.prog z.c.w) z.A (pyIter xv) (fun it s₂ => codeAny (model z.c.prog z.c.w) z.A (.forLoop (.Name x px) it b [] z.env) (fun r s' => match r with | .ok f => z.post FlR QF W f s' | .error e => cameBackBy (model z.c.prog z.c.w) z.A z.env (z.XE.p W) e s') s₂) (z.XE.p W) s1 := by
  refine hideG fun R_ k_ => ?_
  obtain ⟨a, t, u, w, rfl, e1⟩ := r1.inv
  refine k_ ?_
  clear k_
  have small : Builtin.Range.small 0 (N : Int) 1 = true := small_one (by lia) (by lia) (by lia) (by lia)
  have size : Builtin.Range.rangeSize 0 (N : Int) 1 = N := by rw [rangeSize_one]; split <;> lia
  have none' := p1.nowhere (get_size (Nat.le_refl s1.heap.objs.size))
  have hnew : ∀ {o}, (s1.heap.push o).get? s1.heap.objs.size = some o ∨ o.isFreed = true := fun {o} => by
    cases h : o.isFreed with
    | true => exact .inr rfl
    | false => exact .inl (Heap.get?_push_size _ h)
  refine wpAny_pyIter_range (p1.g.fz _ _ e1) small ?_
  rw [size]
  refine codeAny_forLoop_any (R := fun r s' => match r with | .ok f => z.post FlR QF W f s' | .error e => cameBackBy (model z.c.prog z.c.w) z.A z.env (z.XE.p W) e s')
    (RTurn z W1 s1.heap.objs.size N I) ?_ N
    ⟨W1, σ, 0, .rfl', p1.ext fun b x e => Heap.get?_push_of_some _ e, i0, Nat.zero_le _, rfl, by simpa using Heap.get?_push_size _ rfl, ⟨none'.1, none'.2.1, none'.2.2.1⟩⟩
  have fL := none'.2.2.2
  clear hnew none' small size e1
  generalize s1.heap.objs.size = it at fL
  refine fun k s' tn => hideG fun R_ k_ => ?_
  obtain ⟨W2, σ2, i, l2, p2, hI, hi, rfl, hit', g⟩ := tn
  refine k_ ?_
  clear k_
  by_cases hlt : i < N
  · refine wpAny_pyNext_range_item hit' (rng_pos hlt) fun h1 hit1 hs1 => ?_
    refine wpAny_of_eq (show letOwnedTupleGo (.Name x px) (.ref it) (.int (i : Nat) s'.toks) = pure () from rfl) ?_
    have p3 := p2.moveFree g fL hs1 ⟨_, hit1⟩ (toks := s'.toks + 1) (dr := s'.drawn)
    refine hideG fun R_ k_ => ?_
    obtain ⟨m', hn, hm⟩ := p3.f.ns
    refine k_ ?_
    clear k_
    refine wpAny_assign_Name (wpAny_storeName_local hx hn (fun h2 hn2 hs2 => ?_) (by rw [hz.kind]; rfl))
    have p4 := p3.loc (x := x) (v := .int (i : Nat)) (u := .int (i : Nat) s'.toks) .int hm hn2 hs2 (toks := s'.toks + 1 + 1) (dr := s'.drawn)
    have hit2 : IsRangeIter h2 it ((i : Nat) + 1) ((N : Int) - (i : Nat) - 1) 1 := (hs2.2 it (Ne.symm fL)).trans hit1
    have p5 := p4.parkd (pr := rObj ((i : Nat) + 1) ((N : Int) - (i : Nat) - 1)) rfl hit2 g.F g.P g.R fL
    have l5 := Wd.le_addP (W := W2) (m := rObj ((i : Nat) + 1) ((N : Int) - (i : Nat) - 1)) g.P
    have P5 : (W2.addP it (rObj ((i : Nat) + 1) ((N : Int) - (i : Nat) - 1))).P it = some (rObj ((i : Nat) + 1) ((N : Int) - (i : Nat) - 1)) := if_pos rfl
    refine wpAny_passesOwn (ho W) (seq ((l1.trans l2).trans l5) (step i σ2 hlt hI) p5 fun W3 b3 σ3 v3 s3 l3 r3 p3 q3 => ?_)
    have l4 : W2.le (W3.delP it) := l3.delP g.P
    have p6 := p3.unP p4 g.P
    have P3 := l3.P _ _ P5
    have k1 := (p3.g.park _ _ P3).1
    have lw := (l1.trans l2).trans l4
    have nx : I (i + 1) σ3 → ∃ m, m < N - i ∧ RTurn z W1 it N I m s3 := fun q =>
      ⟨N - (i + 1), rng_lt hlt, W3.delP it, σ3, i + 1, l2.trans l4, p6, q, hlt, rfl, rng_next k1, p3.g.freeOf P3⟩
    induction b3 <;> induction v3 <;> first | exact r3.elim | skip
    · exact nx q3
    · exact there lw (b := Fl.next) trivial p6 q3
    · exact nx q3
    · exact there lw (b := Fl.ret _) r3.unP p6 q3
  · have hin : i = N := Nat.le_antisymm hi (Nat.le_of_not_lt hlt)
    subst hin
    refine wpAny_pyNext_range_end hz.hd hit' (Int.le_of_eq (Int.sub_self _)) fun h1 he1 => wpAny_execs_nil ?_
    exact there (l1.trans l2) (b := Fl.next) trivial (p2.extFree g fL he1) (done σ2 hI)
end
end Mine
end

section
open PySem PySem.W PySem.Calls PyProof.Rows PySem.SeqAt
set_option Elab.async false
set_option linter.unusedVariables false
set_option autoImplicit true
set_option maxRecDepth 100000
set_option tactic.hygienic false
namespace Mine

inductive SymOb (W : Wd) (oe : Obj) : Prop
  | mk (d : Addr) (es : List DictEntry) (n : Nat) (t) (h1 : oe.dict = some d) (h2 : W.F d = some (dictOf es n)) (h3 : StrK es) (h4 : fnd "symbol" es = some (.str "user-error" t)) : SymOb W oe
theorem SymOb.same {W : Wd} {oe oe' : Obj} (x : SymOb W oe) (h : oe'.dict = oe.dict) : SymOb W oe' := by
  obtain ⟨d, es, n, t, a, b, c, e⟩ := x
  exact ⟨d, es, n, t, h.trans a, b, c, e⟩
inductive ThrOb (C : Addr) (W : Wd) (ea : Addr) (h : Heap) (head : Value) : Prop
  | mk (oe : Obj) (vs : Array Value) (h1 : h.get? ea = some oe) (h2 : oe.cls = .ref C) (h3 : oe.data = .fields vs) (h4 : 1 < vs.size) (h5 : vs[1]? = some head) (rest : SymOb W oe) : ThrOb C W ea h head
structure Thrown (C : Addr) (W : Wd) (ea : Addr) (h : Heap) (head : Value) : Prop where
  ob : ThrOb C W ea h head
  free : W.Free ea
inductive Entry (W : Wd) (ea : Addr) (h : Heap) (head fl : Value) : Prop
  | mk (T : Addr) (oT : Obj) (ts : Array Value) (e : head = .ref T) (h1 : T ≠ ea) (h2 : h.get? T = some oT) (h3 : oT.data = .fields ts) (h4 : ts[3]? = some fl) (h5 : W.Free T) : Entry W ea h head fl
inductive Fly (C : Addr) (fl : Value) (W : Wd) (e : Value) (s : Shared) : Prop
  | mk (ea : Addr) (head : Value) (he : e = .ref ea) (t : Thrown C W ea s.heap head) (d : (head = .none ∧ fl = .none) ∨ Entry W ea s.heap head fl) : Fly C fl W e s

theorem Fly.unP {C fl W e s L} (h : Fly C fl W e s) : Fly C fl (W.delP L) e s := by
  refine hideG fun R_ k_ => ?_
  obtain ⟨ea, head, rfl, ⟨⟨oe, vs, a, b, c, d, e, dd, es, n, t, f, g, i, j⟩, k⟩, l⟩ := h
  refine k_ ?_
  clear k_
  refine ⟨ea, head, rfl, ⟨⟨oe, vs, a, b, c, d, e, dd, es, n, t, f, g, i, j⟩, k.delP⟩, l.imp id ?_⟩
  refine fun hq_ => hideG fun R_ k_ => ?_
  obtain ⟨T, oT, ts, h1, h2, h3, h4, h5, h6⟩ := hq_
  refine k_ ?_
  clear k_
  exact ⟨T, oT, ts, h1, h2, h3, h4, h5, h6.delP⟩

section
variable {z : Z} {n : Nat} {σ : St} {C : Addr} {W : Wd} {s : Shared}

theorem Z.pre.notFields (p : z.pre W σ s) {a : Addr} {o : Obj} {vs} (e : s.heap.get? a = some o) (d : o.data = .fields vs) : z.env.locals ≠ a := fun q => by
  refine hideG fun R_ k_ => ?_
  obtain ⟨m, ⟨o', es, ep, e', d', _⟩, _⟩ := p.f.ns
  refine k_ ?_
  clear k_
  rw [q, e] at e'; obtain rfl := Option.some.inj e'; cases d.symm.trans d'

theorem Z.pre.slots (p : z.pre W σ s) (hf : z.env.frame = some z.env.locals) {h' : Heap} (hs : Heap.SlotsOnly ((z.env :: z.outer).filterMap (·.frame)) s.heap h') {toks dr} : z.pre W σ ⟨h', s.gens, dr, toks, s.os⟩ := by
  have inS : ∀ b, b ∈ (z.env :: z.outer).filterMap (·.frame) → b = z.env.locals ∨ ∃ m, W.P b = some (nsPr m) := fun b hb => by
    obtain ⟨e, he, q⟩ := List.mem_filterMap.mp hb
    rcases List.mem_cons.mp he with rfl | he
    · obtain rfl := Option.some.inj (hf.symm.trans q); exact .inl rfl
    · refine hideG fun R_ k_ => ?_
      obtain ⟨_, L, m, h1, h2⟩ := p.k e he
      refine k_ ?_
      clear k_
      obtain rfl := Option.some.inj (h1.symm.trans q); exact .inr ⟨m, h2⟩
  have keep : ∀ b, b ≠ z.env.locals → W.P b = none → h'.get? b = s.heap.get? b := fun b h1 h2 => hs.2.1 b fun hb => by
    rcases inS b hb with h | ⟨m, h⟩
    · exact h1 h
    · cases h2.symm.trans h
  have nP : ∀ b x, W.F b = some x → W.P b = none := fun b x h => by
    cases e : W.P b with
    | none => rfl
    | some q => have := (p.g.park _ _ e).2.2; cases h.symm.trans this
  refine ⟨⟨p.g.ok, fun b x e => (keep b (fun q => by subst q; have e : W.F _ = some x := e; cases p.f.outF.symm.trans e) (nP b x e)).trans (p.g.fz b x e), p.g.base, fun n x e => ?_, fun n b e => ?_, p.g.inj, p.g.fresh, fun b m e => ?_, p.g.os, p.g.gens, p.g.new.1, p.g.new.2.mono (fun _ _ e => e) (fun _ _ e _ => e) fun b o e q => (hs.2.1 b fun hb => ?_).trans q⟩, ⟨?_, p.f.outF, p.f.outP, p.f.outR, p.f.cells⟩, p.k⟩
  · obtain ⟨b, hb, m⟩ := p.g.mu n x e
    exact ⟨b, hb, m.same (keep b (fun q => p.f.outR n (q ▸ hb)) (p.g.sep n b hb).2.1)⟩
  · refine ⟨(p.g.sep n b e).1, (p.g.sep n b e).2.1, ?_⟩
    rw [keep b (fun q => p.f.outR n (q ▸ e)) (p.g.sep n b e).2.1]
    exact (p.g.sep n b e).2.2
  · obtain ⟨p1, ⟨ob, p2⟩, p3⟩ := p.g.park b m e
    by_cases hb : b ∈ (z.env :: z.outer).filterMap (·.frame)
    · rcases inS b hb with h | ⟨m', h⟩
      · subst h; have e : W.P _ = some m := e; exact nomatch p.f.outP.symm.trans e
      · obtain rfl := Option.some.inj (h.symm.trans e)
        obtain ⟨sl, q⟩ := hs.2.2 b ob p2
        rw [p2] at p1
        exact ⟨by rw [q]; exact p1.slots sl, ⟨_, q⟩, p3⟩
    · show m (h'.get? b) ∧ (∃ ob, h'.get? b = some ob) ∧ _
      rw [hs.2.1 b hb]; exact ⟨p1, ⟨ob, p2⟩, p3⟩
  · rcases inS b hb with h | ⟨m', h⟩
    · subst h; exact nomatch p.f.outP.symm.trans e
    · rw [h] at e
      have e := congrFun (Option.some.inj e) none
      obtain ⟨h0, a0, e1, o0, es0, ep0, e2, _⟩ : nsPr m' none := by rw [e]; trivial
      cases e1.symm.trans e2
  · refine hideG fun R_ k_ => ?_
    obtain ⟨m', ⟨o, es, ep, e, d, r⟩, hm⟩ := p.f.ns
    obtain ⟨sl, q⟩ := hs.2.2 _ o e
    refine k_ ?_
    clear k_
    exact ⟨m', ⟨_, es, ep, q, d, r⟩, hm⟩

theorem Z.pre.frames (p : z.pre W σ s) (hk : z.env.scope.kind = .function) (hf : z.env.frame = some z.env.locals) : s.heap.FunFrames {} (z.env :: z.outer) := by
  have em : ∀ b, (({} : Heap)).get? b = none := fun b => by simp [Heap.get?]
  refine ⟨by rw [hk]; decide, ?_, ?_⟩
  · refine hideG fun R_ k_ => ?_
    obtain ⟨m', ⟨o, es, ep, e, d, r⟩, _⟩ := p.f.ns
    refine k_ ?_
    clear k_
    exact ⟨_, o, hf, em _, e, fun vs q => by cases d.symm.trans q⟩
  · have : ∀ l : List Env, Stk W l → s.heap.FunFrames {} l := fun l => by
      induction l with
      | nil => intro _; trivial
      | cons e l ih =>
        intro h
        refine hideG fun R_ k_ => ?_
        obtain ⟨a, L, m, h1, h2⟩ := h e (.head _)
        obtain ⟨p1, ⟨ob, p2⟩, _⟩ := p.g.park _ _ h2
        refine k_ ?_
        clear k_
        rw [p2] at p1
        exact ⟨a, ⟨L, ob, h1, em _, p2, p1.data⟩, ih fun e' he => h e' (.tail _ he)⟩
    exact this _ p.k

theorem mapFields_dict {f : Array Value → Array Value} {o : Obj} : (Obj.mapFields f o).dict = o.dict := by
  obtain ⟨c, d, dt, sl⟩ := o; induction dt <;> rfl
theorem noteFrame_fly {e : Value} {fl : Value} {R : Unit → Shared → Prop} {A : Around} {E : Value → Shared → Prop} (p : z.pre W σ s) (f : Fly C fl W e s) (hk : z.env.scope.kind = .function) (hf : z.env.frame = some z.env.locals) (hA : A.frames = some (z.env :: z.outer)) (hfl : fl = .none ∨ fl = rawInt z.env.locals)
    (h : ∀ s' ea T, e = .ref ea → z.pre W σ s' → Thrown C W ea s'.heap (.ref T) → Entry W ea s'.heap (.ref T) (rawInt z.env.locals) → R () s') : wpAny (model z.c.prog z.c.w) A (noteFrame e z.env) R E s := by
  refine hideG fun R_ k_ => ?_
  obtain ⟨ea, head, rfl, ⟨⟨oe, vs, h1, h2, h3, h4, h5, rest⟩, fe⟩, hd⟩ := f
  refine k_ ?_
  clear k_
  unfold noteFrame
  simp only [hf]
  refine wpAny_bind (wpAny_field h1 h3 h5 ?_)
  have make : ∀ (s1 : Shared) (hn : Bool), z.pre W σ s1 → s1.heap.get? ea = some oe → wpAny (model z.c.prog z.c.w) A (do let a ← frameOf z.env; let pl ← entryPlaceOf z.env.locals hn; let b ← EntryCells.newEntry head a .none (rawInt z.env.locals) .none pl; setField (.ref ea) 1 b) R E s1 := by
    intro s1 hn p1 e1
    have L1 : z.env.locals ≠ ea := p1.notFields e1 h3
    refine wpAny_bind (wpAny_frameOf_fun hA (p1.frames hk hf) hf fun h2' hs2 => ?_)
    have p2 := p1.slots hf hs2 (toks := s1.toks) (dr := s1.drawn)
    have eS : ea ∉ (z.env :: z.outer).filterMap (·.frame) := fun hb => by
      obtain ⟨_, o, q1, q2⟩ := (p1.frames hk hf).mem hb
      obtain rfl := Option.some.inj (e1.symm.trans q1); exact q2 _ h3
    have e2 : h2'.get? ea = some oe := (hs2.2.1 ea eS).trans e1
    refine wpAny_bind (wpAny_entryPlaceOf fun pl hpl => ?_)
    unfold EntryCells.newEntry newFields
    refine wpAny_bind (wpAny_newObj_type ?_ (hpl.sizeOk5 _ _ _ _ _))
    generalize hfs : ([head, .ref z.env.locals, .none, rawInt z.env.locals, .none] ++ (if pl.isEmpty then List.replicate 6 Value.none else pl)).toArray = fs
    have hf3 : fs[3]? = some (rawInt z.env.locals) := by subst hfs; simp
    have e3 := Heap.get?_push_of_some (h := h2') { cls := .type "traceback", dict := none, data := .fields fs } e2
    have nT : h2'.get? h2'.objs.size = none := get_size (Nat.le_refl _)
    have p3 := p2.ext (h' := h2'.push { cls := .type "traceback", dict := none, data := .fields fs }) (fun b x q => Heap.get?_push_of_some _ q) (toks := s1.toks) (dr := s1.drawn)
    have fT : W.Free h2'.objs.size := by obtain ⟨a, b, c, _⟩ := p2.nowhere nT; exact ⟨a, b, c⟩
    have hTe : ea ≠ h2'.objs.size := Nat.ne_of_lt (Heap.lt_size e2)
    have eT3 : (h2'.push { cls := .type "traceback", dict := none, data := .fields fs }).get? h2'.objs.size = some { cls := .type "traceback", dict := none, data := .fields fs } := Heap.get?_push_size h2' rfl
    clear nT e2 hfs
    generalize h2'.push { cls := .type "traceback", dict := none, data := .fields fs } = hP at e3 p3 eT3 ⊢
    generalize h2'.objs.size = T at fT hTe eT3 ⊢
    refine wpAny_setField e3 h3 h4 ?_
    have hd4 := Obj.data_mapFields h3 (·.setIfInBounds 1 (Value.ref T))
    have e4 := Heap.get?_update_self (Obj.mapFields (·.setIfInBounds 1 (Value.ref T))) e3 (Obj.isFreed_of_fields hd4)
    refine h _ ea T rfl (p3.moveFree fe L1 (Heap.SameBut.update ..) ⟨_, e4⟩) ⟨⟨_, _, e4, (Obj.cls_mapFields ..).trans h2, hd4, by simpa using h4, by simp [h4], ?_⟩, fe⟩ ⟨_, _, _, rfl, Ne.symm hTe, (Heap.get?_update_other _ _ hTe).trans eT3, rfl, hf3, fT⟩
    exact rest.same mapFields_dict
  rcases hd with ⟨rfl, rfl⟩ | ⟨T, oT, ts, rfl, t1, t2, t3, t4, t5⟩
  · rw [if_neg (by decide)]
    exact make s _ p h1
  · rw [if_pos (show (Value.ref T != Value.none) = true from by simp)]
    refine wpAny_bind (wpAny_field t2 t3 t4 ?_)
    rcases hfl with rfl | rfl
    · rw [if_neg (show ¬ ((Value.none == rawInt z.env.locals) = true) from by simp [rawInt])]
      refine wpAny_bind (wpAny_setField t2 t3 (Array.getElem?_eq_some_iff.mp t4).1 ?_)
      have hd4 := Obj.data_mapFields t3 (·.setIfInBounds 3 Value.none)
      exact make _ _ (p.moveFree t5 (p.notFields t2 t3) (Heap.SameBut.update ..) ⟨_, Heap.get?_update_self _ t2 (Obj.isFreed_of_fields hd4)⟩) ((Heap.get?_update_other _ _ t1).trans h1)
    · rw [if_pos (show (rawInt z.env.locals == rawInt z.env.locals) = true from by simp)]
      exact wpAny_pure (h _ ea T rfl p ⟨⟨oe, vs, h1, h2, h3, h4, h5, rest⟩, fe⟩ ⟨T, oT, ts, rfl, t1, t2, t3, t4, t5⟩)

theorem setFlight_fly {ea T : Addr} {fl : Value} {fr : Option Addr} {R : Unit → Shared → Prop} {A : Around} {E : Value → Shared → Prop} (p : z.pre W σ s) (t : Thrown C W ea s.heap (.ref T)) (en : Entry W ea s.heap (.ref T) fl)
    (h : ∀ s', z.pre W σ s' → Thrown C W ea s'.heap (.ref T) → Entry W ea s'.heap (.ref T) (fr.elim .none fun f => rawInt f) → R () s') : wpAny (model z.c.prog z.c.w) A (setFlight (.ref ea) fr) R E s := by
  refine hideG fun R_ k_ => ?_
  obtain ⟨⟨oe, vs, h1, h2, h3, h4, h5, rest⟩, fe⟩ := t
  obtain ⟨T', oT, ts, e0, t1, t2, t3, t4, t5⟩ := en
  cases e0
  have hsz := (Array.getElem?_eq_some_iff.mp t4).1
  refine k_ ?_
  clear k_
  unfold setFlight
  refine wpAny_bind (wpAny_field h1 h3 h5 ?_)
  rw [if_pos (show (Value.ref T != Value.none) = true from by simp)]
  have hd4 := Obj.data_mapFields t3 (·.setIfInBounds 3 (fr.elim Value.none fun f => rawInt f))
  have e4 := Heap.get?_update_self (Obj.mapFields (·.setIfInBounds 3 (fr.elim Value.none fun f => rawInt f))) t2 (Obj.isFreed_of_fields hd4)
  refine wpAny_setField t2 t3 hsz (h _ (p.moveFree t5 (p.notFields t2 t3) (Heap.SameBut.update ..) ⟨_, e4⟩) ⟨⟨oe, vs, (Heap.get?_update_other _ _ t1).trans h1, h2, h3, h4, h5, rest⟩, fe⟩ ⟨T, _, _, rfl, t1, e4, hd4, by simp [hsz], t5⟩)

theorem leaving_fly {e : Value} {fl : Value} {R : Unit → Shared → Prop} {A : Around} {E : Value → Shared → Prop} (p : z.pre W σ s) (f : Fly C fl W e s) (hk : z.env.scope.kind = .function) (hf : z.env.frame = some z.env.locals) (hA : A.frames = some (z.env :: z.outer)) (hfl : fl = .none ∨ fl = rawInt z.env.locals)
    (h : ∀ s', z.pre W σ s' → Fly C .none W e s' → R () s') : wpAny (model z.c.prog z.c.w) A (leaving z.env e) R E s := by
  unfold leaving
  refine wpAny_bind (noteFrame_fly p f hk hf hA hfl fun s1 ea T he p1 t1 e1 => ?_)
  subst he
  exact setFlight_fly p1 t1 e1 fun s2 p2 t2 e2 => h s2 p2 ⟨ea, _, rfl, t2, .inr e2⟩

noncomputable def XQ (C : Addr) (c : Cx) (env : Env) (cl : List (Str × Nat)) (outer : List Env) (QE : (Nat → Option MO) → Nat → Prop) : XP :=
  ⟨fun W e s => ∃ W' σ' fl, W.le W' ∧ Z.pre ⟨c, callerA, env, cl, outer, .no⟩ W' σ' s ∧ Fly C fl W' e s ∧ (fl = .none ∨ fl = rawInt env.locals) ∧ QE σ'.o σ'.nx, fun l h => by obtain ⟨W', σ', fl, l', r⟩ := h; exact ⟨W', σ', fl, l.trans l', r⟩⟩
end

theorem XQ.own {C : Addr} {c : Cx} {A : Around} {env : Env} {cl : List (Str × Nat)} {outer : List Env} {QE} (hk : env.scope.kind = .function) (hf : env.frame = some env.locals) (hA : A.frames = some (env :: outer)) : Z.Own ⟨c, A, env, cl, outer, XQ C c env cl outer QE⟩ := by
  refine fun W e s hq_ => hideG fun R_ k_ => ?_
  obtain ⟨W', σ', fl, l, p, f, hfl, q⟩ := hq_
  refine k_ ?_
  clear k_
  refine noteFrame_fly (z := ⟨c, callerA, env, cl, outer, .no⟩) (A := A) p f hk hf hA hfl fun s1 ea T he p1 t1 e1 => ?_
  subst he
  refine hideG fun R_ k_ => ?_
  obtain ⟨⟨oe, vs, h1, h2, h3, h4, h5, rest⟩, fe⟩ := t1
  refine k_ ?_
  clear k_
  refine wpAny_bind (wpAny_field h1 h3 h5 ?_)
  rw [if_neg (show ¬ ((Value.ref T == Value.none) = true) from by simp)]
  try refine wpAny_bind (wpAny_pure ?_)
  refine setFlight_fly (z := ⟨c, callerA, env, cl, outer, .no⟩) p1 ⟨⟨oe, vs, h1, h2, h3, h4, h5, rest⟩, fe⟩ e1 fun s2 p2 t2 e2 => ⟨W', σ', rawInt env.locals, l, p2, ⟨ea, _, rfl, t2, .inr ?_⟩, .inr rfl, q⟩
  rw [hf] at e2; exact e2
end Mine
end

section
open PySem PySem.W PySem.Calls PyProof.Rows PySem.SeqAt
set_option Elab.async false
set_option linter.unusedVariables false
set_option autoImplicit true
set_option maxRecDepth 100000
set_option tactic.hygienic false
namespace Mine

noncomputable abbrev FC (c : Cx) (C : Addr) (n : Nat) (f : Value) (vs : List V) (o : Nat → Option MO) (nx : Nat) (Q : V → (Nat → Option MO) → Nat → Prop) (QE : (Nat → Option MO) → Nat → Prop) : Prop := FS c (Fly C .none) n f vs o nx Q QE

structure Sig where
  M : List (Addr × List (Str × Addr))
  A : List (Addr × List Str)
  F : List Addr
structure Par where
  z : Z
  S : Sig
  G : List (Str × V)
  C : Addr
  n : Nat
  QE : (Nat → Option MO) → Nat → Prop
  calls : Bool
structure Par.Okz (P : Par) : Prop where
  ok : P.z.Ok P.n
  own : P.z.Own
  call : P.calls = true → P.z.Call
noncomputable def exD {α β : Type} (P : Par) (R : Wd → β → α → Prop) (t : Sem α) (σ : St) (Q : β → St → Prop) : Prop := P.Okz → EX P.z R t σ Q
structure W3 where
  E : Expr → (V → St → Prop) → St → Prop
  T : Expr → (Bool → St → Prop) → St → Prop
  B : List Stmt → (Fl → St → Prop) → St → Prop

noncomputable def chk (b : Bool) (p : Prop) : Prop := @Bool.rec (fun _ => Prop) False p b
theorem chk_ok {b : Bool} {p : Prop} (h : chk b p) : b = true ∧ p := by
  induction b with
  | true => exact ⟨rfl, h⟩
  | false => exact False.elim h
theorem chk_of {b : Bool} {p : Prop} (e : b = true) (h : p) : chk b p := by subst e; exact h
noncomputable def chkN (b : Bool) (p : Prop) : Prop := @Bool.rec (fun _ => Prop) p False b
theorem chkN_ok {b : Bool} {p : Prop} (h : chkN b p) : b = false ∧ p := by
  induction b with
  | false => exact ⟨rfl, h⟩
  | true => exact False.elim h
theorem chkN_of {b : Bool} {p : Prop} (e : b = false) (h : p) : chkN b p := by subst e; exact h
noncomputable def optB {α : Type} (o : Option α) (K : α → Prop) : Prop := @Option.rec α (fun _ => Prop) False K o
theorem optB_ok {α : Type} {o : Option α} {K : α → Prop} (h : optB o K) : ExEq some o K := by
  induction o with
  | none => exact False.elim h
  | some v => exact ⟨v, rfl, h⟩
theorem optB_of {α : Type} {o : Option α} {v : α} {K : α → Prop} (e : o = some v) (h : K v) : optB o K := by subst e; exact h
noncomputable def nonB {α : Type} (o : Option α) (p : Prop) : Prop := @Option.rec α (fun _ => Prop) p (fun _ => False) o
theorem nonB_ok {α : Type} {o : Option α} {p : Prop} (h : nonB o p) : o = none ∧ p := by
  induction o with
  | none => exact ⟨rfl, h⟩
  | some v => exact False.elim h
noncomputable def brB (b : Bool) (p q : Prop) : Prop := @Bool.rec (fun _ => Prop) q p b
theorem brB_mk {b : Bool} {p q : Prop} (h1 : b = true → p) (h2 : b = false → q) : brB b p q := by
  induction b with
  | true => exact h1 rfl
  | false => exact h2 rfl
noncomputable def put (σ : St) (k : Nat) (x : MO) (Q : St → Prop) : Prop := match σ with
  | ⟨m, o, nx⟩ => ∀ o', upd o k x = o' → Q ⟨m, o', nx⟩
noncomputable def new (σ : St) (x : MO) (Q : V → St → Prop) : Prop := match σ with
  | ⟨m, o, nx⟩ => ∀ o', upd o nx x = o' → Q (.ref nx) ⟨m, o', nx + 1⟩
noncomputable def obj (σ : St) (k : Nat) (Q : MO → Prop) : Prop := optB (σ.o k) Q
noncomputable def asNs (x : MO) (K : List (Str × V) → Prop) : Prop := match x with
  | .ns f => K f
  | _ => False
theorem asNs_ok {x : MO} {K : List (Str × V) → Prop} (h : asNs x K) : ∃ f, x = .ns f ∧ K f := by
  induction x <;> first | exact ⟨_, rfl, h⟩ | exact False.elim h
noncomputable def asList (x : MO) (K : List V → Prop) : Prop := match x with
  | .list f => K f
  | _ => False
theorem asList_ok {x : MO} {K : List V → Prop} (h : asList x K) : ∃ f, x = .list f ∧ K f := by
  induction x <;> first | exact ⟨_, rfl, h⟩ | exact False.elim h
noncomputable def asMap (x : MO) (K : (Int → Option V) → Nat → Prop) : Prop := match x with
  | .imap mp kk => K mp kk
  | _ => False
theorem asMap_ok {x : MO} {K : (Int → Option V) → Nat → Prop} (h : asMap x K) : ∃ mp kk, x = .imap mp kk ∧ K mp kk := by
  induction x <;> first | exact ⟨_, _, rfl, h⟩ | exact False.elim h
noncomputable def asCell (x : MO) (K : Option V → Prop) : Prop := match x with
  | .cell v => K v
  | _ => False
theorem asCell_ok {x : MO} {K : Option V → Prop} (h : asCell x K) : ∃ v, x = .cell v ∧ K v := by
  induction x <;> first | exact ⟨_, rfl, h⟩ | exact False.elim h
noncomputable def asInt (v : V) (K : Int → Prop) : Prop := match v with
  | .int i => K i
  | _ => False
theorem asInt_ok {v : V} {K : Int → Prop} (h : asInt v K) : ∃ i, v = .int i ∧ K i := by
  cases v <;> first | exact ⟨_, rfl, h⟩ | exact False.elim h
noncomputable def asRef (v : V) (K : Nat → Prop) : Prop := match v with
  | .ref i => K i
  | _ => False
theorem asRef_ok {v : V} {K : Nat → Prop} (h : asRef v K) : ∃ i, v = .ref i ∧ K i := by
  cases v <;> first | exact ⟨_, rfl, h⟩ | exact False.elim h
noncomputable def asTup (v : V) (K : List V → Prop) : Prop := match v with
  | .tup i => K i
  | _ => False
theorem asTup_ok {v : V} {K : List V → Prop} (h : asTup v K) : ∃ i, v = .tup i ∧ K i := by
  cases v <;> first | exact ⟨_, rfl, h⟩ | exact False.elim h
noncomputable def onNone (v : V) (p : Prop) : Prop := match v with
  | .none => p
  | _ => False
theorem onNone_ok {v : V} {p : Prop} (h : onNone v p) : v = .none ∧ p := by
  cases v <;> first | exact ⟨rfl, h⟩ | exact False.elim h
noncomputable def one {α : Type} (vs : List α) (K : α → Prop) : Prop := match vs with
  | [] => False
  | v :: r => match r with
    | [] => K v
    | _ :: _ => False
theorem one_ok {α : Type} {vs : List α} {K : α → Prop} (h : one vs K) : ∃ v, vs = [v] ∧ K v := by
  cases vs with
  | nil => exact False.elim h
  | cons v r =>
    induction r with
    | nil => exact ⟨v, rfl, h⟩
    | cons => exact False.elim h
noncomputable def nilB {α : Type} (r : List α) (p : Prop) : Prop := match r with
  | [] => p
  | _ :: _ => False
theorem nilB_ok {α : Type} {r : List α} {p : Prop} (h : nilB r p) : r = [] ∧ p := by
  induction r with
  | nil => exact ⟨rfl, h⟩
  | cons => exact False.elim h
noncomputable def two {α : Type} (vs : List α) (K : α → α → Prop) : Prop := match vs with
  | [] => False
  | v :: r => one r fun u => K v u
theorem two_ok {α : Type} {vs : List α} {K : α → α → Prop} (h : two vs K) : ∃ v u, vs = [v, u] ∧ K v u := by
  cases vs with
  | nil => exact False.elim h
  | cons v r =>
    obtain ⟨u, rfl, h⟩ := one_ok h
    exact ⟨v, u, rfl, h⟩

noncomputable def kL (Q : List V → Prop) (x : MO) : Prop := asList x Q
noncomputable def kV (Q : V → St → Prop) (σ : St) (v : V) : Prop := Q v σ
noncomputable def kCV (Q : V → St → Prop) (σ : St) (o : Option V) : Prop := optB o (kV Q σ)
noncomputable def kC (Q : V → St → Prop) (σ : St) (x : MO) : Prop := asCell x (kCV Q σ)
noncomputable def lstOf (σ : St) (v : V) (Q : List V → Prop) : Prop := match v with
  | .lst vs => Q vs
  | .ref k => obj σ k (kL Q)
  | _ => False
noncomputable def wTruth (v : V) (Q : Bool → St → Prop) (σ : St) : Prop := match v with
  | .bool b => brB b (Q true σ) (Q false σ)
  | .none => Q false σ
  | _ => False
noncomputable def wName (P : Par) (x : Str) (Q : V → St → Prop) (σ : St) : Prop := optB (P.z.env.scope.names.lookup x) fun k => match k with
  | .local => optB (σ.m.lookup x) (kV Q σ)
  | .cell => optB (P.z.cl.lookup x) fun k => obj σ k (kC Q σ)
  | .free => optB (P.z.cl.lookup x) fun k => obj σ k (kC Q σ)
  | .globalImplicit => optB (P.G.lookup x) (kV Q σ)
  | .globalExplicit => False
noncomputable def kAdd2 (us : List V) (Q : V → St → Prop) (σ : St) (vs : List V) : Prop := us.length + vs.length ≤ 2 ^ 24 ∧ (Q (.lst (us ++ vs)) σ ∨ new σ (.list (us ++ vs)) Q)
noncomputable def kAdd1 (b : V) (Q : V → St → Prop) (σ : St) (us : List V) : Prop := lstOf σ b (kAdd2 us Q σ)
noncomputable def wAdd (a b : V) (Q : V → St → Prop) (σ : St) : Prop := match a with
  | .int i => asInt b fun j => Q (.int (i + j)) σ
  | a => lstOf σ a (kAdd1 b Q σ)
noncomputable def wMul (a b : V) (Q : V → St → Prop) (σ : St) : Prop := asInt b fun j => match a with
  | .int i => IntMulOk i j ∧ Q (.int (i * j)) σ
  | .lst us => one us fun v => 0 ≤ j ∧ j ≤ 2 ^ 24 ∧ Q (.lst (List.replicate j.toNat v)) σ
  | _ => False
noncomputable def wBin (op : Operator) (a b : V) (Q : V → St → Prop) (σ : St) : Prop := match op with
  | .Add => wAdd a b Q σ
  | .Sub => asInt a fun i => asInt b fun j => Q (.int (i - j)) σ
  | .Mult => wMul a b Q σ
  | .Mod => asInt a fun i => asInt b fun j => j ≠ 0 ∧ Q (.int (i.fmod j)) σ
  | .FloorDiv => asInt a fun i => asInt b fun j => j ≠ 0 ∧ Builtin.divisionGoesByPylong i j = false ∧ Q (.int (i.fdiv j)) σ
  | .Pow => asInt a fun i => asInt b fun j => 0 ≤ j ∧ (Builtin.Int.intBits i : Int) * j ≤ 2 ^ 27 ∧ Q (.int (i ^ j.toNat)) σ
  | _ => False
noncomputable def wEqL (neg : Bool) (a b : V) (Q : V → St → Prop) (σ : St) : Prop := ∃ is js, isL σ a (iV is) ∧ isL σ b (iV js) ∧ Q (.bool (neg ^^ decide (is = js))) σ
noncomputable def wEq (neg : Bool) (a b : V) (Q : V → St → Prop) (σ : St) : Prop := match a with
  | .int i => (match b with
      | .int j => Q (.bool (neg ^^ (i == j))) σ
      | .none => Q (.bool neg) σ
      | _ => False)
  | .none => asInt b fun _ => Q (.bool neg) σ
  | .str x => (match b with
      | .str y => Q (.bool (neg ^^ (x == y))) σ
      | _ => False)
  | .bool x => (match b with
      | .bool y => Q (.bool (neg ^^ (x == y))) σ
      | _ => False)
  | .tup us => asTup b fun vs => optB (eqKs us vs) fun e => Q (.bool (neg ^^ e)) σ
  | a => wEqL neg a b Q σ
noncomputable def wIn (neg : Bool) (a b : V) (Q : V → St → Prop) (σ : St) : Prop := asInt a fun i => asRef b fun k => obj σ k fun x => asMap x fun mp kk => Q (.bool (neg ^^ (mp i).isSome)) σ
noncomputable def wCmp (op : CmpOp) (a b : V) (Q : V → St → Prop) (σ : St) : Prop := match op with
  | .Eq => wEq false a b Q σ
  | .NotEq => wEq true a b Q σ
  | .Lt => asInt a fun i => asInt b fun j => Q (.bool (decide (i < j))) σ
  | .LtE => asInt a fun i => asInt b fun j => Q (.bool (decide (i ≤ j))) σ
  | .Gt => asInt a fun i => asInt b fun j => Q (.bool (decide (i > j))) σ
  | .GtE => asInt a fun i => asInt b fun j => Q (.bool (decide (i ≥ j))) σ
  | .Is => onNone b (chk a.plain (Q (.bool a.isNone) σ))
  | .IsNot => onNone b (chk a.plain (Q (.bool (!a.isNone)) σ))
  | .In => wIn false a b Q σ
  | .NotIn => wIn true a b Q σ
noncomputable def noSet : Expr → Bool
  | .Set .. => false
  | _ => true
noncomputable def noComp : Expr → Bool
  | .ListComp .. => false
  | .SetComp .. => false
  | .DictComp .. => false
  | _ => true
noncomputable def attrBase : Expr → Bool
  | .Name .. => true
  | .Attribute .. => true
  | .Subscript .. => true
  | .Call f .. => (match f with
      | .Attribute .. => true
      | _ => false)
  | _ => false
noncomputable def mcOk (o : Expr) (apos pos : Pos) (args : List Expr) : Bool := attrBase o && (apos.endLine == pos.line) && decide (args.length < 30) && noStars args
noncomputable def wGet (P : Par) (ov : V) (attr : Str) (Q : V → St → Prop) (σ : St) : Prop := match ov with
  | .ins C k => optB (P.S.A.lookup C) fun l => chk (l.contains attr) (obj σ k fun x => asNs x fun f => optB (f.lookup attr) fun v => chkN v.isCon (Q v σ))
  | .pie C c r => optB (P.S.A.lookup C) fun l => chk (attr == "codes") (chk (l.contains "codes") (chkN c.isCon (Q c σ)))
  | _ => False
noncomputable def atV {α : Type} (vs : List α) (i : Int) : Option α := if 0 ≤ i then vs[i.toNat]? else if -(vs.length : Int) ≤ i then vs[(i + vs.length).toNat]? else none
noncomputable def wIdx (vs : List V) (i : Int) (Q : V → St → Prop) (σ : St) : Prop := -(2 ^ 63) ≤ i ∧ i < 2 ^ 63 ∧ ∃ u, atV vs i = some u ∧ Q u σ
noncomputable def iOk (i : Int) : Bool := match i with
  | .ofNat n => Nat.ble n 1000
  | .negSucc _ => false
theorem iOk_ok {i : Int} (h : iOk i = true) : 0 ≤ i ∧ i < 2 ^ 63 := by
  induction i with
  | ofNat n => have h := Nat.le_of_ble_eq_true h; exact ⟨Int.natCast_nonneg n, by show (n : Int) < _; lia⟩
  | negSucc n => cases h
noncomputable def wItemR (iv : V) (Q : V → St → Prop) (σ : St) (x : MO) : Prop := match x with
      | .list vs => asInt iv fun i => wIdx vs i Q σ
      | .imap mp kk => asInt iv fun i => ∃ u, mp i = some u ∧ Q u σ
      | .smap mp kk => (match iv with | .str i => optB (mp i) (kV Q σ) | _ => False)
      | _ => False
noncomputable def wItem (ov iv : V) (Q : V → St → Prop) (σ : St) : Prop := match ov with
  | .lst vs => asInt iv fun i => wIdx vs i Q σ
  | .tup vs => asInt iv fun i => chk (iOk i) (optB (vs[i.toNat]?) fun u => Q u σ)
  | .ref k => obj σ k (wItemR iv Q σ)
  | _ => False
noncomputable def kCons (v : V) (Q : List V → St → Prop) (vs : List V) (σ : St) : Prop := Q (v :: vs) σ
noncomputable def kArg (rest : (List V → St → Prop) → St → Prop) (Q : List V → St → Prop) (v : V) (σ : St) : Prop := rest (kCons v Q) σ
noncomputable def wArgs0 (r : W3) : List Expr → (List V → St → Prop) → St → Prop
  | [], Q, σ => Q [] σ
  | e :: es, Q, σ => r.E e (kArg (wArgs0 r es) Q) σ
noncomputable def wArgs (r : W3) (es : List Expr) (Q : List V → St → Prop) (σ : St) : Prop := chk (noStars es) (wArgs0 r es Q σ)
inductive CallIs (c : Cx) (C : Addr) (n : Nat) (f : Value) (vs : List V) (o : Nat → Option MO) (nx : Nat) (K : V → (Nat → Option MO) → Nat → Prop) (QE : (Nat → Option MO) → Nat → Prop) : Prop
  | mk (m : Nat) (Q1 : V → (Nat → Option MO) → Nat → Prop) (QE1 : (Nat → Option MO) → Nat → Prop) (fc : FC c C m f vs o nx Q1 QE1) (hm : m ≤ n) (h : ∀ b o' nx', Q1 b o' nx' → K b o' nx') (hx : ∀ o' nx', QE1 o' nx' → QE o' nx') : CallIs c C n f vs o nx K QE
noncomputable def kRetn (m0 : List (Str × V)) (Q : V → St → Prop) (b : V) (o' : Nat → Option MO) (nx' : Nat) : Prop := Q b ⟨m0, o', nx'⟩
noncomputable def wCall (P : Par) (fa : Addr) (vs : List V) (Q : V → St → Prop) (σ : St) : Prop :=
  chk P.calls <| match σ with
  | ⟨m0, o, nx⟩ => CallIs P.z.c P.C P.n (.ref fa) vs o nx (kRetn m0 Q) P.QE
noncomputable def kLen (Q : V → St → Prop) (σ : St) (us : List V) : Prop := us.length ≤ 2 ^ 24 ∧ Q (.int us.length) σ
noncomputable def kLst (Q : V → St → Prop) (σ : St) (us : List V) : Prop := us.length ≤ 2 ^ 24 ∧ Q (.lst us) σ
noncomputable def wBi (id : String) (vs : List V) (Q : V → St → Prop) (σ : St) : Prop :=
  if id = "len" then one vs fun v => lstOf σ v (kLen Q σ)
  else if id = "min" then two vs fun a b => asInt a fun i => asInt b fun j => Q (.int (if j < i then j else i)) σ
  else if id = "max" then two vs fun a b => asInt a fun i => asInt b fun j => Q (.int (if j > i then j else i)) σ
  else if id = "abs" then one vs fun a => asInt a fun i => Q (.int (if i < 0 then -i else i)) σ
  else if id = "sorted" then one vs fun v => asRef v fun k => obj σ k fun x => asMap x fun mp n => chk (Nat.beq n 0) (Q (.lst []) σ)
  else False
noncomputable def wListC (v : V) (Q : V → St → Prop) (σ : St) : Prop := match v with
    | .rng j => 0 ≤ j ∧ j < 2 ^ 24 ∧ Q (.lst ((List.range j.toNat).map fun (i : Nat) => V.int (i : Nat))) σ
    | v => lstOf σ v (kLst Q σ)
noncomputable def wTy (id : String) (vs : List V) (Q : V → St → Prop) (σ : St) : Prop :=
  if id = "list" then one vs fun v => wListC v Q σ
  else if id = "range" then one vs fun v => asInt v fun i => Q (.rng i) σ
  else False
noncomputable def wApp (k : Nat) (us vs : List V) (Q : V → St → Prop) (σ : St) : Prop := one vs fun v => us.length ≤ 2 ^ 24 ∧ put σ k (.list (us ++ [v])) (Q .none)
noncomputable def wPopL (k : Nat) (us vs : List V) (Q : V → St → Prop) (σ : St) : Prop := match vs with
    | [] => us.length ≤ 2 ^ 24 ∧ ∃ v, us[us.length - 1]? = some v ∧ put σ k (.list (us.eraseIdx (us.length - 1))) (Q v)
    | v :: r => nilB r <| asInt v fun i => chk (decide (i = 0)) (us.length ≤ 2 ^ 24 ∧ ∃ v, us[0]? = some v ∧ put σ k (.list (us.eraseIdx 0)) (Q v))
noncomputable def wGetD (k : Nat) (mp : Int → Option V) (kk : Nat) (vs : List V) (Q : V → St → Prop) (σ : St) : Prop := two vs fun a d => asInt a fun i => Q ((mp i).getD d) σ
noncomputable def wPopD (k : Nat) (mp : Int → Option V) (kk : Nat) (vs : List V) (Q : V → St → Prop) (σ : St) : Prop := one vs fun a => asInt a fun i => kk ≤ 2 ^ 24 ∧ ∃ u, mp i = some u ∧ put σ k (.imap (updI mp i none) kk) (Q u)
noncomputable def onList (σ : St) (k : Nat) (K : List V → Prop) : Prop := obj σ k (kL K)
noncomputable def onMap (σ : St) (k : Nat) (K : (Int → Option V) → Nat → Prop) : Prop := obj σ k fun x => asMap x K
noncomputable def kApp2 (k : Nat) (vs : List V) (Q : V → St → Prop) (σ : St) (us : List V) : Prop := wApp k us vs Q σ
noncomputable def kApp (k : Nat) (Q : V → St → Prop) (vs : List V) (σ : St) : Prop := onList σ k (kApp2 k vs Q σ)
noncomputable def kPop2 (k : Nat) (vs : List V) (Q : V → St → Prop) (σ : St) (us : List V) : Prop := wPopL k us vs Q σ
noncomputable def kPop (k : Nat) (Q : V → St → Prop) (vs : List V) (σ : St) : Prop := onList σ k (kPop2 k vs Q σ)
noncomputable def kGetD (k : Nat) (Q : V → St → Prop) (vs : List V) (σ : St) : Prop := onMap σ k fun mp kk => wGetD k mp kk vs Q σ
noncomputable def kPopD (k : Nat) (Q : V → St → Prop) (vs : List V) (σ : St) : Prop := onMap σ k fun mp kk => wPopD k mp kk vs Q σ
noncomputable def wMethR (r : W3) (x : MO) (k : Nat) (name : Str) (args : List Expr) (Q : V → St → Prop) (σ : St) : Prop := match x with
  | .list _ => brB (name == "append") (wArgs r args (kApp k Q) σ)
      (chk (name == "pop") (wArgs r args (kPop k Q) σ))
  | .imap _ _ => brB (name == "get") (wArgs r args (kGetD k Q) σ)
      (chk (name == "pop") (wArgs r args (kPopD k Q) σ))
  | _ => False
noncomputable def kMeth (P : Par) (fa : Addr) (ov : V) (Q : V → St → Prop) (vs : List V) (σ : St) : Prop := wCall P fa (ov :: vs) Q σ
noncomputable def kMR (r : W3) (k : Nat) (name : Str) (args : List Expr) (Q : V → St → Prop) (σ : St) (x : MO) : Prop := wMethR r x k name args Q σ
noncomputable def wMeth (P : Par) (r : W3) (ov : V) (name : Str) (args : List Expr) (Q : V → St → Prop) (σ : St) : Prop := match ov with
  | .ins C k => optB (P.S.M.lookup C) fun l => optB (l.lookup name) fun fa => obj σ k fun x => asNs x fun f => nonB (f.lookup name) (wArgs r args (kMeth P fa ov Q) σ)
  | .ref k => obj σ k (kMR r k name args Q σ)
  | _ => False
noncomputable def wPart (r : W3) (e : Option Expr) (Q : V → St → Prop) (σ : St) : Prop := match e with
  | none => Q .none σ
  | some e => r.E e Q σ
noncomputable def kSlice (pl pu : Option Int) (Q : V → St → Prop) (σ : St) (vs : List V) : Prop := vs.length ≤ 2 ^ 24 ∧ (Q (.lst (pickV vs pl pu)) σ ∨ new σ (.list (pickV vs pl pu)) Q)
noncomputable def wSlice (ov l u : V) (Q : V → St → Prop) (σ : St) : Prop := optB (partOf l) fun pl => optB (partOf u) fun pu => lstOf σ ov (kSlice pl pu Q σ)
noncomputable def innerP (P : Par) (scope : Scope) (C : Addr) : Par := ⟨compZ P.z scope C, P.S, P.G, P.C, P.n, fun _ _ => False, false⟩
noncomputable def compOk (scope : Scope) (x : Str) : Bool :=
  scope.names.all (fun p => decide (p.2 ≠ .free) && decide (p.2 ≠ .cell) && (decide (p.2 ≠ .local) || decide (scope.names.lookup p.1 = some .local)) && decide (p.1 ≠ "__debug__") && decide (p.1 ≠ "__classdict__")) && decide (scope.kind = .function) &&
    decide (scope.names.lookup x = some .local)
noncomputable def compOk0 (scope : Scope) : Bool :=
  scope.names.all (fun p => decide (p.2 ≠ .cell) && (decide (p.2 ≠ .local) || decide (scope.names.lookup p.1 = some .local))) && decide (scope.kind = .function)
noncomputable def wElts (R : Par → W3) (P : Par) (scope : Scope) (x : Str) (c : Option Expr) (elt : Expr) (f : V → V) (pr : V → Bool) (vs : List V) (σ1 : St) : Prop :=
  (∀ C v, v ∈ vs → match c with | none => pr v = true | some c => (R (innerP P scope C)).T c (fun b σ2 => b = pr v ∧ σ2 = ⟨[(x, v)], σ1.o, σ1.nx⟩) ⟨[(x, v)], σ1.o, σ1.nx⟩) ∧
  (∀ C v, v ∈ vs → pr v = true → (R (innerP P scope C)).E elt (fun u σ2 => u = f v ∧ σ2 = ⟨[(x, v)], σ1.o, σ1.nx⟩) ⟨[(x, v)], σ1.o, σ1.nx⟩)
noncomputable def condOf (ifs : List Expr) (K : Option Expr → Prop) : Prop := match ifs with
  | [] => K none
  | c :: r => match r with
    | [] => K (some c)
    | _ :: _ => False
theorem condOf_ok {ifs : List Expr} {K : Option Expr → Prop} (h : condOf ifs K) : ∃ c, ifs = ifsOf c ∧ K c := by
  cases ifs with
  | nil => exact ⟨none, rfl, h⟩
  | cons c r =>
    induction r with
    | nil => exact ⟨some c, rfl, h⟩
    | cons => exact False.elim h
noncomputable def oneGen (gens : List Comprehension) (K : Expr → Expr → List Expr → Prop) : Prop := one gens fun g => match g with
  | ⟨t, iter, ifs, a⟩ => chk (decide (a = 0)) (chk (noSet iter) (K t iter ifs))
theorem oneGen_ok {gens : List Comprehension} {K : Expr → Expr → List Expr → Prop} (h : oneGen gens K) : ∃ t iter ifs, gens = [⟨t, iter, ifs, 0⟩] ∧ noSet iter = true ∧ K t iter ifs := by
  obtain ⟨⟨t, iter, ifs, a⟩, rfl, h⟩ := one_ok h
  obtain ⟨e, h⟩ := chk_ok h
  obtain rfl := of_decide_eq_true e
  obtain ⟨e, h⟩ := chk_ok h
  exact ⟨t, iter, ifs, rfl, e, h⟩
noncomputable def nameOf : Expr → Option (Str × Pos)
  | .Name x px => some (x, px)
  | _ => none
noncomputable def onO {α : Type} (o : Option α) (K : α → Prop) (p : Prop) : Prop := match o with
  | some a => K a
  | none => p
theorem nameOf_ok (t : Expr) : onO (nameOf t) (fun a => t = .Name a.1 a.2) True := by
  cases t <;> first | exact trivial | rfl
noncomputable def asName (t : Expr) (K : Str → Pos → Prop) (p : Prop) : Prop := onO (nameOf t) (fun a => K a.1 a.2) p
theorem asName_ok {t : Expr} {K : Str → Pos → Prop} {p : Prop} (h : asName t K p) : (∃ x px, t = .Name x px ∧ K x px) ∨ p := by
  have q := nameOf_ok t
  unfold asName at h
  cases e : nameOf t with
  | none => rw [e] at h; exact .inr h
  | some a => rw [e] at h q; exact .inl ⟨_, _, q, h⟩
noncomputable def opB (op : BoolOp) (c : Bool) (rest qf qt : Prop) : Prop := match op with
  | .And => brB c rest qf
  | .Or => brB c qt rest
noncomputable def kAnd2 (op : BoolOp) (rest : (V → St → Prop) → St → Prop) (v : V) (Q : V → St → Prop) (c : Bool) (σ : St) : Prop := opB op c (rest Q σ) (Q v σ) (Q v σ)
noncomputable def kAnd (op : BoolOp) (last : List Expr) (rest : (V → St → Prop) → St → Prop) (Q : V → St → Prop) (v : V) (σ : St) : Prop := match last with
  | [] => Q v σ
  | _ :: _ => wTruth v (kAnd2 op rest v Q) σ
noncomputable def wAnd (r : W3) (pos : Pos) (op : BoolOp) : List Expr → (V → St → Prop) → St → Prop
  | [], _, _ => False
  | e :: es, Q, σ => r.E e (kAnd op es (wAnd r pos op es) Q) σ

noncomputable def wConst (P : Par) (c : Const) (k : Nat) (p : Pos) (Q : V → St → Prop) (σ : St) : Prop := match c with
  | .int i => Q (.int i) σ
  | .str x => Q (.str x) σ
  | .bool b => Q (.bool b) σ
  | .none => Q .none σ
  | c => exD P VR (eval (.Constant c k p) P.z.env) σ Q
noncomputable def kNotB (Q : V → St → Prop) (b : Bool) (σ : St) : Prop := Q (.bool (!b)) σ
noncomputable def kNot (Q : V → St → Prop) (a : V) (σ : St) : Prop := wTruth a (kNotB Q) σ
noncomputable def kNeg (Q : V → St → Prop) (a : V) (σ : St) : Prop := asInt a fun i => Q (.int (-i)) σ
noncomputable def wUnary (R : Par → W3) (P : Par) (op : UnaryOp) (e : Expr) (p : Pos) (Q : V → St → Prop) (σ : St) : Prop := match op with
  | .Not => (R P).E e (kNot Q) σ
  | .USub => (R P).E e (kNeg Q) σ
  | op => exD P VR (eval (.UnaryOp op e p) P.z.env) σ Q
noncomputable def kCmp2 (op : CmpOp) (a : V) (Q : V → St → Prop) (b : V) (σ : St) : Prop := wCmp op a b Q σ
noncomputable def kCmp1 (r : W3) (e : Expr) (op : CmpOp) (Q : V → St → Prop) (a : V) (σ : St) : Prop := r.E e (kCmp2 op a Q) σ
noncomputable def wCompare (R : Par → W3) (P : Par) (l : Expr) (ops : List CmpOp) (rs : List Expr) (Q : V → St → Prop) (σ : St) : Prop :=
  one ops fun op => one rs fun r => chk (noSet r) <| (R P).E l (kCmp1 (R P) r op Q) σ
noncomputable def kSl3 (ov l : V) (Q : V → St → Prop) (u : V) (σ : St) : Prop := wSlice ov l u Q σ
noncomputable def kSl2 (r : W3) (hi : Option Expr) (ov : V) (Q : V → St → Prop) (l : V) (σ : St) : Prop := wPart r hi (kSl3 ov l Q) σ
noncomputable def kSl1 (r : W3) (lo hi : Option Expr) (Q : V → St → Prop) (ov : V) (σ : St) : Prop := wPart r lo (kSl2 r hi ov Q) σ
noncomputable def kIt2 (ov : V) (Q : V → St → Prop) (iv : V) (σ : St) : Prop := wItem ov iv Q σ
noncomputable def kIt1 (r : W3) (i : Expr) (Q : V → St → Prop) (ov : V) (σ : St) : Prop := r.E i (kIt2 ov Q) σ
noncomputable def wSubs (R : Par → W3) (P : Par) (v i : Expr) (Q : V → St → Prop) (σ : St) : Prop := match i with
  | .Slice lo hi st _ => nonB st ((R P).E v (kSl1 (R P) lo hi Q) σ)
  | i => (R P).E v (kIt1 (R P) i Q) σ
noncomputable def kFn (P : Par) (fa : Addr) (Q : V → St → Prop) (vs : List V) (σ : St) : Prop := wCall P fa vs Q σ
noncomputable def kBi (id : String) (Q : V → St → Prop) (vs : List V) (σ : St) : Prop := wBi id vs Q σ
noncomputable def kTy (id : String) (Q : V → St → Prop) (vs : List V) (σ : St) : Prop := wTy id vs Q σ
noncomputable def wCallN (R : Par → W3) (P : Par) (fv : V) (args : List Expr) (Q : V → St → Prop) (σ1 : St) : Prop := match fv with
  | .con c => (match c with
      | .ref fa => chk (P.S.F.contains fa) (wArgs (R P) args (kFn P fa Q) σ1)
      | .builtin id => wArgs (R P) args (kBi id Q) σ1
      | .type id => chkN args.isEmpty (wArgs (R P) args (kTy id Q) σ1)
      | _ => False)
  | fv => False
noncomputable def wCallV (R : Par → W3) (P : Par) (fv : V) (args : List Expr) (pos : Pos) (Q : V → St → Prop) (σ1 : St) : Prop := match fv with
  | .con c => wCallN R P (.con c) args Q σ1
  | fv => P.Okz → CW P.z fv [] args pos σ1 Q
noncomputable def kMe (P : Par) (r : W3) (name : Str) (args : List Expr) (Q : V → St → Prop) (ov : V) (σ : St) : Prop := wMeth P r ov name args Q σ
noncomputable def kCall (R : Par → W3) (P : Par) (args : List Expr) (pos : Pos) (Q : V → St → Prop) (fv : V) (σ : St) : Prop := wCallV R P fv args pos Q σ
noncomputable def wCallE (R : Par → W3) (P : Par) (f : Expr) (args : List Expr) (kw : List Keyword) (pos : Pos) (Q : V → St → Prop) (σ : St) : Prop := match kw with
  | [] => (match f with
      | .Attribute o name apos => chk (mcOk o apos pos args) <| (R P).E o (kMe P (R P) name args Q) σ
      | .Name f p => wName P f (kCall R P args pos Q) σ
      | f => exD P VR (eval (.Call f args [] pos) P.z.env) σ Q)
  | k :: ks => exD P VR (eval (.Call f args (k :: ks) pos) P.z.env) σ Q
noncomputable def wDict (P : Par) (ks : List (Option Expr)) (vs : List Expr) (pos : Pos) (Q : V → St → Prop) (σ : St) : Prop := match ks with
  | [] => (match vs with
      | [] => new σ (.imap (fun _ => none) 0) Q
      | v :: vs => exD P VR (eval (.Dict [] (v :: vs) pos) P.z.env) σ Q)
  | k :: ks => exD P VR (eval (.Dict (k :: ks) vs pos) P.z.env) σ Q
noncomputable def kComp2 (R : Par → W3) (P : Par) (scope : Scope) (x : Str) (c : Option Expr) (elt : Expr) (Q : V → St → Prop) (σ : St) (vs : List V) : Prop := vs.length ≤ 2 ^ 24 ∧ ∃ f pr, wElts R P scope x c elt f pr vs σ ∧
          (Q (.lst ((vs.filter pr).map f)) σ ∨ new σ (.list ((vs.filter pr).map f)) Q)
noncomputable def kComp (R : Par → W3) (P : Par) (scope : Scope) (x : Str) (c : Option Expr) (elt : Expr) (Q : V → St → Prop) (v : V) (σ : St) : Prop := lstOf σ v (kComp2 R P scope x c elt Q σ)
noncomputable def wCompE (R : Par → W3) (P : Par) (elt : Expr) (gens : List Comprehension) (scope : Scope) (Q : V → St → Prop) (σ : St) : Prop :=
  oneGen gens fun t iter ifs => asName t (fun x _ => chk (compOk scope x) <| condOf ifs fun c => (R P).E iter (kComp R P scope x c elt Q) σ) False
noncomputable def kBin2 (op : Operator) (a : V) (Q : V → St → Prop) (b : V) (σ : St) : Prop := wBin op a b Q σ
noncomputable def kBin1 (r : W3) (e : Expr) (op : Operator) (Q : V → St → Prop) (a : V) (σ : St) : Prop := r.E e (kBin2 op a Q) σ
noncomputable def kIfE (r : W3) (b o : Expr) (Q : V → St → Prop) (c : Bool) (σ : St) : Prop := brB c (r.E b Q σ) (r.E o Q σ)
noncomputable def kGet (P : Par) (attr : Str) (Q : V → St → Prop) (ov : V) (σ : St) : Prop := wGet P ov attr Q σ
noncomputable def kLstE (Q : V → St → Prop) (vs : List V) (σ : St) : Prop := vs.length ≤ 2 ^ 24 ∧ (Q (.lst vs) σ ∨ new σ (.list vs) Q)
noncomputable def kTup (Q : V → St → Prop) (vs : List V) (σ : St) : Prop := vs.length ≤ 2 ^ 24 ∧ Q (.tup vs) σ
noncomputable def stepE (R : Par → W3) (P : Par) (e : Expr) (Q : V → St → Prop) (σ : St) : Prop := match e with
  | .Constant c k p => wConst P c k p Q σ
  | .Name x _ => wName P x Q σ
  | .BinOp l op r _ => (R P).E l (kBin1 (R P) r op Q) σ
  | .Compare l ops rs _ => wCompare R P l ops rs Q σ
  | .UnaryOp op e p => wUnary R P op e p Q σ
  | .BoolOp op es pos => wAnd (R P) pos op es Q σ
  | .IfExp t b o _ => (R P).T t (kIfE (R P) b o Q) σ
  | .Attribute o attr _ => chk (attrBase o) <| (R P).E o (kGet P attr Q) σ
  | .Subscript v i _ => wSubs R P v i Q σ
  | .Call f args kw pos => wCallE R P f args kw pos Q σ
  | .List es _ => wArgs (R P) es (kLstE Q) σ
  | .Tuple es _ _ => wArgs (R P) es (kTup Q) σ
  | .Dict ks vs pos => wDict P ks vs pos Q σ
  | .ListComp elt gens scope _ => wCompE R P elt gens scope Q σ
  | e => exD P VR (eval e P.z.env) σ Q
noncomputable def kAll (op : BoolOp) (rest : (Bool → St → Prop) → St → Prop) (Q : Bool → St → Prop) (c : Bool) (σ : St) : Prop := opB op c (rest Q σ) (Q false σ) (Q true σ)
noncomputable def wAllT (r : W3) (op : BoolOp) : List Expr → (Bool → St → Prop) → St → Prop
  | [], Q, σ => (match op with | .And => Q true σ | .Or => Q false σ)
  | e :: es, Q, σ => r.T e (kAll op (wAllT r op es) Q) σ
noncomputable def kTr (Q : Bool → St → Prop) (v : V) (σ : St) : Prop := wTruth v Q σ
noncomputable def kNotT (Q : Bool → St → Prop) (b : Bool) (σ : St) : Prop := Q (!b) σ
noncomputable def wPlain (R : Par → W3) (P : Par) (e : Expr) (Q : Bool → St → Prop) (σ : St) : Prop := (R P).E e (kTr Q) σ
noncomputable def stepT (R : Par → W3) (P : Par) (e : Expr) (Q : Bool → St → Prop) (σ : St) : Prop := match e with
  | .Compare l ops rs _ => wCompare R P l ops rs (kTr Q) σ
  | .UnaryOp op e p => (match op with
      | .Not => (R P).T e (kNotT Q) σ
      | _ => False)
  | .BoolOp op es _ => wAllT (R P) op es Q σ
  | .Name x p => wName P x (kTr Q) σ
  | .Attribute o attr p => wPlain R P (.Attribute o attr p) Q σ
  | .Call f args kw p => wPlain R P (.Call f args kw p) Q σ
  | .Subscript v i p => wPlain R P (.Subscript v i p) Q σ
  | .Constant c k p => wPlain R P (.Constant c k p) Q σ
  | _ => False

noncomputable def wBind (P : Par) (x : Str) (v : V) (Q : St → Prop) (σ : St) : Prop := optB (P.z.env.scope.names.lookup x) fun k => match k with
  | .local => match σ with
    | ⟨m, o, nx⟩ => Q ⟨(x, v) :: m, o, nx⟩
  | .cell => optB (P.z.cl.lookup x) fun k => obj σ k fun y => asCell y fun _ => put σ k (.cell (some v)) Q
  | _ => False
noncomputable def wBinds (P : Par) : List Str → List V → (St → Prop) → St → Prop
  | [], vs, Q, σ => (match vs with | [] => Q σ | _ :: _ => False)
  | x :: xs, vs, Q, σ => (match vs with | [] => False | v :: vs => wBind P x v (wBinds P xs vs Q) σ)
noncomputable def wStores (P : Par) : List Expr → List V → (St → Prop) → St → Prop
  | [], vs, Q, σ => (match vs with | [] => Q σ | _ :: _ => False)
  | x :: xs, vs, Q, σ => (match vs with | [] => False | v :: vs => asName x (fun x _ => wBind P x v (wStores P xs vs Q) σ) False)
noncomputable def wSetAttr (P : Par) (ov : V) (attr : Str) (v : V) (Q : St → Prop) (σ : St) : Prop := match ov with
  | .ins C k => optB (P.S.A.lookup C) fun l => chk (l.contains attr) (obj σ k fun x => asNs x fun f => chk (Nat.ble f.length 900) (put σ k (.ns (setF attr v f)) Q))
  | _ => False
noncomputable def wSetR (iv v : V) (k : Nat) (Q : St → Prop) (σ : St) (x : MO) : Prop := match x with
      | .list vs => asInt iv fun i => -(2 ^ 63) ≤ i ∧ i < 2 ^ 63 ∧ ∃ jj, seqIndex? i vs.length = some jj ∧ jj < vs.length ∧ put σ k (.list (vs.set jj v)) Q
      | .imap mp kk => asInt iv fun i => kk ≤ 2 ^ 24 ∧ put σ k (.imap (updI mp i (some v)) (kk + 1)) Q
      | .smap mp kk => (match iv with | .str i => chk (Nat.ble kk 1000) (chk (mp i).isSome (put σ k (.smap (updS mp i (some v)) kk) Q)) | _ => False)
      | _ => False
noncomputable def wSetItem (ov iv v : V) (Q : St → Prop) (σ : St) : Prop := asRef ov fun k => obj σ k (wSetR iv v k Q σ)
noncomputable def subM : List (Str × V) → List (Str × V) → Prop
  | [], _ => True
  | (y, v) :: r, m => m.lookup y = some v ∧ subM r m
inductive Weak (m0 : List (Str × V)) (o : Nat → Option MO) (nx : Nat) (Q : St → Prop) : Prop
  | mk (m : List (Str × V)) (hm : subM m m0) (q : Q ⟨m, o, nx⟩) : Weak m0 o nx Q
noncomputable def weak (σ : St) (Q : St → Prop) : Prop := match σ with
  | ⟨m0, o, nx⟩ => Weak m0 o nx Q
noncomputable def kBind (P : Par) (x : Str) (Q : St → Prop) (v : V) (σ : St) : Prop := wBind P x v Q σ
noncomputable def kWeak (M : St → Prop) (σ : St) : Prop := weak σ M
noncomputable def kAC2 (R : Par → W3) (P : Par) (scope : Scope) (y : Str) (c : Option Expr) (elt : Expr) (x : Str) (Q : St → Prop) (σ : St) (vs : List V) : Prop := vs.length ≤ 2 ^ 24 ∧ ∃ f pr, wElts R P scope y c elt f pr vs σ ∧ Q (σ.set x (.lst ((vs.filter pr).map f)))
noncomputable def kAC (R : Par → W3) (P : Par) (scope : Scope) (y : Str) (c : Option Expr) (elt : Expr) (x : Str) (Q : St → Prop) (v : V) (σ : St) : Prop := lstOf σ v (kAC2 R P scope y c elt x Q σ)
noncomputable def kA0 (x : Str) (Q : St → Prop) (v : V) (σ : St) : Prop := lstOf σ v fun vs => vs = [] ∧ Q (σ.set x (.lst []))
inductive AsgOr (r : W3) (P : Par) (x : Str) (e : Expr) (Q : St → Prop) (σ : St) : Prop
  | one (h : r.E e (kBind P x Q) σ) : AsgOr r P x e Q σ
  | two (M : St → Prop) (h : r.E e (kBind P x (kWeak M)) σ) (k : ∀ σ1, M σ1 → Q σ1) : AsgOr r P x e Q σ
noncomputable def wAsgName (R : Par → W3) (P : Par) (x : Str) (p : Pos) (value : Expr) (pos : Pos) (Q : St → Prop) (σ : St) : Prop := match value with
  | .ListComp elt gens scope cpos => swapsWith (.ListComp elt gens scope cpos) (some (.Name x p)) pos.line P.z.env = pure true ∧ P.z.env.scope.names.lookup x = some .local ∧ oneGen gens fun t iter ifs =>
      asName t (fun y _ => chk (compOk scope y) <| condOf ifs fun c => (R P).E iter (kAC R P scope y c elt x Q) σ)
        (chk (compOk0 scope) <| (∃ cl, closureFor scope P.z.env = pure cl) ∧ (R P).E iter (kA0 x Q) σ)
  | .IfExp t b o q => AsgOr (R P) P x (.IfExp t b o q) Q σ
  | value => chk (noComp value) <| (R P).E value (kBind P x Q) σ
noncomputable def kTB (P : Par) (names : List Str) (Q : St → Prop) (v : V) (σ : St) : Prop := asTup v fun vs => chk (Nat.beq vs.length names.length) (wBinds P names.reverse vs.reverse Q σ)
noncomputable def kTS (P : Par) (elts : List Expr) (Q : St → Prop) (v : V) (σ : St) : Prop := asTup v fun vs => chk (Nat.beq vs.length elts.length) (wStores P elts vs Q σ)
noncomputable def wAsgTup (R : Par → W3) (P : Par) (elts : List Expr) (k : Nat) (tpos : Pos) (value : Expr) (pos : Pos) (Q : St → Prop) (σ : St) : Prop :=
  swapsWithSole [.Tuple elts k tpos] value pos.line P.z.env = pure false ∧ (
      (∃ names, swappedStores [.Tuple elts k tpos] value P.z.env = pure (some names) ∧ (R P).E value (kTB P names Q) σ) ∨
      (swappedStores [.Tuple elts k tpos] value P.z.env = pure none ∧ noStars elts = true ∧ (R P).E value (kTS P elts Q) σ))
noncomputable def kAS7 (vs : List V) (l u : V) (k : Nat) (Q : St → Prop) (σ : St) (us : List V) : Prop := vs.length + us.length ≤ 2 ^ 24 ∧ optB (partOf l) fun pl => optB (partOf u) fun pu => put σ k (.list (spliceV vs pl pu us)) Q
noncomputable def kAS6 (v l u : V) (k : Nat) (Q : St → Prop) (σ : St) (vs : List V) : Prop := lstOf σ v (kAS7 vs l u k Q σ)
noncomputable def kAS4 (v ov l : V) (Q : St → Prop) (u : V) (σ : St) : Prop := asRef ov fun k => obj σ k (kL (kAS6 v l u k Q σ))
noncomputable def kAS3 (r : W3) (hi : Option Expr) (v ov : V) (Q : St → Prop) (l : V) (σ : St) : Prop := wPart r hi (kAS4 v ov l Q) σ
noncomputable def kAS2 (r : W3) (lo hi : Option Expr) (v : V) (Q : St → Prop) (ov : V) (σ : St) : Prop := wPart r lo (kAS3 r hi v ov Q) σ
noncomputable def kAS1 (r : W3) (o : Expr) (lo hi : Option Expr) (Q : St → Prop) (v : V) (σ : St) : Prop := r.E o (kAS2 r lo hi v Q) σ
noncomputable def kAI3 (ov v : V) (Q : St → Prop) (iv : V) (σ : St) : Prop := wSetItem ov iv v Q σ
noncomputable def kAI2 (r : W3) (i : Expr) (v : V) (Q : St → Prop) (ov : V) (σ : St) : Prop := r.E i (kAI3 ov v Q) σ
noncomputable def kAI1 (r : W3) (o i : Expr) (Q : St → Prop) (v : V) (σ : St) : Prop := r.E o (kAI2 r i v Q) σ
noncomputable def kAA2 (P : Par) (attr : Str) (v : V) (Q : St → Prop) (ov : V) (σ : St) : Prop := wSetAttr P ov attr v Q σ
noncomputable def kAA1 (P : Par) (r : W3) (o : Expr) (attr : Str) (Q : St → Prop) (v : V) (σ : St) : Prop := r.E o (kAA2 P attr v Q) σ
noncomputable def wAsgSub (R : Par → W3) (P : Par) (o i value : Expr) (Q : St → Prop) (σ : St) : Prop := match i with
  | .Slice lo hi st _ => nonB st (chk (noComp value) <| (R P).E value (kAS1 (R P) o lo hi Q) σ)
  | i => chk (noComp value) <| (R P).E value (kAI1 (R P) o i Q) σ
noncomputable def wAssign (R : Par → W3) (P : Par) (t value : Expr) (pos : Pos) (Q : St → Prop) (σ : St) : Prop := match t with
  | .Name x p => wAsgName R P x p value pos Q σ
  | .Tuple elts k tpos => wAsgTup R P elts k tpos value pos Q σ
  | .Attribute o attr _ => chk (noComp value) <| (R P).E value (kAA1 P (R P) o attr Q) σ
  | .Subscript o i _ => wAsgSub R P o i value Q σ
  | _ => False
noncomputable def kRet (Q : Fl → St → Prop) (v : V) (σ : St) : Prop := Q (.ret v) σ
noncomputable def wRet (R : Par → W3) (P : Par) (e : Option Expr) (Q : Fl → St → Prop) (σ : St) : Prop := match e with
  | none => Q (.ret .none) σ
  | some e => (R P).E e (kRet Q) σ
noncomputable def wLoop (Q : Fl → St → Prop) (I : St → Prop) (f : Fl) (σ3 : St) : Prop := match f with
          | .next => weak σ3 I
          | .cont => weak σ3 I
          | .brk => Q .next σ3
          | .ret v => Q (.ret v) σ3
noncomputable def kDec (I : St → Prop) (μ : St → Nat) (σ1 σ : St) : Prop := I σ ∧ μ σ < μ σ1
noncomputable def kWh (r : W3) (b : List Stmt) (Q : Fl → St → Prop) (I : St → Prop) (μ : St → Nat) (σ1 : St) (c : Bool) (σ : St) : Prop := brB c (r.B b (wLoop Q (kDec I μ σ1)) σ) (Q .next σ)
noncomputable def wWhile (R : Par → W3) (P : Par) (t : Expr) (b : List Stmt) (Q : Fl → St → Prop) (σ : St) : Prop := ∃ (I : St → Prop) (μ : St → Nat), weak σ I ∧ ∀ σ1, I σ1 → (R P).T t (kWh (R P) b Q I μ σ1) σ1
noncomputable def kRng (r : W3) (P : Par) (b : List Stmt) (Q : Fl → St → Prop) (σ1 : St) (N : Int) (x : Str) (_ : Pos) : Prop := chk (decide (P.z.env.scope.names.lookup x = some .local)) <| ∃ Nn : Nat, N = (Nn : Int) ∧ Nn < 2 ^ 62 ∧ ∃ I : Nat → St → Prop, weak σ1 (I 0) ∧
              (∀ i σ2, i < Nn → I i σ2 → r.B b (wLoop Q (I (i + 1))) (σ2.set x (.int (i : Nat)))) ∧
              ∀ σ2, I Nn σ2 → Q .next σ2
noncomputable def wForV (R : Par → W3) (P : Par) (t : Expr) (b : List Stmt) (Q : Fl → St → Prop) (v : V) (σ1 : St) : Prop := match v with
      | .rng N => asName t (kRng (R P) P b Q σ1 N) False
      | v => lstOf σ1 v fun vs => vs = [] ∧ Q .next σ1
noncomputable def wFor (R : Par → W3) (P : Par) (t e : Expr) (b : List Stmt) (Q : Fl → St → Prop) (σ : St) : Prop := chk (noSet e) <| (R P).E e (wForV R P t b Q) σ
inductive WeakO (m0 : List (Str × V)) (o0 : Nat → Option MO) (nx0 : Nat) (Q : St → Prop) : Prop
  | mk (m : List (Str × V)) (o : Nat → Option MO) (nx : Nat) (hm : subM m m0) (ho : ∀ k x, o k = some x → o0 k = some x) (hn : nx0 ≤ nx) (q : Q ⟨m, o, nx⟩) : WeakO m0 o0 nx0 Q
noncomputable def weakO (σ : St) (Q : St → Prop) : Prop := match σ with
  | ⟨m0, o0, nx0⟩ => WeakO m0 o0 nx0 Q
noncomputable def joinF (Q : Fl → St → Prop) (M : St → Prop) (f : Fl) (σ1 : St) : Prop := match f with
  | .next => weakO σ1 M
  | f => Q f σ1
noncomputable def kIf (r : W3) (b o : List Stmt) (Q : Fl → St → Prop) (c : Bool) (σ : St) : Prop := brB c (r.B b Q σ) (r.B o Q σ)
noncomputable def wIf (R : Par → W3) (P : Par) (t : Expr) (b o : List Stmt) (Q : Fl → St → Prop) (σ : St) : Prop := (R P).T t (kIf (R P) b o Q) σ
inductive IfOr (R : Par → W3) (P : Par) (t : Expr) (b o : List Stmt) (Q : Fl → St → Prop) (σ : St) : Prop
  | one (h : wIf R P t b o Q σ) : IfOr R P t b o Q σ
  | two (M : St → Prop) (h : wIf R P t b o (joinF Q M) σ) (k : ∀ σ1, M σ1 → Q .next σ1) : IfOr R P t b o Q σ
noncomputable def kNx (Q : Fl → St → Prop) (_ : V) (σ : St) : Prop := Q .next σ
noncomputable def wStmt (R : Par → W3) (P : Par) (st : Stmt) (Q : Fl → St → Prop) (σ : St) : Prop := match st with
  | .Return e _ => wRet R P e Q σ
  | .Expr e _ => chk (noComp e) <| (R P).E e (kNx Q) σ
  | .If t b o _ => IfOr R P t b o Q σ
  | .While t b o _ => chk o.isEmpty (wWhile R P t b Q σ)
  | .For t e b o _ => chk o.isEmpty (wFor R P t e b Q σ)
  | .Assign ts value pos => one ts fun t => wAssign R P t value pos (Q .next) σ
  | st => exD P FlR (exec st P.z.env) σ Q
noncomputable def nextF (f : Fl) (p q : Prop) : Prop := match f with
  | .next => p
  | _ => q
noncomputable def kSeq (rest : (Fl → St → Prop) → St → Prop) (Q : Fl → St → Prop) (f : Fl) (σ : St) : Prop := nextF f (rest Q σ) (Q f σ)
noncomputable def wBlock (R : Par → W3) (P : Par) : List Stmt → (Fl → St → Prop) → St → Prop
  | [], Q, σ => Q .next σ
  | st :: rest, Q, σ => wStmt R P st (kSeq (wBlock R P rest) Q) σ
noncomputable def wps : Nat → Par → W3
  | 0, _ => ⟨fun _ _ _ => False, fun _ _ _ => False, fun _ _ _ => False⟩
  | n + 1, P => ⟨stepE (wps n) P, stepT (wps n) P, wBlock (wps n) P⟩
end Mine
end

section
open PySem PySem.W PySem.Calls PyProof.Rows PySem.SeqAt
set_option Elab.async false
set_option linter.unusedVariables false
set_option autoImplicit true
set_option maxRecDepth 100000
set_option tactic.hygienic false
namespace Mine

noncomputable def GFact (c : Cx) (x : Str) (v : V) : Prop :=
  (∃ u, nsIn c.K mainGlobals x = some (some u) ∧ ∀ W o nx s, GS c W o nx s → VR W v u) ∨ (∃ u, v = .con u ∧ nsIn c.K mainGlobals x = some none ∧ bootBuiltins x = some u ∧ x ≠ "__name__")
structure SigOk (c : Cx) (S : Sig) : Prop where
  cls : ∀ C l, S.M.lookup C = some l → ClsOk c.K C ∧ ∀ x fa, l.lookup x = some fa → findIn c.K (.ref C) x = some (some (.ref fa)) ∧ typeIn c.K (.ref fa) = some (.type "function") ∧ keepIn c.K (.ref fa) = true
  attr : ∀ C l, S.A.lookup C = some l → ClsOk c.K C ∧ ∀ x, l.contains x = true → findIn c.K (.ref C) x = some none
  fns : ∀ a, S.F.contains a = true → keepIn c.K (.ref a) = true
structure POk (P : Par) : Prop where
  ok : P.z.Ok P.n
  own : P.z.Own
  call : P.calls = true → P.z.Call
  sig : SigOk P.z.c P.S
  glob : ∀ x v, P.G.lookup x = some v → GFact P.z.c x v
  err : ∀ W σ e s, P.z.pre W σ s → Fly P.C .none W e s → P.QE σ.o σ.nx → P.z.XE.p W e s
  names : ∀ x k, P.z.env.scope.names.lookup x = some k → (x == ("__debug__" : Str)) = false ∧ (x == ("__classdict__" : Str)) = false
  inter : interactive P.z.env = false
theorem POk.okz {P : Par} (h : POk P) : P.Okz := ⟨h.ok, h.own, h.call⟩
structure Snd (R : Par → W3) : Prop where
  E : ∀ P, POk P → ∀ e Q σ, (R P).E e Q σ → EX P.z VR (eval e P.z.env) σ Q
  T : ∀ P, POk P → ∀ e Q σ, (R P).T e Q σ → EX P.z RB (isTrue e P.z.env (eval e P.z.env)) σ Q
  B : ∀ P, POk P → ∀ b Q σ, (R P).B b Q σ → EX P.z FlR (execs b P.z.env) σ Q

inductive LstR (σ : St) (v : V) (K : List V → Prop) : Prop
  | mk (vs : List V) (h : isL σ v vs) (k : K vs) : LstR σ v K
section
variable {P : Par} {R : Par → W3} {σ : St} {Q : V → St → Prop} {QB : Bool → St → Prop} {QF : Fl → St → Prop} {QS : St → Prop} {QL : List V → St → Prop} {pos : Pos} {x : Str}

theorem lstOf_isL {v : V} {K : List V → Prop} (h : lstOf σ v K) : LstR σ v K := by
  cases v <;> try exact False.elim h
  · exact ⟨_, .lst, h⟩
  · obtain ⟨x, e, h⟩ := optB_ok h
    obtain ⟨f, rfl, h⟩ := asList_ok h
    exact ⟨_, .ref e, h⟩
set_option tactic.hygienic true in
theorem wTruth_ok {z : Z} {v : V} (h : wTruth v QB σ) : O1 z RB v truthy σ QB := by
  cases v <;> try exact False.elim h
  · exact U_none h
  · rename_i b
    induction b
    · exact U_bool h
    · exact U_bool h
theorem wName_ok (hP : POk P) (h : wName P x Q σ) : EX P.z VR (eval (.Name x pos) P.z.env) σ Q := by
  obtain ⟨k, e, h⟩ := optB_ok h
  induction k <;> try exact False.elim h
  · obtain ⟨v, e2, h⟩ := optB_ok h
    exact R_loc h e2 hP.ok.kind e (hP.names _ _ e).1
  · obtain ⟨k, e2, h⟩ := optB_ok h
    obtain ⟨y, e3, h⟩ := optB_ok h
    obtain ⟨v, rfl, h⟩ := asCell_ok h
    obtain ⟨v, rfl, h⟩ := optB_ok h
    exact R_cell h e2 e3 hP.ok.kind e (hP.names _ _ e).1
  · obtain ⟨k, e2, h⟩ := optB_ok h
    obtain ⟨y, e3, h⟩ := optB_ok h
    obtain ⟨v, rfl, h⟩ := asCell_ok h
    obtain ⟨v, rfl, h⟩ := optB_ok h
    exact R_free h e2 e3 hP.ok.kind e (hP.names _ _ e).1 (hP.names _ _ e).2
  · obtain ⟨v, e2, h⟩ := optB_ok h
    rcases hP.glob _ _ e2 with ⟨u, e3, hv⟩ | ⟨u, rfl, e3, hb, hn⟩
    · exact R_glob h hP.ok e3 (fun W s g => hv W _ _ s g) e (hP.names _ _ e).1
    · exact R_blt h hP.ok e3 hb hn e (hP.names _ _ e).1

theorem wAddL_ok {z : Z} {a b : V} (h : lstOf σ a fun us => lstOf σ b fun vs => us.length + vs.length ≤ 2 ^ 24 ∧ (Q (.lst (us ++ vs)) σ ∨ new σ (.list (us ++ vs)) Q)) : O2 z VR a b (binaryOp .Add) σ Q := by
  obtain ⟨us, h1, h⟩ := lstOf_isL h
  obtain ⟨vs, h2, h3, h⟩ := lstOf_isL h
  rcases h with h | h
  · exact B_cat h h1 h2 h3
  · exact B_catM (h _ rfl) h1 h2 h3
set_option tactic.hygienic true in
theorem wAdd_ok {z : Z} {a b : V} (h : wAdd a b Q σ) : O2 z VR a b (binaryOp .Add) σ Q := by
  cases a
  case int i => obtain ⟨j, rfl, h⟩ := asInt_ok h; exact B_add h
  all_goals exact wAddL_ok h
theorem wBin_ok {z : Z} {op : Operator} {a b : V} (h : wBin op a b Q σ) : O2 z VR a b (binaryOp op) σ Q := by
  induction op <;> try exact False.elim h
  · exact wAdd_ok h
  · obtain ⟨i, rfl, h⟩ := asInt_ok h
    obtain ⟨j, rfl, h⟩ := asInt_ok h
    exact B_sub h
  · obtain ⟨j, rfl, h⟩ := asInt_ok h
    cases a <;> try exact False.elim h
    · exact B_mul h.2 h.1
    · obtain ⟨v, rfl, h⟩ := one_ok h
      exact B_rep h.2.2 .lst h.1 h.2.1
  · obtain ⟨i, rfl, h⟩ := asInt_ok h
    obtain ⟨j, rfl, h⟩ := asInt_ok h
    exact B_mod h.2 h.1
  · obtain ⟨i, rfl, h⟩ := asInt_ok h
    obtain ⟨j, rfl, h⟩ := asInt_ok h
    exact B_pow h.2.2 h.1 h.2.1
  · obtain ⟨i, rfl, h⟩ := asInt_ok h
    obtain ⟨j, rfl, h⟩ := asInt_ok h
    exact B_div h.2.2 h.1 h.2.1
theorem eqB_ok {z : Z} {x y : Bool} (h : Q (.bool (false ^^ (x == y))) σ) : O2 z VR (.bool x) (.bool y) (compareOp .Eq) σ Q := fun W s u v ra rb p => by
  rw [Bool.false_xor] at h
  obtain rfl := ra.inv; obtain rfl := rb.inv; exact eq_bool (here .bool p h)
theorem neB_ok {z : Z} {x y : Bool} (h : Q (.bool (true ^^ (x == y))) σ) : O2 z VR (.bool x) (.bool y) (compareOp .NotEq) σ Q := fun W s u v ra rb p => by
  rw [Bool.true_xor] at h
  obtain rfl := ra.inv; obtain rfl := rb.inv; exact RcNeAt.bool_bool _ _ _ _ _ _ (here .bool p h)
theorem wEqL_ok {z : Z} {n : Nat} (hz : z.Ok n) {a b : V} (h : wEqL false a b Q σ) : O2 z VR a b (compareOp .Eq) σ Q := by
  obtain ⟨is, js, h1, h2, h⟩ := h
  rw [Bool.false_xor] at h
  exact K_eq_l h h1 h2 hz
theorem wNeL_ok {z : Z} {n : Nat} (hz : z.Ok n) {a b : V} (h : wEqL true a b Q σ) : O2 z VR a b (compareOp .NotEq) σ Q := by
  obtain ⟨is, js, h1, h2, h⟩ := h
  rw [Bool.true_xor] at h
  exact K_ne_l h h1 h2 hz
set_option tactic.hygienic true in
theorem wEq_ok {z : Z} {n : Nat} (hz : z.Ok n) {a b : V} (h : wEq false a b Q σ) : O2 z VR a b (compareOp .Eq) σ Q := by
  cases a
  case int i =>
    cases b <;> try exact False.elim h
    · exact K_eq_in h
    · exact K_eq (by rw [← Bool.false_xor (i == _)]; exact h)
  case none => obtain ⟨j, rfl, h⟩ := asInt_ok h; exact K_eq_ni h
  case str x =>
    cases b <;> try exact False.elim h
    exact K_eq_s (by rw [← Bool.false_xor (x == _)]; exact h)
  case bool x =>
    cases b <;> try exact False.elim h
    exact eqB_ok h
  case tup us =>
    obtain ⟨vs, rfl, h⟩ := asTup_ok h
    obtain ⟨e, he, h⟩ := optB_ok h
    exact K_eq_t (by rw [← Bool.false_xor e]; exact h) he hz
  all_goals exact wEqL_ok hz h
set_option tactic.hygienic true in
theorem wNe_ok {z : Z} {n : Nat} (hz : z.Ok n) {a b : V} (h : wEq true a b Q σ) : O2 z VR a b (compareOp .NotEq) σ Q := by
  cases a
  case int i =>
    cases b <;> try exact False.elim h
    · exact K_ne_in h
    · exact K_ne (by rw [show (i != _) = (true ^^ (i == _)) from (Bool.true_xor _).symm]; exact h)
  case none => obtain ⟨j, rfl, h⟩ := asInt_ok h; exact K_ne_ni h
  case str x =>
    cases b <;> try exact False.elim h
    exact K_ne_s (by rw [← Bool.true_xor]; exact h)
  case bool x =>
    cases b <;> try exact False.elim h
    exact neB_ok h
  case tup us =>
    obtain ⟨vs, rfl, h⟩ := asTup_ok h
    obtain ⟨e, he, h⟩ := optB_ok h
    exact K_ne_t (by rw [← Bool.true_xor]; exact h) he hz
  all_goals exact wNeL_ok hz h
theorem wCmp_ok {z : Z} {n : Nat} (hz : z.Ok n) {op : CmpOp} {a b : V} (h : wCmp op a b Q σ) : O2 z VR a b (compareOp op) σ Q := by
  induction op
  · exact wEq_ok hz h
  · exact wNe_ok hz h
  · obtain ⟨i, rfl, h⟩ := asInt_ok h; obtain ⟨j, rfl, h⟩ := asInt_ok h; exact K_lt h
  · obtain ⟨i, rfl, h⟩ := asInt_ok h; obtain ⟨j, rfl, h⟩ := asInt_ok h; exact K_le h
  · obtain ⟨i, rfl, h⟩ := asInt_ok h; obtain ⟨j, rfl, h⟩ := asInt_ok h; exact K_gt h
  · obtain ⟨i, rfl, h⟩ := asInt_ok h; obtain ⟨j, rfl, h⟩ := asInt_ok h; exact K_ge h
  · obtain ⟨rfl, h⟩ := onNone_ok h; exact K_is (chk_ok h).2 (chk_ok h).1
  · obtain ⟨rfl, h⟩ := onNone_ok h; exact K_isnot (chk_ok h).2 (chk_ok h).1
  · obtain ⟨i, rfl, h⟩ := asInt_ok h; obtain ⟨k, rfl, h⟩ := asRef_ok h
    obtain ⟨y, e, h⟩ := optB_ok h; obtain ⟨mp, kk, rfl, h'⟩ := asMap_ok h
    rw [Bool.false_xor] at h'; exact K_in h' e
  · obtain ⟨i, rfl, h⟩ := asInt_ok h; obtain ⟨k, rfl, h⟩ := asRef_ok h
    obtain ⟨y, e, h⟩ := optB_ok h; obtain ⟨mp, kk, rfl, h'⟩ := asMap_ok h
    rw [Bool.true_xor] at h'; exact K_notin h' e
theorem noSet_marks {op : CmpOp} {r : Expr} (h : noSet r = true) : behindInMarks op r = false := by
  cases r <;> first | rfl | cases h
theorem noComp_swaps {value : Expr} {t : Option Expr} {l : Nat} {env : Env} (h : noComp value = true) : swapsWith value t l env = pure false := by
  cases value <;> first | rfl | cases h
theorem noSet_iter {e : Expr} {env : Env} (h : noSet e = true) (x : Value) : foldedSetIterable e env x = pure x := by
  cases e <;> first | rfl | cases h
set_option tactic.hygienic true in
theorem attrBase_eq {o : Expr} {attr : Str} {env : Env} (h : attrBase o = true) : eval (.Attribute o attr pos) env = (do let ov ← eval o env; standAt pos.atName; let r ← holding [ov] (getAttr ov attr true); letTemporaryGo o ov r; pure r) := by
  cases o <;> first | rfl | cases h | skip
  rename_i f a k p
  cases f <;> first | rfl | cases h

theorem wGet_ok {ov : V} {attr : Str} {ex : Bool} (hP : POk P) (h : wGet P ov attr Q σ) : O1 P.z VR ov (fun a => getAttr a attr ex) σ Q := by
  cases ov <;> try exact False.elim h
  · obtain ⟨l, el, h⟩ := optB_ok h
    obtain ⟨ec, h⟩ := chk_ok h
    obtain ⟨y, e, h⟩ := optB_ok h
    obtain ⟨f, rfl, h⟩ := asNs_ok h
    obtain ⟨v, ev, h⟩ := optB_ok h
    exact G_ins (chkN_ok h).2 e ev (hP.sig.attr _ _ el).1 ((hP.sig.attr _ _ el).2 _ ec) (chkN_ok h).1
  · obtain ⟨l, el, h⟩ := optB_ok h
    obtain ⟨ec, h1⟩ := chk_ok h
    obtain ⟨ed, h2⟩ := chk_ok h1
    have ec : attr = "codes" := by simpa using ec
    subst ec
    exact G_pieC (chkN_ok h2).2 (hP.sig.attr _ _ el).1 ((hP.sig.attr _ _ el).2 _ ed) (chkN_ok h2).1

set_option tactic.hygienic true in
theorem I_at {z : Z} {ve ie : Expr} {o : V} {vs : List V} {i : Int} (h : wIdx vs i Q σ) (hl : isL σ o vs)
    (hs : ∀ a b, subscripted ie false (.ref a) (.int i b) = operate [.ref a, .int i b] (getItem (.ref a) (.int i b))) : O2 z VR o (.int i) (subscriptTail ve ie) σ Q := by
  obtain ⟨h0, h1, u, hu, h⟩ := h
  unfold atV at hu
  split at hu
  · rename_i c; exact I_list h hl c h1 hu hs
  · rename_i c
    split at hu
    · rename_i c2; exact I_listneg h hl (by lia) h0 c2 hu hs
    · exact nomatch hu
noncomputable def noSlice : Expr → Bool
  | .Slice .. => false
  | _ => true
theorem noSlice_sub {ie : Expr} (h : noSlice ie = true) (o i : Value) : subscripted ie false o i = operate [o, i] (getItem o i) := by
  cases ie <;> first | rfl | cases h
theorem wItem_ok {z : Z} {ve ie : Expr} {ov iv : V} (hn : noSlice ie = true) (h : wItem ov iv Q σ) : O2 z VR ov iv (subscriptTail ve ie) σ Q := by
  cases ov <;> try exact False.elim h
  · obtain ⟨i, rfl, h⟩ := asInt_ok h
    obtain ⟨h0, h⟩ := chk_ok h
    obtain ⟨u, hu, h⟩ := optB_ok h
    exact I_tup h (iOk_ok h0).1 (iOk_ok h0).2 hu fun a b => noSlice_sub hn _ _
  · obtain ⟨i, rfl, h⟩ := asInt_ok h
    exact I_at h .lst fun a b => noSlice_sub hn _ _
  · obtain ⟨y, e, h⟩ := optB_ok h
    induction y <;> try exact False.elim h
    · obtain ⟨i, rfl, h⟩ := asInt_ok h
      exact I_at h (.ref e) fun a b => noSlice_sub hn _ _
    · obtain ⟨i, rfl, u, hu, h⟩ := asInt_ok h
      exact I_dict h e hu fun a b => noSlice_sub hn _ _
    · cases iv <;> try exact False.elim h
      obtain ⟨u, hu, h⟩ := optB_ok h
      exact I_sdict h e hu fun a b => noSlice_sub hn _ _

theorem noStars_star {e : Expr} {es : List Expr} {env : Env} (h : noStars (e :: es) = true) : starEach (e :: es) env = (false, eval e env) :: starEach es env ∧ noStars es = true := by
  cases e <;> first | cases h | exact ⟨rfl, h⟩
theorem noStars_any : ∀ {es : List Expr} {env : Env}, noStars es = true → (backTo pos (starEach es env)).any (·.1) = false
  | [], _, _ => rfl
  | e :: es, env, h => by
    have ih := noStars_any (env := env) (noStars_star (env := env) h).2
    rw [(noStars_star (env := env) h).1]
    unfold backTo at ih ⊢
    rw [List.map_cons, List.any_cons, ih]; rfl
theorem noStars_all : ∀ {es : List Expr} {env : Env}, noStars es = true → (backTo pos (starEach es env)).all (!·.1) = true
  | [], _, _ => rfl
  | e :: es, env, h => by
    have ih := noStars_all (env := env) (noStars_star (env := env) h).2
    rw [(noStars_star (env := env) h).1]
    unfold backTo at ih ⊢
    rw [List.map_cons, List.all_cons, ih]; rfl
theorem wArgs0_ok (hR : Snd R) (hP : POk P) : ∀ {es : List Expr} {QL : List V → St → Prop} {σ : St}, noStars es = true → wArgs0 (R P) es QL σ → EX P.z VRs (spliced (backTo pos (starEach es P.z.env))) σ QL
  | [], QL, σ, _, h => A_nil h
  | e :: es, QL, σ, hn, h => A_cons ((hR.E P hP _ _ _ h).imp fun v σ1 h1 => wArgs0_ok hR hP (noStars_star (env := P.z.env) hn).2 h1) (noStars_star hn).1
theorem wArgs_split {r : W3} {es : List Expr} (h : wArgs r es QL σ) : noStars es = true ∧ wArgs0 r es QL σ := chk_ok h
theorem wArgs_ok (hR : Snd R) (hP : POk P) {es : List Expr} (h : wArgs (R P) es QL σ) : EX P.z VRs (spliced (backTo pos (starEach es P.z.env))) σ QL :=
  wArgs0_ok hR hP (wArgs_split h).1 (wArgs_split h).2

theorem wCall_ok {fa : Addr} {vs : List V} (hP : POk P) (h : wCall P fa vs Q σ) : OL P.z VR vs (fun xs => call (.ref fa) xs) σ Q := by
  obtain ⟨hc, m, Q1, QE1, fc, hm, h1, h2⟩ := chk_ok h
  exact C_fs fc hP.ok (hP.call hc) hm h1 (fun W o' nx' e s p f q => hP.err W _ e s p f (h2 _ _ q)) fun W e s L f => f.unP
theorem wBi_ok {id : String} {vs : List V} (hP : POk P) (h : wBi id vs Q σ) : OL P.z VR vs (fun xs => call (.builtin id) xs) σ Q := by
  unfold wBi at h
  by_cases e : id = "len"
  · rw [if_pos e] at h; subst e
    obtain ⟨v, rfl, h⟩ := one_ok h
    obtain ⟨us, h1, h2, h⟩ := lstOf_isL h
    exact len_call h h1 h2
  rw [if_neg e] at h
  by_cases e : id = "min"
  · rw [if_pos e] at h; subst e
    obtain ⟨a, b, rfl, h⟩ := two_ok h
    obtain ⟨i, rfl, h⟩ := asInt_ok h; obtain ⟨j, rfl, h⟩ := asInt_ok h
    exact min_call h hP.ok
  rw [if_neg e] at h
  by_cases e : id = "max"
  · rw [if_pos e] at h; subst e
    obtain ⟨a, b, rfl, h⟩ := two_ok h
    obtain ⟨i, rfl, h⟩ := asInt_ok h; obtain ⟨j, rfl, h⟩ := asInt_ok h
    exact max_call h hP.ok
  rw [if_neg e] at h
  by_cases e : id = "abs"
  · rw [if_pos e] at h; subst e
    obtain ⟨a, rfl, h⟩ := one_ok h
    obtain ⟨i, rfl, h⟩ := asInt_ok h
    exact abs_call h
  rw [if_neg e] at h
  by_cases e : id = "sorted"
  · rw [if_pos e] at h; subst e
    obtain ⟨a, rfl, h⟩ := one_ok h
    obtain ⟨k, rfl, h⟩ := asRef_ok h
    obtain ⟨y, e, h⟩ := optB_ok h
    obtain ⟨mp, kk, rfl, h⟩ := asMap_ok h
    obtain ⟨e0, h⟩ := chk_ok h
    obtain rfl := Nat.eq_of_beq_eq_true e0
    exact sorted_dict0 h e hP.ok
  rw [if_neg e] at h
  exact False.elim h
theorem wListL_ok {z : Z} {v : V} (h : lstOf σ v fun us => us.length ≤ 2 ^ 24 ∧ Q (.lst us) σ) : OL z VR [v] (fun xs => call (.type "list") xs) σ Q := by
  obtain ⟨us, h1, h2, h⟩ := lstOf_isL h
  exact list_call h h1 h2
set_option tactic.hygienic true in
theorem wListC_ok {z : Z} {n : Nat} (hz : z.Ok n) {v : V} (h : wListC v Q σ) : OL z VR [v] (fun xs => call (.type "list") xs) σ Q := by
  cases v
  case rng j => exact list_range h.2.2 h.1 h.2.1 hz
  all_goals exact wListL_ok h
theorem wTy_ok {id : String} {vs : List V} (hP : POk P) (h : wTy id vs Q σ) : OL P.z VR vs (fun xs => call (.type id) xs) σ Q := by
  unfold wTy at h
  by_cases e : id = "list"
  · rw [if_pos e] at h; subst e
    obtain ⟨v, rfl, h'⟩ := one_ok h
    exact wListC_ok hP.ok h'
  rw [if_neg e] at h
  by_cases e : id = "range"
  · rw [if_pos e] at h; subst e
    obtain ⟨a, rfl, h⟩ := one_ok h
    obtain ⟨i, rfl, h⟩ := asInt_ok h
    exact range_call h
  rw [if_neg e] at h
  exact False.elim h
end
end Mine
end

section
open PySem PySem.W PySem.Calls PyProof.Rows PySem.SeqAt
set_option Elab.async false
set_option linter.unusedVariables false
set_option autoImplicit true
set_option maxRecDepth 100000
set_option tactic.hygienic false
namespace Mine

set_option tactic.hygienic true in
theorem mcall_eq {o : Expr} {name : Str} {apos pos : Pos} {args : List Expr} {env : Env} (h1 : attrBase o = true) (h2 : apos.endLine = pos.line) (h3 : args.length < 30) (h4 : noStars args = true) :
    eval (.Call (.Attribute o name apos) args [] pos) env = (do
      let ov ← eval o env
      standAt apos.atName
      let (f, first) ← holding [ov] (getMethod ov name (do return (← importBound o env).getD true))
      callWith pos f first (backTo pos (starEach args env)) []) := by
  have e1 : attributeBase o name env (eval o env) = eval o env := by
    cases o <;> first | rfl | cases h1 | skip
    rename_i f a k p
    cases f <;> first | rfl | cases h1
  have hm : methodCallForm (args.length + ([] : List Keyword).length) (backTo pos (starEach args env)) (backToKw pos (keywordEach [] env)) = true := by
    unfold methodCallForm
    rw [noStars_all h4]
    rw [show keywordEach [] env = [] from rfl]
    simp [backToKw]
    exact h3
  show (do
    let ov ← attributeBase o name env (eval o env)
    standAt apos.atName
    methodCall o name apos pos env ov (args.length + ([] : List Keyword).length) (backTo pos (starEach args env)) (backToKw pos (keywordEach [] env))) = _
  rw [e1]
  unfold methodCall
  rw [hm]
  have hp : methodCallPos true o env apos pos = pure pos := by
    unfold methodCallPos
    rw [if_pos (by simp [h2])]
  rw [hp]
  rfl

section
variable {P : Par} {R : Par → W3} {σ : St} {Q : V → St → Prop} {QB : Bool → St → Prop} {QF : Fl → St → Prop} {QS : St → Prop} {QL : List V → St → Prop} {pos : Pos} {x : Str}

theorem wAnd_ok (hR : Snd R) (hP : POk P) {op : BoolOp} : ∀ {es : List Expr} {Q : V → St → Prop} {σ : St}, wAnd (R P) pos op es Q σ → EX P.z VR (eval (.BoolOp op es pos) P.z.env) σ Q
  | [], _, _, h => False.elim h
  | [e], Q, σ, h => R_bool1 (hR.E P hP _ _ _ h)
  | e :: e2 :: es, Q, σ, h => by
    have h : (R P).E e (fun v σ1 => wTruth v (fun c σ2 => opB op c (wAnd (R P) pos op (e2 :: es) Q σ2) (Q v σ2) (Q v σ2)) σ1) σ := h
    induction op
    · refine R_and ((hR.E P hP _ _ _ h).imp fun v σ1 h1 => ?_)
      have := wTruth_ok (z := P.z) h1
      exact fun W s x r p => seq1 .rfl' this r p fun W' b σ' v s' l rb p' q => there l rb p' (by
        induction b
        · exact q
        · exact wAnd_ok hR hP q)
    · refine R_or ((hR.E P hP _ _ _ h).imp fun v σ1 h1 => ?_)
      have := wTruth_ok (z := P.z) h1
      exact fun W s x r p => seq1 .rfl' this r p fun W' b σ' v s' l rb p' q => there l rb p' (by
        induction b
        · exact wAnd_ok hR hP q
        · exact q)
theorem wAllT_ok (hR : Snd R) (hP : POk P) {op : BoolOp} {whole : Sem Value} : ∀ {es : List Expr} {Q : Bool → St → Prop} {σ : St}, wAllT (R P) op es Q σ → EX P.z RB (isTrue (.BoolOp op es pos) P.z.env whole) σ Q
  | [], Q, σ, h => by
    induction op
    · exact T_and_nil h
    · exact T_or_nil h
  | e :: es, Q, σ, h => by
    have h : (R P).T e (fun c σ1 => opB op c (wAllT (R P) op es Q σ1) (Q false σ1) (Q true σ1)) σ := h
    induction op
    · refine T_and ((hR.T P hP _ _ _ h).imp fun b σ1 h1 => ?_)
      induction b
      · exact h1
      · exact wAllT_ok hR hP h1
    · refine T_or ((hR.T P hP _ _ _ h).imp fun b σ1 h1 => ?_)
      induction b
      · exact wAllT_ok hR hP h1
      · exact h1

theorem CW_def (hR : Snd R) (hP : POk P) {fa : Addr} {first : List V} {args : List Expr} (h : wArgs (R P) args (fun vs σ1 => wCall P fa (first ++ vs) Q σ1) σ) (hk : keepIn P.z.c.K (.ref fa) = true) : CW P.z (.con (.ref fa)) first args pos σ Q := by
  have h0 := wArgs_split h
  induction args with
  | nil => exact CW_fn0 (wCall_ok hP h0.2) hk
  | cons a args =>
    have hn := noStars_star (env := P.z.env) h0.1
    exact CW_fn ((wArgs0_ok hR hP h0.1 h0.2).imp fun vs σ1 h1 => wCall_ok hP h1) hk hn.1 (noStars_any hn.2)
theorem CW_bin (hR : Snd R) (hP : POk P) {id : String} {first : List V} {args : List Expr} {K : List V → St → Prop} (h : wArgs (R P) args K σ) (hk : ∀ vs σ1, K vs σ1 → OL P.z VR (first ++ vs) (fun xs => call (.builtin id) xs) σ1 Q) : CW P.z (.con (.builtin id)) first args pos σ Q := by
  have h0 := wArgs_split h
  induction args with
  | nil =>
    have := hk _ _ h0.2
    rw [List.append_nil] at this
    exact CW_bi0 this
  | cons a args =>
    have hn := noStars_star (env := P.z.env) h0.1
    exact CW_bi ((wArgs0_ok hR hP h0.1 h0.2).imp fun vs σ1 h1 => hk _ _ h1) hn.1 (noStars_any hn.2)
theorem onList_ok {k : Nat} {K : List V → Prop} (h : onList σ k K) : ∃ us, σ.o k = some (.list us) ∧ K us := by
  obtain ⟨y, e, h⟩ := optB_ok h
  refine hideG fun R_ k_ => ?_
  obtain ⟨us, rfl, h'⟩ := asList_ok h
  refine k_ ?_
  clear k_
  exact ⟨us, e, h'⟩
theorem onMap_ok {k : Nat} {K : (Int → Option V) → Nat → Prop} (h : onMap σ k K) : ∃ mp kk, σ.o k = some (.imap mp kk) ∧ K mp kk := by
  obtain ⟨y, e, h⟩ := optB_ok h
  refine hideG fun R_ k_ => ?_
  obtain ⟨mp, kk, rfl, h'⟩ := asMap_ok h
  refine k_ ?_
  clear k_
  exact ⟨mp, kk, e, h'⟩
theorem wApp_ok {z : Z} {k : Nat} {us vs : List V} (e : σ.o k = some (.list us)) (h : wApp k us vs Q σ) : OL z VR (.ref k :: vs) (fun xs => call (.builtin "list.append") xs) σ Q := by
  obtain ⟨v, rfl, h⟩ := one_ok h
  exact append_call (h.2 _ rfl) e h.1
theorem wPopL_ok {z : Z} {k : Nat} {us vs : List V} (e : σ.o k = some (.list us)) (h : wPopL k us vs Q σ) : OL z VR (.ref k :: vs) (fun xs => call (.builtin "list.pop") xs) σ Q := by
  cases vs with
  | nil =>
    obtain ⟨h2, v, hv, h1⟩ := h
    exact pop_last (h1 _ rfl) e hv h2
  | cons v r =>
    obtain ⟨rfl, h⟩ := nilB_ok h
    obtain ⟨i, rfl, h⟩ := asInt_ok h
    obtain ⟨e0, h⟩ := chk_ok h
    obtain rfl := of_decide_eq_true e0
    refine hideG fun R_ k_ => ?_
    obtain ⟨h2, v, hv, h1⟩ := h
    refine k_ ?_
    clear k_
    exact pop_first (h1 _ rfl) e hv h2
theorem wGetD_ok {z : Z} {k : Nat} {mp : Int → Option V} {kk : Nat} {vs : List V} (e : σ.o k = some (.imap mp kk)) (h : wGetD k mp kk vs Q σ) : OL z VR (.ref k :: vs) (fun xs => call (.builtin "dict.get") xs) σ Q := by
  obtain ⟨a, d, rfl, h⟩ := two_ok h
  obtain ⟨i, rfl, h⟩ := asInt_ok h
  exact get_call h e
theorem wPopD_ok {z : Z} {k : Nat} {mp : Int → Option V} {kk : Nat} {vs : List V} (e : σ.o k = some (.imap mp kk)) (h : wPopD k mp kk vs Q σ) : OL z VR (.ref k :: vs) (fun xs => call (.builtin "dict.pop") xs) σ Q := by
  obtain ⟨a, rfl, h⟩ := one_ok h
  obtain ⟨i, rfl, h⟩ := asInt_ok h
  obtain ⟨h2, v, hv, h1⟩ := h
  exact pop_dict (h1 _ rfl) e hv h2
set_option tactic.hygienic true in
theorem wMethR_ok (hR : Snd R) (hP : POk P) {k : Nat} {y : MO} {name : Str} {args : List Expr} {pl : Sem Bool} (e : σ.o k = some y) (h : wMethR (R P) y k name args Q σ) : GM P.z (.ref k) name pl args pos σ Q := by
  induction y <;> try exact False.elim h
  · rename_i vs
    have h : brB (name == "append") (wArgs (R P) args (fun vs σ1 => onList σ1 k fun us => wApp k us vs Q σ1) σ)
      (chk (name == "pop") (wArgs (R P) args (fun vs σ1 => onList σ1 k fun us => wPopL k us vs Q σ1) σ)) := h
    cases q : name == "append" with
    | true =>
      rw [q] at h
      have en : name = "append" := by simpa using q
      subst en
      exact GM_list (CW_bin hR hP h fun vs σ1 h1 => by obtain ⟨us, e1, h1⟩ := onList_ok h1; exact wApp_ok e1 h1) e F.slot_list_append F.type_list_append
    | false =>
      rw [q] at h
      obtain ⟨en, h'⟩ := chk_ok h
      have en : name = "pop" := by simpa using en
      subst en
      exact GM_list (CW_bin hR hP h' fun vs σ1 h1 => by obtain ⟨us, e1, h1⟩ := onList_ok h1; exact wPopL_ok e1 h1) e F.slot_list_pop F.type_list_pop
  · rename_i mp kk
    have h : brB (name == "get") (wArgs (R P) args (fun vs σ1 => onMap σ1 k fun mp kk => wGetD k mp kk vs Q σ1) σ)
      (chk (name == "pop") (wArgs (R P) args (fun vs σ1 => onMap σ1 k fun mp kk => wPopD k mp kk vs Q σ1) σ)) := h
    cases q : name == "get" with
    | true =>
      rw [q] at h
      have en : name = "get" := by simpa using q
      subst en
      exact GM_imap (CW_bin hR hP h fun vs σ1 h1 => by obtain ⟨mp, kk, e1, h1⟩ := onMap_ok h1; exact wGetD_ok e1 h1) e F.slot_dict_get F.type_dict_get
    | false =>
      rw [q] at h
      obtain ⟨en, h'⟩ := chk_ok h
      have en : name = "pop" := by simpa using en
      subst en
      exact GM_imap (CW_bin hR hP h' fun vs σ1 h1 => by obtain ⟨mp, kk, e1, h1⟩ := onMap_ok h1; exact wPopD_ok e1 h1) e F.slot_dict_pop F.type_dict_pop
theorem wMeth_ok (hR : Snd R) (hP : POk P) {ov : V} {name : Str} {args : List Expr} {pl : Sem Bool} (h : wMeth P (R P) ov name args Q σ) : GM P.z ov name pl args pos σ Q := by
  cases ov <;> try exact False.elim h
  · obtain ⟨l, el, h⟩ := optB_ok h
    obtain ⟨fa, ef, h⟩ := optB_ok h
    obtain ⟨y, e, h⟩ := optB_ok h
    obtain ⟨f, rfl, h'⟩ := asNs_ok h
    obtain ⟨e2, h'⟩ := nonB_ok h'
    have hc := hP.sig.cls _ _ el
    exact GM_ins (CW_def hR hP h' (hc.2 _ _ ef).2.2) e e2 hc.1 (hc.2 _ _ ef).1 (hc.2 _ _ ef).2.1
  · obtain ⟨y, e, h⟩ := optB_ok h
    exact wMethR_ok hR hP e h
end
end Mine
end

section
open PySem PySem.W PySem.Calls PyProof.Rows PySem.SeqAt
set_option Elab.async false
set_option linter.unusedVariables false
set_option autoImplicit true
set_option maxRecDepth 100000
set_option tactic.hygienic false
namespace Mine

set_option tactic.hygienic true in
theorem lookup_mem {α : Type} {x : Str} {v : α} : ∀ {l : List (Str × α)}, l.lookup x = some v → (x, v) ∈ l
  | [], h => by cases h
  | (y, w) :: r, h => by
    rw [List.lookup_cons] at h
    split at h
    · rename_i e
      have e : x = y := by simpa using e
      subst e; cases h; exact .head _
    · exact .tail _ (lookup_mem h)

structure CompOk (scope : Scope) : Prop where
  free : ∀ x ∈ scope.names, x.2 ≠ .free
  cell : ∀ x ∈ scope.names, x.2 ≠ .cell
  kind : scope.kind = .function
  names : ∀ x ∈ scope.names, x.2 = .local → scope.names.lookup x.1 = some .local
  words : ∀ x ∈ scope.names, x.1 ≠ "__debug__" ∧ x.1 ≠ "__classdict__"
theorem compOk_ok {scope : Scope} {x : Str} (h : compOk scope x = true) : CompOk scope ∧ scope.names.lookup x = some .local := by
  unfold compOk at h
  rw [Bool.and_eq_true, Bool.and_eq_true, List.all_eq_true] at h
  obtain ⟨⟨h1, h2⟩, h3⟩ := h
  have q : ∀ p ∈ scope.names, p.2 ≠ .free ∧ p.2 ≠ .cell ∧ (p.2 ≠ .local ∨ scope.names.lookup p.1 = some .local) ∧ p.1 ≠ "__debug__" ∧ p.1 ≠ "__classdict__" := fun p hp => by
    have := h1 p hp
    simp only [Bool.and_eq_true, Bool.or_eq_true, decide_eq_true_eq] at this
    exact ⟨this.1.1.1.1, this.1.1.1.2, this.1.1.2, this.1.2, this.2⟩
  refine ⟨⟨fun p hp => (q p hp).1, fun p hp => (q p hp).2.1, by simpa using h2, fun p hp e => ?_, fun p hp => (q p hp).2.2.2⟩, of_decide_eq_true h3⟩
  rcases (q p hp).2.2.1 with h | h
  · exact absurd e h
  · exact h

theorem compOk0_ok {scope : Scope} (h : compOk0 scope = true) : (∀ x ∈ scope.names, x.2 ≠ .cell) ∧ scope.kind = .function ∧ ∀ x ∈ scope.names, x.2 = .local → scope.names.lookup x.1 = some .local := by
  unfold compOk0 at h
  rw [Bool.and_eq_true, List.all_eq_true] at h
  obtain ⟨h1, h2⟩ := h
  have q : ∀ p ∈ scope.names, p.2 ≠ .cell ∧ (p.2 ≠ .local ∨ scope.names.lookup p.1 = some .local) := fun p hp => by
    have := h1 p hp
    simp only [Bool.and_eq_true, Bool.or_eq_true, decide_eq_true_eq] at this
    exact this
  refine ⟨fun p hp => (q p hp).1, by simpa using h2, fun p hp e => ?_⟩
  rcases (q p hp).2 with h | h
  · exact absurd e h
  · exact h

section
variable {P : Par} {R : Par → W3} {σ : St} {Q : V → St → Prop} {QB : Bool → St → Prop} {QF : Fl → St → Prop} {QS : St → Prop} {QL : List V → St → Prop} {pos : Pos} {x : Str}

theorem inner_ok (hP : POk P) {scope : Scope} (hs : CompOk scope) (C : Addr) : POk (innerP P scope C) where
  ok := ⟨hs.kind, hP.ok.glob, hP.ok.blt, hP.ok.hd, hP.ok.dep, hP.ok.uni⟩
  own := fun W => .never
  call := fun h => by cases h
  sig := hP.sig
  glob := hP.glob
  err := fun _ _ _ _ _ _ h => h.elim
  names := fun x k h => by
    have := hs.words _ (lookup_mem h)
    exact ⟨by simpa using this.1, by simpa using this.2⟩
  inter := by
    show (scope.kind == .module && _) = false
    rw [hs.kind]; rfl

theorem wElts_ok (hR : Snd R) (hP : POk P) {scope : Scope} (hs : CompOk scope) {x : Str} {c : Option Expr} {elt : Expr} {f : V → V} {pr : V → Bool} {vs : List V} (h : wElts R P scope x c elt f pr vs σ) :
    (∀ C v, v ∈ vs → CondOk P.z scope x c pr σ C v) ∧ (∀ C v, v ∈ vs → pr v = true → EltOk P.z scope x elt f σ C v) := by
  refine ⟨fun C v hv => ?_, fun C v hv hp => hR.E _ (inner_ok hP hs C) _ _ _ (h.2 C v hv hp)⟩
  have := h.1 C v hv
  induction c with
  | none => exact this
  | some c => exact hR.T _ (inner_ok hP hs C) _ _ _ this

theorem wPart_ok (hR : Snd R) (hP : POk P) {e : Option Expr} (h : wPart (R P) e Q σ) : EP P.z e σ Q := by
  induction e with
  | none => exact EP_none h
  | some e => exact EP_some (hR.E P hP _ _ _ h)
theorem EP.imp {z : Z} {e : Option Expr} {Q' : V → St → Prop} (h : EP z e σ Q) (k : ∀ b σ', Q b σ' → Q' b σ') : EP z e σ Q' := EX.imp h k

theorem comp_or {z : Z} {n : Nat} {elt iter : Expr} {x : Str} {px : Pos} {c : Option Expr} {scope : Scope} {W : Wd} {s : Shared} (p : z.pre W σ s) (hz : z.Ok n)
    (hfree : ∀ x ∈ scope.names, x.2 ≠ .free) (hcell : ∀ x ∈ scope.names, x.2 ≠ .cell) (hkind : scope.kind = .function) (hnames : ∀ x ∈ scope.names, x.2 = .local → scope.names.lookup x.1 = some .local) (hx : scope.names.lookup x = some .local)
    (h : EX z VR (eval iter z.env) σ fun v σ1 => ∃ vs f pr, isL σ1 v vs ∧ vs.length ≤ 2 ^ 24 ∧ (∀ C v, v ∈ vs → CondOk z scope x c pr σ1 C v) ∧ (∀ C v, v ∈ vs → pr v = true → EltOk z scope x elt f σ1 C v) ∧
      (Q (.lst ((vs.filter pr).map f)) σ1 ∨ new σ1 (.list ((vs.filter pr).map f)) Q))
    (hs : ∀ x, foldedSetIterable iter z.env x = pure x) : wpAny (model z.c.prog z.c.w) z.A (eval (.ListComp elt [⟨.Name x px, iter, ifsOf c, 0⟩] scope pos) z.env) (z.post VR Q W) (z.XE.p W) s := by
  refine comp_core p hz hfree hcell hkind hnames hx (h.imp fun v σ1 hq_ => ?_) hs
  refine hideG fun R_ k_ => ?_
  obtain ⟨vs, f, pr, a, b, c, d, q⟩ := hq_
  refine k_ ⟨vs, f, pr, a, b, c, d, fun W' D xs m s' l p' fD LD hn eD rv => ?_⟩
  clear k_
  rcases q with q | q
  · obtain ⟨p2, l', e⟩ := p'.frozen fD LD eD
    exact there (l.trans l') (VRs.lst e (rv.mono l')) p2 q
  · have l0 := Wd.le_addR (W := W') (a := D) (p'.g.fresh σ1.nx (Nat.le_refl _))
    obtain ⟨p2, l', e⟩ := p'.adopted fD LD hn (y := .list ((vs.filter pr).map f)) ⟨xs, m, eD, rv.mono l0⟩
    exact there (l.trans l') (.ref e) p2 (q _ rfl)
theorem wCompare_ok (hR : Snd R) (hP : POk P) {l : Expr} {ops : List CmpOp} {rs : List Expr} (h : wCompare R P l ops rs Q σ) : EX P.z VR (eval (.Compare l ops rs pos) P.z.env) σ Q := by
  obtain ⟨op, rfl, h1⟩ := one_ok h
  obtain ⟨r, rfl, h2⟩ := one_ok h1
  obtain ⟨h0, h⟩ := chk_ok h2
  exact R_cmp ((hR.E P hP _ _ _ h).imp fun a σ1 h1 => (hR.E P hP _ _ _ h1).imp fun b σ2 h2 => wCmp_ok hP.ok h2) (noSet_marks h0)
theorem wSlice_ok (hR : Snd R) (hP : POk P) {v : Expr} {lo hi : Option Expr} {p' : Pos} (h : (R P).E v (fun ov σ1 => wPart (R P) lo (fun l σ2 => wPart (R P) hi (fun u σ3 => wSlice ov l u Q σ3) σ2) σ1) σ) : EX P.z VR (eval (.Subscript v (.Slice lo hi none p') pos) P.z.env) σ Q := by
  have key : EX P.z VR (eval v P.z.env) σ fun o σ1 => EP P.z lo σ1 fun l σ2 => EP P.z hi σ2 fun u σ3 => wSlice o l u Q σ3 :=
    (hR.E P hP _ _ _ h).imp fun o σ1 h1 => (wPart_ok hR hP h1).imp fun l σ2 h2 => (wPart_ok hR hP h2).imp fun u σ3 h3 => h3
  refine fun W s p => slice_core p (key.imp fun o σ1 h1 => h1.imp fun l σ2 h2 => h2.imp fun u σ3 h3 => ?_) fun a b => rfl
  obtain ⟨pl, e1, h3⟩ := optB_ok h3
  obtain ⟨pu, e2, h3⟩ := optB_ok h3
  obtain ⟨vs, hl, hlen, h3⟩ := lstOf_isL h3
  refine ⟨vs, pl, pu, hl, hlen, e1, e2, fun W3 s3 xs l3 p3 r3 => ?_⟩
  rcases h3 with h3 | h3
  · obtain ⟨p', l, e⟩ := p3.newF (lstO xs 0) (toks := s3.toks) (dr := s3.drawn)
    exact there (l3.trans l) (VRs.lst e (r3.mono l)) p' h3
  · have l0 := Wd.le_addR (W := W3) (a := s3.heap.objs.size) (p3.g.fresh σ3.nx (Nat.le_refl _))
    obtain ⟨p', l, e⟩ := p3.newM (x := lstO xs 0) rfl (toks := s3.toks) (dr := s3.drawn) (y := .list (pickV vs pl pu)) ⟨_, 0, Heap.get?_push_size _ rfl, r3.mono l0⟩
    exact there (l3.trans l) (.ref e) p' (h3 _ rfl)
theorem wItems_ok (hR : Snd R) (hP : POk P) {v i : Expr} (hn : noSlice i = true) (h : (R P).E v (fun ov σ1 => (R P).E i (fun iv σ2 => wItem ov iv Q σ2) σ1) σ) : EX P.z VR (eval (.Subscript v i pos) P.z.env) σ Q :=
  R_item ((hR.E P hP _ _ _ h).imp fun ov σ1 h1 => (hR.E P hP _ _ _ h1).imp fun iv σ2 h2 => wItem_ok hn h2)
set_option tactic.hygienic true in
theorem wSubs_ok (hR : Snd R) (hP : POk P) {v i : Expr} (h : wSubs R P v i Q σ) : EX P.z VR (eval (.Subscript v i pos) P.z.env) σ Q := by
  cases i
  case Slice lo hi st p =>
    obtain ⟨rfl, h⟩ := nonB_ok h
    exact wSlice_ok hR hP h
  all_goals exact wItems_ok hR hP rfl h
theorem wTyC_ok (hR : Snd R) (hP : POk P) {id : String} {args : List Expr} (h : chkN args.isEmpty (wArgs (R P) args (fun vs σ2 => wTy id vs Q σ2) σ)) : CW P.z (.con (.type id)) [] args pos σ Q := by
  obtain ⟨hne, h1⟩ := chkN_ok h
  have h0 := wArgs_split h1
  induction args with
  | nil => cases hne
  | cons a args =>
    have hn := noStars_star (env := P.z.env) h0.1
    exact fun W s x xs r rs p => by
      obtain rfl := r.inv
      obtain rfl := rs.nil_inv
      exact callWith_type1 (seq .rfl' (wArgs0_ok hR hP h0.1 h0.2) p fun W1 vs σ2 ys s1 l1 ra p1 q1 => fin l1 (wTy_ok hP q1 W1 s1 _ ra p1)) hn.1 (noStars_any hn.2)
set_option tactic.hygienic true in
theorem wCallN_ok (hR : Snd R) (hP : POk P) {c : Value} {args : List Expr} (h : wCallN R P (.con c) args Q σ) : CW P.z (.con c) [] args pos σ Q := by
  induction c <;> try exact False.elim h
  case ref fa => exact CW_def (first := []) hR hP (chk_ok h).2 (hP.sig.fns _ (chk_ok h).1)
  case builtin id => exact CW_bin (first := []) hR hP h fun vs σ1 h2 => wBi_ok hP h2
  case type id => exact wTyC_ok hR hP h
set_option tactic.hygienic true in
theorem wCallE_ok (hR : Snd R) (hP : POk P) {f : Expr} {args : List Expr} {kw : List Keyword} (h : wCallE R P f args kw pos Q σ) : EX P.z VR (eval (.Call f args kw pos) P.z.env) σ Q := by
  induction kw with
  | cons k ks => exact h hP.okz
  | nil =>
    cases f
    case Attribute o name apos =>
      obtain ⟨h1, h⟩ := chk_ok h
      unfold mcOk at h1
      rw [Bool.and_eq_true, Bool.and_eq_true, Bool.and_eq_true] at h1
      refine hideG fun R_ k_ => ?_
      obtain ⟨⟨⟨a1, a2⟩, a3⟩, a4⟩ := h1
      refine k_ ?_
      clear k_
      exact R_mcall ((hR.E P hP _ _ _ h).imp fun ov σ1 h1 => wMeth_ok hR hP h1) (mcall_eq a1 (by simpa using a2) (by simpa using a3) a4)
    case Name f p =>
      have h : wName P f (fun fv σ1 => wCallV R P fv args pos Q σ1) σ := h
      refine R_call ((wName_ok hP h).imp fun fv σ1 h1 => ?_) rfl
      cases fv
      case con c => exact wCallN_ok hR hP h1
      all_goals exact h1 hP.okz
    all_goals exact h hP.okz
theorem wCompE_ok (hR : Snd R) (hP : POk P) {elt : Expr} {gens : List Comprehension} {scope : Scope} (h : wCompE R P elt gens scope Q σ) : EX P.z VR (eval (.ListComp elt gens scope pos) P.z.env) σ Q := by
  refine hideG fun R_ k_ => ?_
  obtain ⟨t, iter, ifs, rfl, hs, h⟩ := oneGen_ok h
  refine k_ ?_
  clear k_
  obtain ⟨y, py, rfl, h⟩ := (asName_ok h).resolve_right id
  obtain ⟨h2, h⟩ := chk_ok h
  obtain ⟨c1, c2⟩ := compOk_ok h2
  obtain ⟨c, rfl, h3⟩ := condOf_ok h
  have key := hR.E P hP _ _ _ h3
  refine fun W s p => wpAny_mono (comp_or (n := P.n) p hP.ok c1.free c1.cell c1.kind c1.names c2 (key.imp fun v σ1 h1 => ?_) (noSet_iter hs)) (fun _ _ x => x) fun _ _ x => x
  refine hideG fun R_ k_ => ?_
  obtain ⟨vs, hl, hlen, f, pr, he, h2⟩ := lstOf_isL h1
  obtain ⟨e1, e2⟩ := wElts_ok hR hP c1 he
  refine k_ ?_
  clear k_
  exact ⟨vs, f, pr, hl, hlen, e1, e2, h2⟩
set_option tactic.hygienic true in
theorem wConst_ok (hP : POk P) {c : Const} {k : Nat} (h : wConst P c k pos Q σ) : EX P.z VR (eval (.Constant c k pos) P.z.env) σ Q := by
  induction c
  case int i => exact R_int h
  case str i => exact R_str h
  case bool i => exact R_bool h
  case none => exact R_none h
  all_goals exact h hP.okz
set_option tactic.hygienic true in
theorem wUnary_ok (hR : Snd R) (hP : POk P) {op : UnaryOp} {e : Expr} (h : wUnary R P op e pos Q σ) : EX P.z VR (eval (.UnaryOp op e pos) P.z.env) σ Q := by
  induction op
  case Not => exact R_not ((hR.E P hP _ _ _ h).imp fun a σ1 h1 => wTruth_ok h1)
  case USub => exact R_neg ((hR.E P hP _ _ _ h).imp fun a σ1 h1 => asInt_ok h1)
  all_goals exact h hP.okz
theorem wDict_ok (hP : POk P) {ks : List (Option Expr)} {vs : List Expr} (h : wDict P ks vs pos Q σ) : EX P.z VR (eval (.Dict ks vs pos) P.z.env) σ Q := by
  induction ks with
  | cons => exact h hP.okz
  | nil =>
    induction vs with
    | cons => exact h hP.okz
    | nil => exact R_dict0 (h _ rfl)
theorem wListE_ok (hR : Snd R) (hP : POk P) {es : List Expr} (h : wArgs (R P) es (fun vs σ1 => vs.length ≤ 2 ^ 24 ∧ (Q (.lst vs) σ1 ∨ new σ1 (.list vs) Q)) σ) : EX P.z VR (eval (.List es pos) P.z.env) σ Q :=
  fun W s p => List_ (seq .rfl' (wArgs_ok hR hP h) p fun W1 vs σ1 xs s1 l1 ra p1 q1 => by
      refine wpAny_newObj_type ?_ (by show xs.toArray.size ≤ sizeLine; rw [List.size_toArray, ← ra.1, sizeLine_eq]; exact q1.1)
      rcases q1.2 with q | q
      · obtain ⟨p', l, e⟩ := p1.newF (lstO xs 0) (toks := s1.toks) (dr := s1.drawn)
        exact there (l1.trans l) (VRs.lst e (ra.mono l)) p' q
      · have l0 := Wd.le_addR (W := W1) (a := s1.heap.objs.size) (p1.g.fresh σ1.nx (Nat.le_refl _))
        obtain ⟨p', l, e⟩ := p1.newM (x := lstO xs 0) rfl (toks := s1.toks) (dr := s1.drawn) (y := .list vs) ⟨_, 0, Heap.get?_push_size _ rfl, ra.mono l0⟩
        exact there (l1.trans l) (.ref e) p' (q _ rfl))
set_option tactic.hygienic true in
theorem stepE_ok (hR : Snd R) (hP : POk P) {e : Expr} (h : stepE R P e Q σ) : EX P.z VR (eval e P.z.env) σ Q := by
  cases e
  case Constant c k p => exact wConst_ok hP h
  case Name x p => exact wName_ok hP h
  case BinOp l op r p => exact R_bin ((hR.E P hP _ _ _ h).imp fun a σ1 h1 => (hR.E P hP _ _ _ h1).imp fun b σ2 h2 => wBin_ok h2)
  case Compare l ops rs p => exact wCompare_ok hR hP h
  case UnaryOp op e p => exact wUnary_ok hR hP h
  case BoolOp op es p => exact wAnd_ok hR hP h
  case IfExp t b o p => exact R_ife ((hR.T P hP _ _ _ h).imp fun c σ1 h1 => by
      induction c
      · exact hR.E P hP _ _ _ h1
      · exact hR.E P hP _ _ _ h1)
  case Attribute o a p => exact R_attr ((hR.E P hP _ _ _ (chk_ok h).2).imp fun ov σ1 h1 => wGet_ok hP h1) (attrBase_eq (chk_ok h).1)
  case Subscript v i p => exact wSubs_ok hR hP h
  case Call f args kw p => exact wCallE_ok hR hP h
  case List es p => exact wListE_ok hR hP h
  case Tuple es k p => exact R_tuple ((wArgs_ok hR hP h).imp fun vs σ1 h1 => h1)
  case Dict ks vs p => exact wDict_ok hP h
  case ListComp elt gens scope p => exact wCompE_ok hR hP h
  all_goals exact h hP.okz
end
end Mine
end

section
open PySem PySem.W PySem.Calls PyProof.Rows PySem.SeqAt
set_option Elab.async false
set_option linter.unusedVariables false
set_option autoImplicit true
set_option maxRecDepth 100000
set_option tactic.hygienic false
namespace Mine

section
variable {P : Par} {R : Par → W3} {σ : St} {Q : V → St → Prop} {QB : Bool → St → Prop} {QF : Fl → St → Prop} {QS : St → Prop} {QL : List V → St → Prop} {pos : Pos} {x : Str}

theorem O2.imp {α β : Type} {z : Z} {R : Wd → β → α → Prop} {a b : V} {t : Value → Value → Sem α} {K K' : β → St → Prop} (h : O2 z R a b t σ K) (k : ∀ b σ', K b σ' → K' b σ') : O2 z R a b t σ K' := fun W s x y ra rb p =>
  seq2 .rfl' h ra rb p fun W' b σ' v s' l r p' q => there l r p' (k _ _ q)
theorem wPlain_ok (hR : Snd R) (hP : POk P) {e : Expr} (h : wPlain R P e QB σ) (he : isTrue e P.z.env (eval e P.z.env) = (do let v ← eval e P.z.env; standAt e.pos; holding [v] (truthy v))) : EX P.z RB (isTrue e P.z.env (eval e P.z.env)) σ QB :=
  T_plain ((hR.E P hP _ _ _ h).imp fun v σ1 h1 => wTruth_ok h1) he
set_option tactic.hygienic true in
theorem stepT_ok (hR : Snd R) (hP : POk P) {e : Expr} (h : stepT R P e QB σ) : EX P.z RB (isTrue e P.z.env (eval e P.z.env)) σ QB := by
  cases e <;> try exact False.elim h
  case Compare l ops rs p =>
    obtain ⟨op, rfl, h1⟩ := one_ok h
    obtain ⟨r, rfl, h2⟩ := one_ok h1
    obtain ⟨h0, h3⟩ := chk_ok h2
    exact T_cmp ((hR.E P hP _ _ _ h3).imp fun a σ1 h1 => (hR.E P hP _ _ _ h1).imp fun b σ2 h2 => ((wCmp_ok hP.ok h2).imp fun c σ3 h3 => wTruth_ok h3)) (noSet_marks h0)
  case UnaryOp op e p =>
    induction op <;> try exact False.elim h
    exact T_not (hR.T P hP _ _ _ h)
  case BoolOp op es p => exact wAllT_ok hR hP h
  case Name x p => exact T_plain ((wName_ok hP h).imp fun v σ1 h1 => wTruth_ok h1) rfl
  all_goals exact wPlain_ok hR hP h rfl

theorem wBind_ok (hP : POk P) {v : V} (h : wBind P x v QS σ) : SB P.z x v σ QS := by
  obtain ⟨k, e, h⟩ := optB_ok h
  induction k <;> try exact False.elim h
  · exact SB_local h hP.ok e
  · obtain ⟨k, e2, h⟩ := optB_ok h
    obtain ⟨y, e3, h⟩ := optB_ok h
    obtain ⟨w, rfl, h'⟩ := asCell_ok h
    exact SB_cell (h' _ rfl) e3 hP.ok e2 e
theorem SB.imp {z : Z} {v : V} {QS' : St → Prop} (h : SB z x v σ QS) (k : ∀ σ', QS σ' → QS' σ') : SB z x v σ QS' := fun W s u r p =>
  seq1 .rfl' h r p fun W' b σ' v s' l r' p' q => there l r' p' (k _ q)
theorem wBinds_ok (hP : POk P) : ∀ {xs : List Str} {vs : List V} {σ : St}, wBinds P xs vs QS σ → SBs P.z xs vs σ QS
  | [], [], _, h => h
  | x :: xs, v :: vs, σ, h => (wBind_ok (x := x) hP h).imp fun σ' h' => wBinds_ok hP h'
  | [], _ :: _, _, h => False.elim h
  | _ :: _, [], _, h => False.elim h
theorem wStores_ok (hP : POk P) : ∀ {ts : List Expr} {vs : List V} {σ : St}, wStores P ts vs QS σ → STs P.z ts vs σ QS
  | [], [], _, h => h
  | [], _ :: _, _, h => False.elim h
  | t :: ts, [], _, h => False.elim h
  | t :: ts, v :: vs, σ, h => by
    have h : asName t (fun x _ => wBind P x v (wStores P ts vs QS) σ) False := h
    obtain ⟨x, px, rfl, h⟩ := (asName_ok h).resolve_right id
    exact ST_name ((wBind_ok hP h).imp fun σ' h' => wStores_ok hP h')
theorem SBs.imp {z : Z} {QS' : St → Prop} : ∀ {xs : List Str} {vs : List V} {σ : St}, SBs z xs vs σ QS → (∀ σ', QS σ' → QS' σ') → SBs z xs vs σ QS'
  | [], [], _, h, k => k _ h
  | x :: xs, v :: vs, σ, h, k => SB.imp h fun σ' h' => SBs.imp h' k
  | [], _ :: _, _, h, _ => h.elim
  | _ :: _, [], _, h, _ => h.elim
theorem STs.imp {z : Z} {QS' : St → Prop} : ∀ {xs : List Expr} {vs : List V} {σ : St}, STs z xs vs σ QS → (∀ σ', QS σ' → QS' σ') → STs z xs vs σ QS'
  | [], [], _, h, k => k _ h
  | x :: xs, v :: vs, σ, h, k => fun W s u r p => seq1 .rfl' h r p fun W' b σ' v s' l r' p' q => there l r' p' (STs.imp q k)
  | [], _ :: _, _, h, _ => h.elim
  | _ :: _, [], _, h, _ => h.elim
theorem S_bind {value : Expr} {p' : Pos} {z : Z} (h : EX z VR (eval value z.env) σ fun v σ1 => SB z x v σ1 (QF .next)) (hs : swapsWith value (some (.Name x p')) pos.line z.env = pure false) : EX z FlR (exec (.Assign [.Name x p'] value pos) z.env) σ QF := fun W s p =>
  wpAny_Assign_Name (seq .rfl' h p fun W1 a σ1 va s1 l1 ra p1 q1 => seq1 l1 q1 ra p1 fun W2 b σ2 v2 s2 l2 _ p2 q2 => there (l1.trans l2) (b := Fl.next) trivial p2 q2) hs

theorem wSetAttr_ok (hP : POk P) {ov v : V} {attr : Str} (h : wSetAttr P ov attr v QS σ) : O2 P.z RU ov v (fun a b => setAttr a attr b) σ fun _ σ' => QS σ' := by
  cases ov <;> try exact False.elim h
  obtain ⟨l, el, h⟩ := optB_ok h
  obtain ⟨ec, h⟩ := chk_ok h
  obtain ⟨y, e, h⟩ := optB_ok h
  obtain ⟨f, rfl, h'⟩ := asNs_ok h
  obtain ⟨e0, h'⟩ := chk_ok h'
  exact G_set (h' _ rfl) e (Nat.le_of_ble_eq_true e0) (hP.sig.attr _ _ el).1 ((hP.sig.attr _ _ el).2 _ ec)
theorem wSetItem_ok {z : Z} {ov iv v : V} (h : wSetItem ov iv v QS σ) : O3 z RU ov iv v (fun a b c => setItem a b c) σ fun _ σ' => QS σ' := by
  obtain ⟨k, rfl, h⟩ := asRef_ok h
  obtain ⟨y, e, h⟩ := optB_ok h
  induction y <;> try exact False.elim h
  · refine hideG fun R_ k_ => ?_
    obtain ⟨i, rfl, h1, h2, jj, h3, h4, h⟩ := asInt_ok h
    refine k_ ?_
    clear k_
    exact setAt_list (h _ rfl) e h1 h2 h3 h4
  · obtain ⟨i, rfl, h1, h⟩ := asInt_ok h
    exact set_dict_int (h _ rfl) e h1
  · cases iv <;> try exact False.elim h
    obtain ⟨e1, h⟩ := chk_ok h
    obtain ⟨e2, h⟩ := chk_ok h
    exact set_dict_str (h _ rfl) e e2 (Nat.le_trans (Nat.le_of_ble_eq_true e1) (by decide))

set_option tactic.hygienic true in
theorem subM_lookup : ∀ {m m' : List (Str × V)}, subM m m' → ∀ y w, m.lookup y = some w → m'.lookup y = some w
  | [], _, _, _, _, h => by cases h
  | (x, v) :: r, m', h, y, w, e => by
    rw [List.lookup_cons] at e
    split at e
    · rename_i q
      have q : y = x := by simpa using q
      subst q; obtain rfl := Option.some.inj e; exact h.1
    · exact subM_lookup h.2 y w e
theorem EX.weaken {α β : Type} {z : Z} {R : Wd → β → α → Prop} {t : Sem α} {K K' : β → St → Prop} (h : EX z R t σ K) (k : ∀ b σ', K b σ' → K' b σ' ∨ weak σ' (K' b)) : EX z R t σ K' := fun W s p =>
  seq .rfl' h p fun W' b σ' v s' l r p' q => by
    rcases k b σ' q with q | ⟨m, hm, q⟩
    · exact there l r p' q
    · exact there l r (p'.fewer (subM_lookup hm)) q

theorem Z.pre.less {z : Z} {W : Wd} {σ : St} {s : Shared} (p : z.pre W σ s) {m : List (Str × V)} {o : Nat → Option MO} {nx : Nat} (hm : ∀ y w, m.lookup y = some w → σ.m.lookup y = some w) (ho : ∀ k x, o k = some x → σ.o k = some x) (hn : σ.nx ≤ nx) : z.pre W ⟨m, o, nx⟩ s :=
  ⟨p.g.forget ho hn, (p.fewer hm).f, p.k⟩
theorem EX.weakenO {α β : Type} {z : Z} {R : Wd → β → α → Prop} {t : Sem α} {σ : St} {K K' : β → St → Prop} (h : EX z R t σ K) (k : ∀ b σ', K b σ' → K' b σ' ∨ weakO σ' (K' b)) : EX z R t σ K' := fun W s p =>
  seq .rfl' h p fun W' b σ' v s' l r p' q => by
    rcases k b σ' q with q | ⟨m, o, nx, hm, ho, hn, q⟩
    · exact there l r p' q
    · exact there l r (p'.less (subM_lookup hm) ho hn) q
set_option tactic.hygienic true in
theorem wAsgName_ok (hR : Snd R) (hP : POk P) {x : Str} {p : Pos} {value : Expr} (h : wAsgName R P x p value pos QS σ) : EX P.z FlR (exec (.Assign [.Name x p] value pos) P.z.env) σ fun f σ' => f = .next ∧ QS σ' := by
  have other : ∀ {value}, chk (noComp value) ((R P).E value (fun v σ1 => wBind P x v QS σ1) σ) → EX P.z FlR (exec (.Assign [.Name x p] value pos) P.z.env) σ fun f σ' => f = .next ∧ QS σ' := fun h =>
    S_bind ((hR.E P hP _ _ _ (chk_ok h).2).imp fun v σ1 h1 => (wBind_ok hP h1).imp fun σ' q => ⟨rfl, q⟩) (noComp_swaps (chk_ok h).1)
  cases value
  case ListComp elt gens scope cpos =>
    obtain ⟨h1, h2, h⟩ := h
    refine hideG fun R_ k_ => ?_
    obtain ⟨t, iter, ifs, rfl, h3, h⟩ := oneGen_ok h
    refine k_ ?_
    clear k_
    have none' : chk (compOk0 scope) ((∃ cl, closureFor scope P.z.env = pure cl) ∧ (R P).E iter (fun v σ1 => lstOf σ1 v fun vs => vs = [] ∧ QS (σ1.set x (.lst []))) σ) → EX P.z FlR (exec (.Assign [.Name x p] (.ListComp elt [⟨t, iter, ifs, 0⟩] scope cpos) pos) P.z.env) σ fun f σ' => f = .next ∧ QS σ' := fun h => by
      refine hideG fun R_ k_ => ?_
      obtain ⟨h4, ⟨cl, hcl⟩, hh⟩ := chk_ok h
      obtain ⟨c1, c2, c3⟩ := compOk0_ok h4
      refine k_ ?_
      clear k_
      refine S_comp0 hP.ok hcl c1 c2 c3 h2 h1 ((hR.E P hP _ _ _ hh).imp fun v σ1 h5 => ?_) (noSet_iter h3)
      refine hideG fun R_ k_ => ?_
      obtain ⟨vs, hl, rfl, q⟩ := lstOf_isL h5
      refine k_ ?_
      clear k_
      exact ⟨hl, rfl, q⟩
    rcases asName_ok h with ⟨y, py, rfl, h⟩ | h
    · obtain ⟨h4, hh⟩ := chk_ok h
      obtain ⟨c1, c2⟩ := compOk_ok h4
      obtain ⟨c, rfl, h6⟩ := condOf_ok hh
      refine S_comp hP.ok c1.free c1.cell c1.kind c1.names c2 h2 h1 ((hR.E P hP _ _ _ h6).imp fun v σ1 h5 => ?_) (noSet_iter h3)
      refine hideG fun R_ k_ => ?_
      obtain ⟨vs, hl, hlen, f, pr, he, q⟩ := lstOf_isL h5
      obtain ⟨e1, e2⟩ := wElts_ok hR hP c1 he
      refine k_ ?_
      clear k_
      exact ⟨vs, f, pr, hl, hlen, e1, e2, rfl, q⟩
    · exact none' h
  case IfExp t b o q =>
    rcases h with h | ⟨M, h, k⟩
    · exact other (chk_of rfl h)
    · have h' : EX P.z FlR (exec (.Assign [.Name x p] (.IfExp t b o q) pos) P.z.env) σ fun f σ' => f = .next ∧ weak σ' M :=
        S_bind ((hR.E P hP _ _ _ h).imp fun v σ1 h1 => (wBind_ok hP h1).imp fun σ' q => ⟨rfl, q⟩) (noComp_swaps rfl)
      refine h'.weaken fun f σ' q => ?_
      refine hideG fun R_ k_ => ?_
      obtain ⟨e, m, hm, q⟩ := q
      refine k_ ?_
      clear k_
      exact .inr ⟨m, hm, e, k _ q⟩
  all_goals exact other h
theorem wAsgTup_ok (hR : Snd R) (hP : POk P) {elts : List Expr} {k : Nat} {tpos : Pos} {value : Expr} (h : wAsgTup R P elts k tpos value pos QS σ) : EX P.z FlR (exec (.Assign [.Tuple elts k tpos] value pos) P.z.env) σ fun f σ' => f = .next ∧ QS σ' := by
  obtain ⟨h1, h⟩ := h
  rcases h with ⟨names, h2, h⟩ | ⟨h2, h3, h⟩
  · refine S_swap hP.ok h2 ((hR.E P hP _ _ _ h).imp fun v σ1 h4 => ?_) h1
    obtain ⟨vs, rfl, h4⟩ := asTup_ok h4
    exact ⟨_, rfl, Nat.eq_of_beq_eq_true (chk_ok h4).1, (wBinds_ok hP (chk_ok h4).2).imp fun _ q => ⟨rfl, q⟩⟩
  · refine S_tuple hP.ok ((hR.E P hP _ _ _ h).imp fun v σ1 h4 => ?_) h3 h1 h2
    obtain ⟨vs, rfl, h4⟩ := asTup_ok h4
    exact ⟨_, rfl, Nat.eq_of_beq_eq_true (chk_ok h4).1, (wStores_ok hP (chk_ok h4).2).imp fun _ q => ⟨rfl, q⟩⟩
set_option tactic.hygienic true in
theorem wAsgSub_ok (hR : Snd R) (hP : POk P) {o i value : Expr} {p' : Pos} (h : wAsgSub R P o i value QS σ) : EX P.z FlR (exec (.Assign [.Subscript o i p'] value pos) P.z.env) σ fun f σ' => f = .next ∧ QS σ' := by
  have other : ∀ {i}, chk (noComp value) ((R P).E value (fun v σ1 => (R P).E o (fun ov σ2 => (R P).E i (fun iv σ3 => wSetItem ov iv v QS σ3) σ2) σ1) σ) → EX P.z FlR (exec (.Assign [.Subscript o i p'] value pos) P.z.env) σ fun f σ' => f = .next ∧ QS σ' := fun h => by
    refine S_sub ((hR.E P hP _ _ _ (chk_ok h).2).imp fun v σ1 h1 => (hR.E P hP _ _ _ h1).imp fun ov σ2 h2 => (hR.E P hP _ _ _ h2).imp fun iv σ3 h3 => ?_) (noComp_swaps (chk_ok h).1)
    exact fun W s x y u ra rb rc p => seq3 .rfl' (wSetItem_ok h3) ra rb rc p fun W' b σ' v s' l r p' q => there l r p' ⟨rfl, q⟩
  cases i
  case Slice lo hi st p =>
    obtain ⟨rfl, h⟩ := nonB_ok h
    refine S_slice ((hR.E P hP _ _ _ (chk_ok h).2).imp fun v σ1 h1 => (hR.E P hP _ _ _ h1).imp fun ov σ2 h2 => (wPart_ok hR hP h2).imp fun l σ3 h3 => (wPart_ok hR hP h3).imp fun u σ4 h4 => ?_) (noComp_swaps (chk_ok h).1)
    obtain ⟨k, rfl, h4⟩ := asRef_ok h4
    obtain ⟨y, e, h4⟩ := optB_ok h4
    obtain ⟨vs, rfl, h5⟩ := asList_ok h4
    refine hideG fun R_ k_ => ?_
    obtain ⟨us, hl, hz, h5⟩ := lstOf_isL h5
    obtain ⟨pl, e1, h5⟩ := optB_ok h5
    obtain ⟨pu, e2, h5⟩ := optB_ok h5
    refine k_ ?_
    clear k_
    exact ⟨k, vs, us, pl, pu, rfl, e, hl, hz, e1, e2, rfl, h5 _ rfl⟩
  all_goals exact other h
set_option tactic.hygienic true in
theorem wAssign_ok (hR : Snd R) (hP : POk P) {t value : Expr} (h : wAssign R P t value pos QS σ) : EX P.z FlR (exec (.Assign [t] value pos) P.z.env) σ fun f σ' => f = .next ∧ QS σ' := by
  cases t <;> try exact False.elim h
  case Name x p => exact wAsgName_ok hR hP h
  case Tuple elts k tpos => exact wAsgTup_ok hR hP h
  case Attribute o a p =>
    exact S_attr ((hR.E P hP _ _ _ (chk_ok h).2).imp fun v σ1 h1 => (hR.E P hP _ _ _ h1).imp fun ov σ2 h2 => (wSetAttr_ok hP h2).imp fun _ σ3 q => ⟨rfl, q⟩) (noComp_swaps (chk_ok h).1)
  case Subscript o i p => exact wAsgSub_ok hR hP h

theorem wLoop_ok {I : St → Prop} {K : Fl → St → Prop} {f : Fl} {σ3 : St} (h : wLoop QF I f σ3) (k1 : I = K .next) (k2 : I = K .cont) (k3 : ∀ s, QF .next s → K .brk s) (k4 : ∀ v s, QF (.ret v) s → K (.ret v) s) : K f σ3 ∨ weak σ3 (K f) := by
  induction f
  · exact .inr (k1 ▸ h)
  · exact .inl (k3 _ h)
  · exact .inr (k2 ▸ h)
  · exact .inl (k4 _ _ h)
theorem wWhile_ok (hR : Snd R) (hP : POk P) {t : Expr} {b : List Stmt} (h : wWhile R P t b QF σ) : EX P.z FlR (exec (.While t b [] pos) P.z.env) σ QF := by
  refine hideG fun R_ k_ => ?_
  obtain ⟨I, μ, ⟨m, hm, i0⟩, h⟩ := h
  refine k_ ?_
  clear k_
  refine fun W s p => S_while hP.own I μ i0 (fun σ1 i1 => (hR.T P hP _ _ _ (h σ1 i1)).imp fun c σ2 h2 => ?_) W s (p.fewer (subM_lookup hm))
  induction c
  · exact h2
  · exact EX.weaken (hR.B P hP _ _ _ h2) fun f σ3 h3 => wLoop_ok (K := fun f σ2 => match f with
        | .next | .cont => I σ2 ∧ μ σ2 < μ σ1
        | .brk => QF .next σ2
        | .ret v => QF (.ret v) σ2) h3 rfl rfl (fun _ h => h) fun _ _ h => h
set_option tactic.hygienic true in
theorem wForV_ok (hR : Snd R) (hP : POk P) {t : Expr} {b : List Stmt} {W W1 : Wd} {v : V} {σ1 : St} {xv : Value} {s1 : Shared} (l1 : W.le W1) (r1 : VR W1 v xv) (p1 : P.z.pre W1 σ1 s1) (q1 : wForV R P t b QF v σ1) :
    wpAny (model P.z.c.prog P.z.c.w) P.z.A (pyIter xv) (fun it s₂ => codeAny (model P.z.c.prog P.z.c.w) P.z.A (.forLoop t it b [] P.z.env) (fun r s' => match r with | .ok f => P.z.post FlR QF W f s' | .error e => cameBackBy (model P.z.c.prog P.z.c.w) P.z.A P.z.env (P.z.XE.p W) e s') s₂) (P.z.XE.p W) s1 := by
  have other : ∀ {v}, VR W1 v xv → (lstOf σ1 v fun vs => vs = [] ∧ QF .next σ1) → wpAny (model P.z.c.prog P.z.c.w) P.z.A (pyIter xv) (fun it s₂ => codeAny (model P.z.c.prog P.z.c.w) P.z.A (.forLoop t it b [] P.z.env) (fun r s' => match r with | .ok f => P.z.post FlR QF W f s' | .error e => cameBackBy (model P.z.c.prog P.z.c.w) P.z.A P.z.env (P.z.XE.p W) e s') s₂) (P.z.XE.p W) s1 := fun r1 q1 => by
    refine hideG fun R_ k_ => ?_
    obtain ⟨vs, hl, rfl, q⟩ := lstOf_isL q1
    refine k_ ?_
    clear k_
    exact for_nil hP.ok l1 p1 r1 hl q
  cases v
  case rng N =>
    obtain ⟨x, px, rfl, q1⟩ := (asName_ok (show asName t (kRng (R P) P b QF σ1 N) False from q1)).resolve_right id
    refine hideG fun R_ k_ => ?_
    obtain ⟨hx, N, rfl, hN, I, ⟨m, hm, i0⟩, step, done⟩ := chk_ok q1
    refine k_ ?_
    clear k_
    exact for_range hP.ok hP.own (of_decide_eq_true hx) l1 (p1.fewer (subM_lookup hm)) r1 hN I i0 (fun i σ2 hi h2 => (hR.B P hP _ _ _ (step i σ2 hi h2)).weaken fun f σ3 h3 => wLoop_ok (K := stepF I QF i) h3 rfl rfl (fun _ h => h) fun _ _ h => h) done
  all_goals exact other r1 q1
set_option tactic.hygienic true in
theorem wStmt_ok (hR : Snd R) (hP : POk P) {st : Stmt} (h : wStmt R P st QF σ) : EX P.z FlR (exec st P.z.env) σ QF := by
  cases st
  case Return e p =>
    induction e with
    | none => exact S_ret0 h
    | some e => exact S_ret (hR.E P hP _ _ _ h)
  case Expr e p => exact S_expr (hR.E P hP _ _ _ (chk_ok h).2) hP.inter (noComp_swaps (chk_ok h).1)
  case If t b o p =>
    have key : ∀ {K : Fl → St → Prop}, wIf R P t b o K σ → EX P.z FlR (exec (.If t b o p) P.z.env) σ K := fun h => S_if ((hR.T P hP _ _ _ h).imp fun c σ1 h1 => by
      induction c
      · exact hR.B P hP _ _ _ h1
      · exact hR.B P hP _ _ _ h1)
    rcases h with h | ⟨M, h, k⟩
    · exact key h
    · exact EX.weakenO (key h) fun f σ' q => by
        induction f
        · refine hideG fun R_ k_ => ?_
          obtain ⟨m, o, nx, hm, ho, hn, q⟩ := q
          refine k_ ?_
          clear k_
          exact .inr ⟨m, o, nx, hm, ho, hn, k _ q⟩
        all_goals exact .inl q
  case While t b o p =>
    obtain ⟨h0, h⟩ := chk_ok h
    obtain rfl := List.isEmpty_iff.mp h0
    exact wWhile_ok hR hP h
  case For t e b o p =>
    obtain ⟨h0, h⟩ := chk_ok h
    obtain rfl := List.isEmpty_iff.mp h0
    obtain ⟨h0, h⟩ := chk_ok h
    exact fun W s p => wpAny_For (seq .rfl' (hR.E P hP _ _ _ h) p fun W1 v σ1 xv s1 l1 r1 p1 q1 => wForV_ok hR hP l1 r1 p1 q1) (noSet_iter h0)
  case Assign ts value p =>
    obtain ⟨t, rfl, h⟩ := one_ok h
    exact (wAssign_ok hR hP h).imp fun f σ' q => by rw [q.1]; exact q.2
  all_goals exact h hP.okz

theorem wBlock_ok (hR : Snd R) (hP : POk P) : ∀ {b : List Stmt} {QF : Fl → St → Prop} {σ : St}, wBlock R P b QF σ → EX P.z FlR (execs b P.z.env) σ QF
  | [], _, _, h => S_nil h
  | st :: rest, QF, σ, h => by
    have h : wStmt R P st (fun f σ1 => nextF f (wBlock R P rest QF σ1) (QF f σ1)) σ := h
    refine S_cons ((wStmt_ok hR hP h).imp fun f σ1 h1 => ?_)
    induction f
    · exact wBlock_ok hR hP h1
    · exact h1
    · exact h1
    · exact h1
end
theorem wps_ok : ∀ n, Snd (wps n)
  | 0 => ⟨fun _ _ _ _ _ h => False.elim h, fun _ _ _ _ _ h => False.elim h, fun _ _ _ _ _ h => False.elim h⟩
  | n + 1 => ⟨fun P hP e Q σ h => stepE_ok (wps_ok n) hP h, fun P hP e Q σ h => stepT_ok (wps_ok n) hP h, fun P hP b Q σ h => wBlock_ok (wps_ok n) hP h⟩
end Mine
end

section
open PySem PySem.W PySem.Calls PyProof.Rows PySem.SeqAt
set_option Elab.async false
set_option linter.unusedVariables false
set_option autoImplicit true
set_option maxRecDepth 100000
set_option tactic.hygienic false
namespace Mine

noncomputable def retOf : Fl → V
  | .ret v => v
  | _ => .none
noncomputable abbrev fnZ (c : Cx) (C : Addr) (A : Around) (qual : Str) (scope : Scope) (L f : Addr) (cdv : Value) (outer : List Env) (QE : (Nat → Option MO) → Nat → Prop) : Z :=
  ⟨c, A, envX qual scope L f cdv [], [], outer, XQ C c (envX qual scope L f cdv []) [] outer QE⟩

theorem FC_intro {c : Cx} {C : Addr} {n : Nat} {f : Addr} {vs : List V} {o : Nat → Option MO} {nx : Nat} {Q : V → (Nat → Option MO) → Nat → Prop} {QE : (Nat → Option MO) → Nat → Prop}
    {name qual : Str} {params : Arguments} {body : List Stmt} {scope : Scope} {dV kV doc pm cdv ct oc : Value} {an od : Option Addr} {osl : Array (Option Value)} {names : List Str} {dflt : List Value} {dv : List V}
    (ho : c.K.lookup f = some ⟨oc, od, .func (fnOf name qual params body scope dV kV doc pm an cdv ct), osl⟩) (hcd : codeIn c.K cdv qual = true)
    (hb : ∀ s xs, c.K.In s.heap → xs.length = vs.length → BindsTo s (fnOf name qual params body scope dV kV doc pm an cdv ct) ⟨xs, []⟩ (names.zip (xs ++ dflt)))
    (hd : ∀ W s, GS c W o nx s → VRs W dv dflt)
    (hloc : ∀ x ∈ names, scope.names.lookup x = some .local)
    (hcell : ∀ x ∈ scope.names, x.2 ≠ .cell)
    (hk : scope.kind = .function) (hco : scope.isCoroutine = false) (hgen : scope.isGenerator = false)
    (h : ∀ A L outer, (fnZ c C A qual scope L f cdv outer QE).Ok n → (fnZ c C A qual scope L f cdv outer QE).Call → (fnZ c C A qual scope L f cdv outer QE).Own →
        EX (fnZ c C A qual scope L f cdv outer QE) FlR (execs body (envX qual scope L f cdv [])) ⟨(names.zip (vs ++ dv)).reverse, o, nx⟩ fun fl σ' => Q (retOf fl) σ'.o σ'.nx) :
    FC c C (n + 1) (.ref f) vs o nx Q QE := by
  intro A outer W s xs hfr hh hdep huni g k r
  refine codeAny_call_def (fd := fnOf name qual params body scope dV kV doc pm an cdv ct) (body := body) (binds := names.zip (xs ++ dflt)) (by show A.depth < 1000; lia) (g.In _ _ ho) rfl g.limit (codeRec_of g.In hcd) rfl (hb s xs g.In r.1.symm) hcell
    (fun x hx => hloc x.1 (List.of_mem_zip hx).1) (fun h₀ hns hkeep => ?_) hco hgen hk
  have hz : (fnZ c C (A.deeper (envX qual scope s.heap.objs.size f cdv [])) qual scope s.heap.objs.size f cdv outer QE).Ok n :=
    ⟨hk, rfl, rfl, hh, by show A.depth + 1 + _ ≤ _; lia, by show A.units + 3 + _ ≤ _; lia⟩
  have hfs : (A.deeper (envX qual scope s.heap.objs.size f cdv [])).frames = some (envX qual scope s.heap.objs.size f cdv [] :: outer) := by show A.frames.map _ = _; rw [hfr]; rfl
  have F0 := g.freshF
  have P0 := g.freshP
  have p : (fnZ c C (A.deeper (envX qual scope s.heap.objs.size f cdv [])) qual scope s.heap.objs.size f cdv outer QE).pre W ⟨(names.zip (vs ++ dv)).reverse, o, nx⟩ { s with heap := h₀, toks := s.toks + (names.zip (xs ++ dflt)).length } :=
    ⟨(g.ext hkeep), ⟨⟨_, hns, zip_rel (r.app (hd W s g))⟩, F0, P0, (fun j q => by obtain ⟨_, e⟩ := (g.sep j _ q).2.2; exact absurd (Heap.lt_size e) (Nat.lt_irrefl _)), fun x j e => by cases e⟩, k⟩
  refine wpAny_mono (h _ _ outer hz ⟨rfl, hfs⟩ (XQ.own hk rfl hfs) W _ p) (fun fl s' hq_ => ?_) fun e s' hq_ => ?_
  · refine hideG fun R_ k_ => ?_
    obtain ⟨W', b, σ', l, rb, p', q⟩ := hq_
    refine k_ ?_
    clear k_
    induction b <;> induction fl <;> first | exact rb.elim | exact ⟨W', _, _, _, l, .none, p'.g, q⟩ | exact ⟨W', _, _, _, l, rb, p'.g, q⟩
  · refine hideG fun R_ k_ => ?_
    obtain ⟨W', σ', fl, l, p', fly, hfl, q⟩ := hq_
    refine k_ ?_
    clear k_
    exact leaving_fly (z := ⟨c, callerA, envX qual scope s.heap.objs.size f cdv [], [], outer, .no⟩) p' fly hk rfl hfs hfl fun s2 p2 f2 => ⟨W', _, _, l, p2.g, f2, q⟩

noncomputable def namesOk (scope : Scope) : Bool := scope.names.all fun p => decide (p.1 ≠ "__debug__") && decide (p.1 ≠ "__classdict__") && decide (p.2 ≠ .cell)
theorem namesOk_at {scope : Scope} (h : namesOk scope = true) {x : Str} {k : NameKind} (e : scope.names.lookup x = some k) : (x == ("__debug__" : Str)) = false ∧ (x == ("__classdict__" : Str)) = false := by
  unfold namesOk at h
  rw [List.all_eq_true] at h
  have := h _ (lookup_mem e)
  simp only [Bool.and_eq_true, decide_eq_true_eq] at this
  exact ⟨by simpa using this.1.1, by simpa using this.1.2⟩
theorem namesOk_cell {scope : Scope} (h : namesOk scope = true) : ∀ x ∈ scope.names, x.2 ≠ .cell := fun x hx => by
  unfold namesOk at h
  rw [List.all_eq_true] at h
  have := h _ hx
  simp only [Bool.and_eq_true, decide_eq_true_eq] at this
  exact this.2
noncomputable def GsOk (c : Cx) (G : List (Str × V)) : Prop := ∀ x v, (x, v) ∈ G → GFact c x v

structure SP where
  qual : Str
  scope : Scope
  f : Addr
  cdv : Value
  S : Sig
  G : List (Str × V)
  C : Addr
  n : Nat
structure Dy where
  A : Around
  L : Addr
  outer : List Env
  QE : (Nat → Option MO) → Nat → Prop
noncomputable def mkP (k : SP) (c : Cx) (y : Dy) : Par := ⟨fnZ c k.C y.A k.qual k.scope y.L k.f k.cdv y.outer y.QE, k.S, k.G, k.C, k.n, y.QE, true⟩
theorem FC_wp (fuel : Nat) {c : Cx} {C : Addr} {S : Sig} {G : List (Str × V)} {n : Nat} {f : Addr} {vs : List V} {o : Nat → Option MO} {nx : Nat} {Q : V → (Nat → Option MO) → Nat → Prop} {QE : (Nat → Option MO) → Nat → Prop}
    {name qual : Str} {params : Arguments} {body : List Stmt} {scope : Scope} {dV kV doc pm cdv ct oc : Value} {an od : Option Addr} {osl : Array (Option Value)} {names : List Str} {dflt : List Value} {dv : List V}
    (ho : c.K.lookup f = some ⟨oc, od, .func (fnOf name qual params body scope dV kV doc pm an cdv ct), osl⟩) (hcd : codeIn c.K cdv qual = true)
    (hb : ∀ s xs, c.K.In s.heap → xs.length = vs.length → BindsTo s (fnOf name qual params body scope dV kV doc pm an cdv ct) ⟨xs, []⟩ (names.zip (xs ++ dflt)))
    (hd : ∀ W s, GS c W o nx s → VRs W dv dflt)
    (hloc : ∀ x ∈ names, scope.names.lookup x = some .local)
    (hn : namesOk scope = true)
    (hk : scope.kind = .function) (hco : scope.isCoroutine = false) (hgen : scope.isGenerator = false)
    (hS : SigOk c S) (hG : GsOk c G)
    (h : ∀ y QR, QE = y.QE → (fun fl (σ' : St) => Q (retOf fl) σ'.o σ'.nx) = QR → wBlock (wps fuel) (mkP ⟨qual, scope, f, cdv, S, G, C, n⟩ c y) body QR ⟨(names.zip (vs ++ dv)).reverse, o, nx⟩) :
    FC c C (n + 1) (.ref f) vs o nx Q QE :=
  FC_intro ho hcd hb hd hloc (namesOk_cell hn) hk hco hgen fun A L outer hz hc hw =>
    wBlock_ok (P := ⟨fnZ c C A qual scope L f cdv outer QE, S, G, C, n, QE, true⟩) (wps_ok fuel)
      { ok := hz, own := hw, call := fun _ => hc, sig := hS, glob := fun x v e => hG x v (lookup_mem e)
        err := fun W σ e s p f q => ⟨W, σ, .none, .rfl', ⟨p.g, p.f, p.k⟩, f, .inl rfl, q⟩
        names := fun x k e => namesOk_at hn e
        inter := by show (scope.kind == .module && _) = false; rw [hk]; rfl } (h ⟨A, L, outer, QE⟩ _ rfl rfl)
end Mine
end

section
open PySem PySem.W PySem.Calls PyProof.Rows PySem.SeqAt
set_option Elab.async false
set_option linter.unusedVariables false
set_option autoImplicit true
set_option maxRecDepth 100000
set_option tactic.hygienic false
namespace Mine

theorem FC_make {c : Cx} {C cls fI : Addr} {n : Nat} {vs : List V} {o : Nat → Option MO} {nx : Nat} {Q : V → (Nat → Option MO) → Nat → Prop} {QE : (Nat → Option MO) → Nat → Prop}
    (hm : makesIn c.K cls = true) (hi : findIn c.K (.ref cls) "__init__" = some (some (.ref fI))) (hf : typeIn c.K (.ref fI) = some (.type "function"))
    (init : FC c C n (.ref fI) (.ins cls nx :: vs) (upd o nx (.ns [])) (nx + 1) (fun b o' nx' => b = .none ∧ Q (.ins cls nx) o' nx') QE) : FC c C (n + 1) (.ref cls) vs o nx Q QE := by
  intro A outer W s xs hfr hh hdep huni g k r
  have X := g.In
  have l1 : W.le (W.addR nx s.heap.objs.size) := Wd.le_addR (g.fresh nx (Nat.le_refl _))
  have g1 := g.newM (x := emptyDict) rfl (y := .ns []) (toks := s.toks) (dr := s.drawn) ⟨[], 0, Heap.get?_push_size _ rfl, Nat.le_refl _, (fun e he => by cases he), fun x => trivial⟩
  have g2 := g1.newF (instObj cls s.heap.objs.size) (toks := s.toks) (dr := s.drawn)
  have l2 : (W.addR nx s.heap.objs.size).le ((W.addR nx s.heap.objs.size).addF (s.heap.push emptyDict).objs.size (instObj cls s.heap.objs.size)) := Wd.le_addF g1.freshF
  have hx : (s.heap.push emptyDict).objs.size = s.heap.objs.size + 1 := Heap.size_push ..
  obtain ⟨h, gg, d, t, os⟩ := s
  refine make_core (makes_of X hm) (looks_findIn X hi) (fun self => bind_fn X self hf) (.inl rfl) ?_
  refine codeAny_mono (init (A.under (.builtin "type.__call__" ⟨.ref cls :: xs, []⟩)) outer _ _ (.ref (h.objs.size + 1) :: xs) hfr hh (by show A.depth + 1 + 2 * n ≤ 990; lia) (by show A.units + 1 + 30 * n ≤ 9000; lia) g2 (k.mono (l1.trans l2)) (.cons (.ins (d := h.objs.size) ?_ ?_) (r.mono (l1.trans l2)))) fun res s' q => ?_
  · show (if h.objs.size + 1 = (h.push emptyDict).objs.size then _ else _) = _
    rw [hx]; simp
  · simp [Wd.addF, Wd.addR]
  · rcases res with e | (v | _ | _ | _) <;> first | exact q.elim | skip
    · refine hideG fun R_ k_ => ?_
      obtain ⟨W', o', nx', l, r1, r2, r3⟩ := q
      refine k_ ?_
      clear k_
      exact ⟨W', o', nx', (l1.trans l2).trans l, r1, r2, r3⟩
    · refine hideG fun R_ k_ => ?_
      obtain ⟨W', b, o', nx', l, rb, g', rfl, q⟩ := q
      cases rb
      refine k_ ?_
      clear k_
      refine ⟨rfl, W', .ins cls nx, o', nx', (l1.trans l2).trans l, (VR.ins (d := h.objs.size) (l.F _ _ ?_) (l.ρ _ _ ?_)), g', q⟩
      · show (if h.objs.size + 1 = (h.push emptyDict).objs.size then _ else _) = _
        rw [hx]; simp
      · simp [Wd.addF, Wd.addR]

noncomputable def Wd.swapR (W : Wd) (n : Nat) (d : Addr) (x : Obj) : Wd := ⟨fun b => if b = d then some x else W.F b, fun k => if k = n then none else W.ρ k, W.P⟩
theorem Wd.swapR_F {W : Wd} {n : Nat} {d a : Addr} {ob o : Obj} (hd : W.F d = none) (e : W.F a = some o) : (W.swapR n d ob).F a = some o := (if_neg fun q => by subst q; rw [hd] at e; cases e).trans e
theorem Wd.swapR_ne {W : Wd} {n k : Nat} {d : Addr} {ob : Obj} (h : k ≠ n) : (W.swapR n d ob).ρ k = W.ρ k := if_neg h
theorem Wd.swapR_some {W : Wd} {n k : Nat} {d b : Addr} {ob : Obj} (e : (W.swapR n d ob).ρ k = some b) : k ≠ n ∧ W.ρ k = some b := by
  by_cases h : k = n
  · cases (if_pos h).symm.trans e
  · exact ⟨h, (if_neg h).symm.trans e⟩
theorem swap_ne {W : Wd} {n k : Nat} {a : Addr} (hn : W.ρ n = none) (e : W.ρ k = some a) : k ≠ n := fun q => by subst q; rw [hn] at e; cases e
theorem VR.swapR {W0 W : Wd} {n : Nat} {d : Addr} {ob : Obj} (hn : W0.ρ n = Option.none) (hd : W.F d = Option.none) {v : V} {x : Value} (h : VR W v x) : ∀ {x0}, VR W0 v x0 → VR (W.swapR n d ob) v x := by
  have hF : ∀ a o, W.F a = some o → (W.swapR n d ob).F a = some o := fun a o e => Wd.swapR_F hd e
  induction h with
  | none => intro _ _; exact .none
  | bool => intro _ _; exact .bool
  | int => intro _ _; exact .int
  | str => intro _ _; exact .str
  | con => intro _ _; exact .con
  | tup h1 h2 _ ih =>
    intro x0 h0
    obtain ⟨_, _, _, rfl, e1, e2, e3⟩ := h0.inv
    refine .tup (hF _ _ h1) h2 fun i v x a b => ?_
    obtain ⟨y, _, r⟩ := VRs.at (W := W0) ⟨e2, e3⟩ a
    exact ih i v x a b r
  | lst h1 h2 _ ih =>
    intro x0 h0
    obtain ⟨_, _, _, rfl, e1, e2, e3⟩ := h0.inv
    refine .lst (hF _ _ h1) h2 fun i v x a b => ?_
    obtain ⟨y, _, r⟩ := VRs.at (W := W0) ⟨e2, e3⟩ a
    exact ih i v x a b r
  | ins h1 h2 =>
    intro x0 h0
    obtain ⟨_, _, _, e1, e2⟩ := h0.inv
    exact .ins (hF _ _ h1) ((Wd.swapR_ne (swap_ne hn e2)).trans h2)
  | ref h =>
    intro x0 h0
    obtain ⟨_, _, e⟩ := h0.inv
    exact .ref ((Wd.swapR_ne (swap_ne hn e)).trans h)
  | pie h1 h2 h3 h4 _ _ i1 i2 =>
    intro x0 h0
    obtain ⟨_, _, _, _, _, _, _, e1, e2, e3, e4, r1, r2⟩ := h0.inv
    exact .pie (hF _ _ h1) (hF _ _ h2) h3 h4 (i1 r1) (i2 r2)
  | rng h => intro _ _; exact .rng (hF _ _ h)
theorem OR.swapR {W0 W : Wd} {n : Nat} {d : Addr} {ob : Obj} (hn : W0.ρ n = none) (hd : W.F d = none) {v : Option V} {x x0 : Option Value} (h : OR W v x) (h0 : OR W0 v x0) : OR (W.swapR n d ob) v x := by
  induction v with
  | none => induction x <;> exact h
  | some v =>
    obtain ⟨y, rfl, r⟩ := h.some_inv
    refine hideG fun R_ k_ => ?_
    obtain ⟨y0, rfl, r0⟩ := h0.some_inv
    refine k_ ?_
    clear k_
    exact r.swapR hn hd r0
theorem VRs.swapR {W0 W : Wd} {n : Nat} {d : Addr} {ob : Obj} (hn : W0.ρ n = none) (hd : W.F d = none) {v : List V} {x x0 : List Value} (h : VRs W v x) (h0 : VRs W0 v x0) : VRs (W.swapR n d ob) v x :=
  ⟨h.1, fun i v x a b => by obtain ⟨y, _, r⟩ := h0.at a; exact (h.2 i v x a b).swapR hn hd r⟩
theorem MR.swapR {p w} {W0 W : Wd} {h0 h : Heap} {n : Nat} {d : Addr} {ob : Obj} {a a0 : Addr} {o : MO} (hn : W0.ρ n = none) (hd : W.F d = none) (x : MR p w W h a o) (x0 : MR p w W0 h0 a0 o) : MR p w (W.swapR n d ob) h a o := by
  induction o with
  | ns f => obtain ⟨es, m, e, r⟩ := x; obtain ⟨es0, m0, e0, r0⟩ := x0; exact ⟨es, m, e, r.1, r.2.1, fun y => (r.2.2 y).swapR hn hd (r0.2.2 y)⟩
  | list vs => obtain ⟨xs, m, e, r⟩ := x; obtain ⟨xs0, m0, e0, r0⟩ := x0; exact ⟨xs, m, e, r.swapR hn hd r0⟩
  | imap mp k => obtain ⟨m', e, q, r⟩ := x; obtain ⟨m0, e0, q0, r0⟩ := x0; exact ⟨m', e, q, fun y => (r y).swapR hn hd (r0 y)⟩
  | smap mp k => obtain ⟨m', e, q, r⟩ := x; obtain ⟨m0, e0, q0, r0⟩ := x0; exact ⟨m', e, q, fun y => (r y).swapR hn hd (r0 y)⟩
  | cell v => obtain ⟨ob', v', e, q, r⟩ := x; obtain ⟨ob0, v0, e0, q0, r0⟩ := x0; exact ⟨ob', v', e, q, r.swapR hn hd r0⟩
  | clo f hm cs =>
    obtain ⟨as, ob1, e, q, r⟩ := x
    obtain ⟨as0, ob0, e0, q0, r0⟩ := x0
    refine ⟨as, ob1, ?_, q, hm _ _ _ _ (fun a o e => Wd.swapR_F hd e) r⟩
    clear q q0 r r0
    induction cs generalizing as as0 with
    | nil => simpa using e
    | cons c cs ih =>
      induction as with
      | nil => simp at e
      | cons b as =>
        induction as0 with
        | nil => simp at e0
        | cons b0 as0 =>
          simp only [List.map_cons, List.cons.injEq] at e e0 ⊢
          exact ⟨(Wd.swapR_ne (swap_ne hn e0.1)).trans e.1, ih as e.2 as0 e0.2⟩

theorem GS.swapR {c : Cx} {W0 W : Wd} {o : Nat → Option MO} {x : MO} {nx : Nat} {s0 s : Shared} {d : Addr} {ob : Obj} (g : GS c W0 o nx s0) (l : W0.le W) (hnx : o nx = none) (g' : GS c W (upd o nx x) (nx + 1) s) (e2 : W.ρ nx = some d) (eo : s.heap.get? d = some ob) :
    GS c (W.swapR nx d ob) o nx s where
  ok := g'.ok
  fz := fun b y e => by
    by_cases h : b = d
    · subst h; cases (if_pos rfl).symm.trans e; exact eo
    · exact g'.fz b y ((if_neg h).symm.trans e)
  base := fun b y e => Wd.swapR_F (g'.sep nx d e2).1 (l.F _ _ (g.base b y e))
  mu := fun k y e => by
    have hk : k ≠ nx := fun q => by subst q; rw [hnx] at e; cases e
    obtain ⟨b, hb, mr⟩ := g'.mu k y ((if_neg hk).trans e)
    obtain ⟨b0, hb0, mr0⟩ := g.mu k y e
    exact ⟨b, (Wd.swapR_ne hk).trans hb, mr.swapR (g.fresh nx (Nat.le_refl _)) (g'.sep nx d e2).1 mr0⟩
  sep := fun k b e => by
    obtain ⟨hk, e⟩ := Wd.swapR_some e
    exact ⟨(if_neg fun q => hk (g'.inj k nx d (by rw [← q]; exact e) e2)).trans (g'.sep k b e).1, (g'.sep k b e).2⟩
  inj := fun k j b e e' => g'.inj _ _ _ (Wd.swapR_some e).2 (Wd.swapR_some e').2
  fresh := fun k hk => by
    by_cases h : k = nx
    · exact if_pos h
    · exact (if_neg h).trans (g'.fresh k (Nat.lt_of_le_of_ne hk (Ne.symm h)))
  park := fun b pr e => ⟨(g'.park b pr e).1, (g'.park b pr e).2.1, (if_neg fun q => by subst q; have e : W.P _ = some pr := e; rw [(g'.sep nx _ e2).2.1] at e; cases e).trans (g'.park b pr e).2.2⟩
  os := g'.os
  gens := g'.gens
  new := ⟨fun k b e => g'.new.1 k b (Wd.swapR_some e).2, g'.new.2.mono (fun b y e => Wd.swapR_F (g'.sep nx d e2).1 e) (fun _ _ e _ => e) fun _ _ _ e => e⟩
theorem FC_pie {c : Cx} {C cls fI : Addr} {n : Nat} {cv rv : V} {o : Nat → Option MO} {nx : Nat}
    (hm : makesIn c.K cls = true) (hi : findIn c.K (.ref cls) "__init__" = some (some (.ref fI))) (hf : typeIn c.K (.ref fI) = some (.type "function")) (hnx : o nx = none)
    (init : FC c C n (.ref fI) [.ins cls nx, cv, rv] (upd o nx (.ns [])) (nx + 1) (fun b o' nx' => b = .none ∧ o' = upd o nx (.ns [("codes", cv), ("runs", rv)]) ∧ nx' = nx + 1) fun _ _ => False) :
    FC c C (n + 1) (.ref cls) [cv, rv] o nx (fun b o' nx' => b = .pie cls cv rv ∧ o' = o ∧ nx' = nx) fun _ _ => False := by
  intro A outer W s xs hfr hh hdep huni g k r
  refine codeAny_mono (FC_make hm hi hf (Q := fun b o' nx' => b = .ins cls nx ∧ o' = upd o nx (.ns [("codes", cv), ("runs", rv)]) ∧ nx' = nx + 1) (by
    refine fun A outer W s xs a1 a2 a3 a4 a5 a6 a7 => codeAny_mono (init A outer W s xs a1 a2 a3 a4 a5 a6 a7) fun res s' q => ?_
    rcases res with e | (v | _ | _ | _) <;> first | exact q.elim | exact q | skip
    refine hideG fun R_ k_ => ?_
    obtain ⟨W', b, o', nx', l, rb, g', e1, e2, e3⟩ := q
    refine k_ ?_
    clear k_
    exact ⟨W', b, o', nx', l, rb, g', e1, rfl, e2, e3⟩) A outer W s xs hfr hh hdep huni g k r) fun res s' q => ?_
  rcases res with e | (v | _ | _ | _) <;> first | exact q.elim | skip
  · obtain ⟨W', o', nx', l, g', f, q⟩ := q; exact q.elim
  refine hideG fun R_ k_ => ?_
  obtain ⟨W', b, o', nx', l, rb, g', rfl, rfl, rfl⟩ := q
  have hn : W.ρ nx = none := g.fresh nx (Nat.le_refl _)
  obtain ⟨a, d, rfl, e1, e2⟩ := rb.inv
  obtain ⟨d', e2', es, m, eo, hr⟩ := g'.mu nx (.ns [("codes", cv), ("runs", rv)]) (if_pos rfl)
  rw [e2] at e2'; cases e2'
  have hd := (g'.sep nx d e2).1
  obtain ⟨x1, ys, rfl, rc, rr0⟩ := r.cons_inv
  obtain ⟨x2, ys, rfl, rr, r0⟩ := rr0.cons_inv
  obtain ⟨vc, ec, qc⟩ := (hr.2.2 "codes").some_inv
  obtain ⟨vr, er, qr⟩ := (hr.2.2 "runs").some_inv
  refine k_ ?_
  clear k_
  have hl : W.le (W'.swapR nx d (dictOf es m)) := ⟨fun b y e => Wd.swapR_F hd (l.F _ _ e), fun k b e => (Wd.swapR_ne (swap_ne hn e)).trans (l.ρ _ _ e), l.P⟩
  exact ⟨W'.swapR nx d (dictOf es m), .pie cls cv rv, o, nx, hl, .pie (d := d) (es := es) (n := m) (vc := vc) (vr := vr) (Wd.swapR_F hd e1) (if_pos rfl) (by rw [getL_fnd hr.2.1, ec]) (by rw [getL_fnd hr.2.1, er]) (qc.swapR hn hd rc) (qr.swapR hn hd rr), g.swapR l hnx g' e2 eo, rfl, rfl, rfl⟩
end Mine
end

section
open PySem PySem.W PySem.Calls PyProof.Rows PySem.SeqAt
set_option Elab.async false
set_option linter.unusedVariables false
set_option autoImplicit true
set_option maxRecDepth 100000
set_option tactic.hygienic false
namespace Mine

noncomputable def updCs (o : Nat → Option MO) (nx : Nat) : List (Option V) → (Nat → Option MO)
  | [] => o
  | y :: ys => updCs (upd o nx (.cell y)) (nx + 1) ys
noncomputable def Wd.addCs (W : Wd) (nx : Nat) : List Addr → Wd
  | [] => W
  | a :: as => (W.addR nx a).addCs (nx + 1) as

inductive CellsR (W : Wd) (h : Heap) : List Addr → List (Option V) → Prop
  | nil : CellsR W h [] []
  | cons {a as y ys v'} : h.IsCell a v' → OR W y v' → CellsR W h as ys → CellsR W h (a :: as) (y :: ys)
theorem CellsR.mono {W W' : Wd} (l : W.le W') {h as ys} (r : CellsR W h as ys) : CellsR W' h as ys := by
  induction r with
  | nil => exact .nil
  | cons a b _ ih => exact .cons a (b.mono l) ih

set_option tactic.hygienic true in
theorem adoptCs {c : Cx} {s : Shared} : ∀ (as : List Addr) (ys : List (Option V)) (W : Wd) (o : Nat → Option MO) (nx : Nat), GS c W o nx s → (∀ a ∈ as, W.Free a ∧ c.h₀.objs.size ≤ a) → as.Pairwise (fun x y => x ≠ y) → CellsR W s.heap as ys →
    GS c (W.addCs nx as) (updCs o nx ys) (nx + as.length) s ∧ W.le (W.addCs nx as) ∧ (∀ i a, as[i]? = some a → (W.addCs nx as).ρ (nx + i) = some a) ∧ (W.addCs nx as).F = W.F ∧ (W.addCs nx as).P = W.P ∧ (∀ k a, (W.addCs nx as).ρ k = some a → W.ρ k = some a ∨ a ∈ as)
  | [], ys, W, o, nx, g, hf, hp, r => by
    cases r
    exact ⟨g, .rfl', fun i a e => by simp at e, rfl, rfl, fun k a e => .inl e⟩
  | a :: as, ys, W, o, nx, g, hf, hp, r => by
    cases r with
    | cons hc hy r =>
      rename_i y ys v'
      obtain ⟨p1, p2⟩ := List.pairwise_cons.mp hp
      have l : W.le (W.addR nx a) := Wd.le_addR (g.fresh nx (Nat.le_refl _))
      obtain ⟨ob, e1, e2⟩ := hc
      have g1 := g.adopt (hf a List.mem_cons_self).1 (hf a List.mem_cons_self).2 (y := .cell y) ⟨ob, v', e1, e2, hy.mono l⟩
      obtain ⟨h1, h2, h3, h4, h5, h6⟩ := adoptCs as ys (W.addR nx a) _ _ g1 (fun b hb => ⟨⟨(hf b (List.mem_cons_of_mem _ hb)).1.F, (hf b (List.mem_cons_of_mem _ hb)).1.P, fun k q => by
          simp only [Wd.addR] at q
          split at q
          · exact p1 b hb (Option.some.inj q)
          · exact (hf b (List.mem_cons_of_mem _ hb)).1.R k q⟩, (hf b (List.mem_cons_of_mem _ hb)).2⟩) p2 (r.mono l)
      refine ⟨by rw [List.length_cons, Nat.add_comm as.length 1, ← Nat.add_assoc]; exact h1, l.trans h2, fun i b e => ?_, h4, h5, fun k b e => ?_⟩
      · induction i with
        | zero => simp at e; subst e; exact h2.ρ _ _ (if_pos rfl)
        | succ i => rw [Nat.add_comm i 1, ← Nat.add_assoc]; exact h3 i b (by simpa using e)
      · rcases h6 k b e with q | q
        · simp only [Wd.addR] at q
          split at q
          · obtain rfl := Option.some.inj q; exact .inr List.mem_cons_self
          · exact .inl q
        · exact .inr (List.mem_cons_of_mem _ q)

theorem cellsFrom_fst : ∀ (l : List (Str × NameKind)) (n m : Nat) (acc acc' : List (Str × Addr)), acc.map (·.1) = acc'.map (·.1) → (cellsFrom n l acc).map (·.1) = (cellsFrom m l acc').map (·.1)
  | [], _, _, _, _, h => h
  | (x, k) :: r, n, m, acc, acc', h => by
    unfold cellsFrom
    split
    · exact cellsFrom_fst r _ _ _ _ (by simp [h])
    · exact cellsFrom_fst r _ _ _ _ h
noncomputable def cellNames (scope : Scope) : List Str := (cellsFrom 0 scope.names []).map (·.1)
theorem lookup_isSome : ∀ {l : List (Str × Addr)} {x : Str}, (l.lookup x).isSome = (l.map (·.1)).elem x
  | [], x => rfl
  | (k, v) :: r, x => by
    rw [List.lookup_cons, List.map_cons, List.elem_cons]
    cases h : x == k with
    | true => simp
    | false => simpa using lookup_isSome
theorem zipIdx_look : ∀ (cs : List (Str × Addr)) (nx : Nat) (x : Str) (k : Nat), ((cs.map (·.1)).zipIdx nx).lookup x = some k → ∃ i a, k = nx + i ∧ (cs.map (·.2))[i]? = some a ∧ cs.lookup x = some a
  | [], _, _, _, h => by simp at h
  | (y, a) :: r, nx, x, k, h => by
    rw [List.map_cons, List.zipIdx_cons, List.lookup_cons] at h
    rw [List.lookup_cons]
    cases e : x == y with
    | true => rw [e] at h; obtain rfl := Option.some.inj h; exact ⟨0, a, rfl, by simp, rfl⟩
    | false =>
      rw [e] at h
      refine hideG fun R_ k_ => ?_
      obtain ⟨i, b, h1, h2, h3⟩ := zipIdx_look r (nx + 1) x k h
      refine k_ ?_
      clear k_
      exact ⟨i + 1, b, by lia, by simpa using h2, h3⟩

noncomputable def absC (k : Str → Option NameKind) : List (Str × V) → (Str → Option V) → Str → Option V
  | [], m => m
  | (n, v) :: r, m => absC k r (if k n = some .local then m else fun y => if y = n then some v else m y)
theorem bindC_rel {W : Wd} (k : Str → Option NameKind) : ∀ (names : List Str) (vs : List V) (xs : List Value) (cm : Str → Option V) (cm' : Str → Option Value), VRs W vs xs → (∀ x, OR W (cm x) (cm' x)) → ∀ x, OR W (absC k (names.zip vs) cm x) (bindC k (names.zip xs) cm' x)
  | [], vs, xs, cm, cm', r, h, x => h x
  | n :: names, [], xs, cm, cm', r, h, x => by rw [r.nil_inv]; exact h x
  | n :: names, v :: vs, xs, cm, cm', r, h, x => by
    refine hideG fun R_ k_ => ?_
    obtain ⟨y, ys, rfl, ry, rs⟩ := r.cons_inv
    refine k_ ?_
    clear k_
    refine bindC_rel k names vs ys _ _ rs (fun z => ?_) x
    split
    · exact h z
    · by_cases e : z = n
      · simp only [e, if_true]; exact ry
      · simp only [e, if_false]; exact h z
noncomputable def locL (k : Str → Option NameKind) : List (Str × V) → List (Str × V) → List (Str × V)
  | [], m => m
  | (n, v) :: r, m => locL k r (if k n = some .local then (n, v) :: m else m)
set_option tactic.hygienic true in
theorem bindL_rel {W : Wd} (k : Str → Option NameKind) : ∀ (names : List Str) (vs : List V) (xs : List Value) (m : List (Str × V)) (m' : Str → Option Value), VRs W vs xs → (∀ x v, m.lookup x = some v → ∃ v', m' x = some v' ∧ VR W v v') → ∀ x v, (locL k (names.zip vs) m).lookup x = some v → ∃ v', bindL k (names.zip xs) m' x = some v' ∧ VR W v v'
  | [], vs, xs, m, m', r, h, x, v, e => h x v e
  | n :: names, [], xs, m, m', r, h, x, v, e => by rw [r.nil_inv]; exact h x v e
  | n :: names, u :: vs, xs, m, m', r, h, x, v, e => by
    obtain ⟨y, ys, rfl, ry, rs⟩ := r.cons_inv
    refine bindL_rel k names vs ys _ _ rs (fun z w q => ?_) x v e
    split at q
    · rename_i hk
      rw [if_pos hk]
      rw [List.lookup_cons] at q
      by_cases e : z = n
      · subst e; simp at q; subst q; exact ⟨y, by simp, ry⟩
      · have : (z == n) = false := by simp [e]
        rw [this] at q
        obtain ⟨v', a, b⟩ := h z w q
        exact ⟨v', by simp [e, a], b⟩
    · rename_i hk
      rw [if_neg hk]; exact h z w q
theorem cellsR_of {W : Wd} {h : Heap} {cm : Str → Option V} {cm' : Str → Option Value} (hr : ∀ x, OR W (cm x) (cm' x)) : ∀ (cs : List (Str × Addr)), (∀ n c, (n, c) ∈ cs → h.IsCell c (cm' n)) → CellsR W h (cs.map (·.2)) ((cs.map (·.1)).map cm)
  | [], _ => .nil
  | (n, a) :: r, hc => .cons (hc n a List.mem_cons_self) (hr n) (cellsR_of hr r fun n c e => hc n c (List.mem_cons_of_mem _ e))

theorem lookup_of_mem : ∀ {cs : List (Str × Addr)} {n : Str} {a : Addr}, (cs.map (·.1)).Nodup → (n, a) ∈ cs → cs.lookup n = some a
  | (k, b) :: r, n, a, h, hm => by
    rw [List.map_cons, List.nodup_cons] at h
    rw [List.lookup_cons]
    rcases List.mem_cons.mp hm with e | e
    · cases e; simp
    · have : n ≠ k := fun q => h.1 (by rw [← q]; exact List.mem_map.mpr ⟨(n, a), e, rfl⟩)
      have : (n == k) = false := by simp [this]
      rw [this]; exact lookup_of_mem h.2 e
noncomputable abbrev fnZc (c : Cx) (C : Addr) (A : Around) (qual : Str) (scope : Scope) (L f : Addr) (cdv : Value) (cs : List (Str × Addr)) (cl : List (Str × Nat)) (outer : List Env) (QE : (Nat → Option MO) → Nat → Prop) : Z :=
  ⟨c, A, envX qual scope L f cdv cs, cl, outer, XQ C c (envX qual scope L f cdv cs) cl outer QE⟩
noncomputable def kindIn (scope : Scope) (x : Str) : Option NameKind := scope.names.lookup x

theorem FC_introC {c : Cx} {C : Addr} {n : Nat} {f : Addr} {vs : List V} {o : Nat → Option MO} {nx : Nat} {Q : V → (Nat → Option MO) → Nat → Prop} {QE : (Nat → Option MO) → Nat → Prop}
    {name qual : Str} {params : Arguments} {body : List Stmt} {scope : Scope} {dV kV doc pm cdv ct oc : Value} {an od : Option Addr} {osl : Array (Option Value)} {names : List Str}
    (ho : c.K.lookup f = some ⟨oc, od, .func (fnOf name qual params body scope dV kV doc pm an cdv ct), osl⟩) (hcd : codeIn c.K cdv qual = true)
    (hb : ∀ xs, xs.length = vs.length → bindArgs (fnOf name qual params body scope dV kV doc pm an cdv ct) ⟨xs, []⟩ = pure (names.zip xs))
    (hloc : ∀ x ∈ names, scope.names.lookup x = some .local ∨ (scope.names.lookup x = some .cell ∧ (cellNames scope).elem x = true))
    (hnd : (cellNames scope).Nodup) (hk : scope.kind = .function) (hco : scope.isCoroutine = false) (hgen : scope.isGenerator = false)
    (h : ∀ A L cs outer, cs.map (·.1) = cellNames scope → (fnZc c C A qual scope L f cdv cs ((cellNames scope).zipIdx nx) outer QE).Ok n → (fnZc c C A qual scope L f cdv cs ((cellNames scope).zipIdx nx) outer QE).Call → (fnZc c C A qual scope L f cdv cs ((cellNames scope).zipIdx nx) outer QE).Own →
        EX (fnZc c C A qual scope L f cdv cs ((cellNames scope).zipIdx nx) outer QE) FlR (execs body (envX qual scope L f cdv cs))
          ⟨locL (kindIn scope) (names.zip vs) [], updCs o nx ((cellNames scope).map (absC (kindIn scope) (names.zip vs) fun _ => none)), nx + (cellNames scope).length⟩
          fun fl σ' => ∃ o' nx', (∀ k x, o' k = some x → σ'.o k = some x) ∧ σ'.nx ≤ nx' ∧ Q (retOf fl) o' nx') :
    FC c C (n + 1) (.ref f) vs o nx Q QE := by
  intro A outer W s xs hfr hh hdep huni g k r
  refine codeAny_call_cells (fd := fnOf name qual params body scope dV kV doc pm an cdv ct) (body := body) (binds := names.zip xs) (by show A.depth < 1000; lia) (g.In _ _ ho) rfl g.limit (codeRec_of g.In hcd) rfl (hb xs r.1.symm) rfl ?_ (fun s₁ x => ?_) hco hgen hk
  · intro y hy
    rcases hloc y.1 (List.of_mem_zip hy).1 with q | ⟨q, q'⟩
    · exact .inl q
    · refine .inr ⟨q, ?_⟩
      rw [lookup_isSome, cellsFrom_fst _ _ 0 _ [] rfl]; exact q'
  generalize hcs : cellsFrom (s.heap.objs.size + 1) scope.names [] = cs
  have hnm : cs.map (·.1) = cellNames scope := by rw [← hcs]; exact cellsFrom_fst _ _ _ _ _ rfl
  have he : callEnvC (fnOf name qual params body scope dV kV doc pm an cdv ct) s.heap.objs.size f = envX qual scope s.heap.objs.size f cdv cs := by rw [← hcs]; rfl
  rw [he] at x ⊢
  refine hideG fun R_ k_ => ?_
  obtain ⟨⟨⟨h', tk, rfl⟩, hns, hkeep, _⟩, xc, xa, xu⟩ := x
  refine k_ ?_
  clear k_
  have hcell : ∀ a ∈ cs.map (·.2), s.heap.objs.size < a := fun a ha => by
    obtain ⟨⟨y, b⟩, hb, rfl⟩ := List.mem_map.mp ha
    exact xu y b hb
  have hnone : ∀ a, s.heap.objs.size ≤ a → s.heap.get? a = none := fun a ha => by
    cases e : s.heap.get? a with
    | none => rfl
    | some z => exact absurd (Heap.lt_size e) (Nat.not_lt_of_le ha)
  have free : ∀ a, s.heap.objs.size ≤ a → W.Free a := fun a ha => by
    refine ⟨?_, ?_, fun j q => ?_⟩
    · cases e : W.F a with
      | none => rfl
      | some z => have := g.fz _ _ e; rw [hnone a ha] at this; cases this
    · cases e : W.P a with
      | none => rfl
      | some z => obtain ⟨_, q⟩ := (g.park _ _ e).2.1; rw [hnone a ha] at q; cases q
    · obtain ⟨_, q⟩ := (g.sep j _ q).2.2; rw [hnone a ha] at q; cases q
  have g1 : GS c W o nx { s with heap := h', toks := tk } := g.ext hkeep
  have rC := bindC_rel (W := W) (kindIn scope) names vs xs (fun _ => none) (fun _ => none) r (fun _ => trivial)
  have rL := bindL_rel (W := W) (kindIn scope) names vs xs [] (fun _ => none) r (fun x v e => by cases e)
  have cr := cellsR_of (h := h') rC cs (fun n a ha => xc n a (lookup_of_mem (by rw [hnm]; exact hnd) ha))
  rw [hnm] at cr
  refine hideG fun R_ k_ => ?_
  obtain ⟨g2, l2, r2, f2, p2, b2⟩ := adoptCs (cs.map (·.2)) _ W o nx g1 (fun a ha => ⟨free a (Nat.le_of_lt (hcell a ha)), Nat.le_trans g.big (Nat.le_of_lt (hcell a ha))⟩) (List.pairwise_map.mpr xa) cr
  refine k_ ?_
  clear k_
  have hlen : (cs.map (·.2)).length = (cellNames scope).length := by rw [← hnm]; simp
  rw [hlen] at g2
  have hz : (fnZc c C (A.deeper (envX qual scope s.heap.objs.size f cdv cs)) qual scope s.heap.objs.size f cdv cs ((cellNames scope).zipIdx nx) outer QE).Ok n :=
    ⟨hk, rfl, rfl, hh, by show A.depth + 1 + _ ≤ _; lia, by show A.units + 3 + _ ≤ _; lia⟩
  have hfs : (A.deeper (envX qual scope s.heap.objs.size f cdv cs)).frames = some (envX qual scope s.heap.objs.size f cdv cs :: outer) := by show A.frames.map _ = _; rw [hfr]; rfl
  have F0 := (free s.heap.objs.size (Nat.le_refl _)).F
  have P0 := (free s.heap.objs.size (Nat.le_refl _)).P
  have R0 := (free s.heap.objs.size (Nat.le_refl _)).R
  have p : (fnZc c C (A.deeper (envX qual scope s.heap.objs.size f cdv cs)) qual scope s.heap.objs.size f cdv cs ((cellNames scope).zipIdx nx) outer QE).pre (W.addCs nx (cs.map (·.2))) ⟨locL (kindIn scope) (names.zip vs) [], updCs o nx ((cellNames scope).map (absC (kindIn scope) (names.zip vs) fun _ => none)), nx + (cellNames scope).length⟩ { s with heap := h', toks := tk } :=
    ⟨g2, ⟨⟨_, hns, fun x v e => by obtain ⟨v', a, b⟩ := rL x v e; exact ⟨v', a, b.mono l2⟩⟩, by rw [f2]; exact F0, by rw [p2]; exact P0, fun j q => by
        rcases b2 j _ q with q | q
        · exact R0 j q
        · exact absurd (hcell _ q) (Nat.lt_irrefl _), fun x j e => by
        rw [← hnm] at e
        obtain ⟨i, a, rfl, e1, e2⟩ := zipIdx_look cs nx x j e
        exact ⟨a, e2, r2 i a e1⟩⟩, k.mono l2⟩
  refine wpAny_mono (h _ _ cs outer hnm hz ⟨rfl, hfs⟩ (XQ.own hk rfl hfs) _ _ p) (fun fl s' hq_ => ?_) fun e s' hq_ => ?_
  · refine hideG fun R_ k_ => ?_
    obtain ⟨W', b, σ', l, rb, p', o', nx', q1, q2, q⟩ := hq_
    have g' := p'.g.forget q1 q2
    refine k_ ?_
    clear k_
    induction b <;> induction fl <;> first | exact rb.elim | exact ⟨W', _, _, _, l2.trans l, .none, g', q⟩ | exact ⟨W', _, _, _, l2.trans l, rb, g', q⟩
  · refine hideG fun R_ k_ => ?_
    obtain ⟨W', σ', fl, l, p', fly, hfl, q⟩ := hq_
    refine k_ ?_
    clear k_
    exact leaving_fly (z := ⟨c, callerA, envX qual scope s.heap.objs.size f cdv cs, (cellNames scope).zipIdx nx, outer, .no⟩) p' fly hk rfl hfs hfl fun s2 p2 f2 => ⟨W', _, _, l2.trans l, p2.g, f2, q⟩

noncomputable def namesOkC (scope : Scope) : Bool := scope.names.all fun p => decide (p.1 ≠ "__debug__") && decide (p.1 ≠ "__classdict__")
theorem namesOkC_at {scope : Scope} (h : namesOkC scope = true) {x : Str} {k : NameKind} (e : scope.names.lookup x = some k) : (x == ("__debug__" : Str)) = false ∧ (x == ("__classdict__" : Str)) = false := by
  unfold namesOkC at h
  rw [List.all_eq_true] at h
  have := h _ (lookup_mem e)
  simp only [Bool.and_eq_true, decide_eq_true_eq] at this
  exact ⟨by simpa using this.1, by simpa using this.2⟩

noncomputable def mkPc (k : SP) (c : Cx) (cs : List (Str × Addr)) (nx : Nat) (y : Dy) : Par := ⟨fnZc c k.C y.A k.qual k.scope y.L k.f k.cdv cs ((cellNames k.scope).zipIdx nx) y.outer y.QE, k.S, k.G, k.C, k.n, y.QE, true⟩
theorem FC_wpC (fuel : Nat) {c : Cx} {C : Addr} {S : Sig} {G : List (Str × V)} {n : Nat} {f : Addr} {vs : List V} {o : Nat → Option MO} {nx : Nat} {Q : V → (Nat → Option MO) → Nat → Prop} {QE : (Nat → Option MO) → Nat → Prop}
    {name qual : Str} {params : Arguments} {body : List Stmt} {scope : Scope} {dV kV doc pm cdv ct oc : Value} {an od : Option Addr} {osl : Array (Option Value)} {names : List Str}
    (ho : c.K.lookup f = some ⟨oc, od, .func (fnOf name qual params body scope dV kV doc pm an cdv ct), osl⟩) (hcd : codeIn c.K cdv qual = true)
    (hb : ∀ xs, xs.length = vs.length → bindArgs (fnOf name qual params body scope dV kV doc pm an cdv ct) ⟨xs, []⟩ = pure (names.zip xs))
    (hloc : (names.all fun x => decide (scope.names.lookup x = some .local) || (decide (scope.names.lookup x = some .cell) && (cellNames scope).elem x)) = true)
    (hn : namesOkC scope = true) (hnd : (cellNames scope).Nodup)
    (hk : scope.kind = .function) (hco : scope.isCoroutine = false) (hgen : scope.isGenerator = false)
    (hS : SigOk c S) (hG : GsOk c G)
    (h : ∀ y QR cs, cs.map (·.1) = cellNames scope → QE = y.QE → (fun fl (σ' : St) => ∃ o' nx', (∀ k x, o' k = some x → σ'.o k = some x) ∧ σ'.nx ≤ nx' ∧ Q (retOf fl) o' nx') = QR → wBlock (wps fuel) (mkPc ⟨qual, scope, f, cdv, S, G, C, n⟩ c cs nx y) body QR
      ⟨locL (kindIn scope) (names.zip vs) [], updCs o nx ((cellNames scope).map (absC (kindIn scope) (names.zip vs) fun _ => none)), nx + (cellNames scope).length⟩) :
    FC c C (n + 1) (.ref f) vs o nx Q QE :=
  FC_introC ho hcd hb (fun x hx => by
    have := List.all_eq_true.mp hloc x hx
    simp only [Bool.or_eq_true, Bool.and_eq_true, decide_eq_true_eq] at this
    exact this) hnd hk hco hgen fun A L cs outer hcs hz hc hw =>
    wBlock_ok (P := ⟨fnZc c C A qual scope L f cdv cs ((cellNames scope).zipIdx nx) outer QE, S, G, C, n, QE, true⟩) (wps_ok fuel)
      { ok := hz, own := hw, call := fun _ => hc, sig := hS, glob := fun x v e => hG x v (lookup_mem e)
        err := fun W σ e s p f q => ⟨W, σ, .none, .rfl', ⟨p.g, p.f, p.k⟩, f, .inl rfl, q⟩
        names := fun x k e => namesOkC_at hn e
        inter := by show (scope.kind == .module && _) = false; rw [hk]; rfl } (h ⟨A, L, outer, QE⟩ _ cs hcs rfl rfl)
end Mine
end

section
open PySem PySem.W PySem.Calls PyProof.Rows PySem.SeqAt
set_option Elab.async false
set_option linter.unusedVariables false
set_option autoImplicit true
set_option maxRecDepth 100000
set_option tactic.hygienic false
namespace Mine

noncomputable abbrev excO (C : Addr) (dx : Option Addr) (vs : Array Value) : Obj := { cls := .ref C, dict := dx, data := .fields vs }
inductive ExObj (K : Frag) (C N : Addr) : Prop
  | mk (nm q bs sn sub ab col dd k0 k1 k2 k3 k5) (h : K.lookup C = some (excClassObj nm q C N bs [.type "Exception", .type "BaseException", .type "object"] true sn sub ab col dd k0 k1 k2 k3 k5 "Exception.__new__")) : ExObj K C N
inductive ExNs (K : Frag) (N fI : Addr) : Prop
  | mk (es ep oc od osl) (h : K.lookup N = some ⟨oc, od, .dict es ep, osl⟩) (h1 : StrKeys es) (h2 : nsFind es "__init__" = some (.ref fI)) (h3 : nsFind es "__setattr__" = none) (h4 : nsFind es "symbol" = none) (h5 : nsFind es "data" = none) : ExNs K N fI
structure ExC (K : Frag) (C N fI : Addr) : Prop where
  obj : ExObj K C N
  ns : ExNs K N fI
  fn : ∃ o, K.lookup fI = some o ∧ o.cls = .type "function"

section
variable {prog : Program} {w : World} {A : Around} {E : Value → Shared → Prop} {h : Heap} {g : Array GenState} {d : Drawn} {t : Nat} {os : OsState}
variable {nm q : Str} {C N x : Addr} {bs bm : List Value} {sn : List Str} {sub : List Value} {ab : Bool} {col : Option Bool} {dd : Option Addr} {k0 k1 k2 k3 k5 : Option Value} {B newId sa owner : String}
  {mN : Str → Option Value} {name : Str} {v : Value}

theorem store_in {dx : Addr} {es : List DictEntry} {m : Nat} {tk : Tok} {Q : Fin → Shared → Prop} (D : h.get? dx = some (dictOf es m)) (hk : StrK es) (hl : es.length ≤ 900)
    (hq : ∀ h' tk' es' m', Heap.SameBut dx h h' → h'.get? dx = some (dictOf es' m') → StrK es' → es'.length ≤ es.length + 1 → (∀ y, fnd y es' = if y = name then some v else fnd y es) → Q (.done (.ret .none)) ⟨h', g, d, tk', os⟩) :
    wpAny (model prog w) A (Builtin.ObjectAttr.storeInDict dx (.str name tk) name v) Q E ⟨h, g, d, t, os⟩ := by
  unfold Builtin.ObjectAttr.storeInDict Builtin.ObjectAttr.newKeyGuard
  refine wpAny_bind (wpAny_pure (wpAny_bind ?_))
  have F' : (Obj.putName name (PyData.keyHash w.params name) (.str name t) v (dictOf es m)) = dictOf (putL name (PyData.keyHash w.params name) (.str name t) v es) (putN name es m) := putName_dict ..
  have D' := Heap.get?_update_self (Obj.putName name (PyData.keyHash w.params name) (.str name t) v) D (by rw [F']; rfl)
  unfold nsSet
  refine wpAny_bind (wpAny_bind (wpAny_askSetting (wpAny_pure (wpAny_bind (wpAny_mkText (wpAny_bind (wpAny_loadPart D ?_)))))))
  dsimp only
  have c : (!es.toArray.any (·.key.isStr name) && es.toArray.any (·.refKey)) = false := by
    have : es.any (·.refKey) = false := by
      rw [List.any_eq_false]
      intro x hx
      obtain ⟨n, t, hk⟩ := hk x hx
      simp [DictEntry.refKey, hk]
    rw [← Array.any_toList, ← Array.any_toList]
    simp [this]
  rw [aRefKeyMayBeTheName_at, c]
  refine wpAny_updatePart D ?_
  have hlen := putL_length (name := name) (hsh := PyData.keyHash w.params name) (t := t) (u := v) es hk
  refine wpAny_bind (wpAny_lookBehind D' (by rw [F']; exact pastItsLine_dict (by
    rw [List.size_toArray, sizeLine_eq, hlen]
    split <;> lia)) ?_)
  exact wpAny_pure (hq _ _ _ _ (Heap.SameBut.update ..) (F' ▸ D') (putL_strK _ hk) (by rw [hlen]; split <;> lia) fun y => fnd_putL _ _ hk)

theorem exc_entry {tk : Tok} {od : Option Addr} {vs : Array Value} {Q : Fin → Shared → Prop} (SF : StoreFacts B bm sa owner)
    (hC : h.get? C = some (excClassObj nm q C N bs bm true sn sub ab col dd k0 k1 k2 k3 k5 newId)) (hn : h.Ns N mN) (hna : mN name = none)
    (hB : typeLookup (.type B) name = pure none) (hx : h.get? x = some (excO C od vs))
    (hq : match od with
      | some dx => wpAny (model prog w) A (Builtin.ObjectAttr.storeInDict dx (.str name tk) name v) Q E ⟨h, g, d, t, os⟩
      | none => ∀ h1, h1.get? h.objs.size = some (dictOf [] 0) → h1.get? x = some (excO C (some h.objs.size) vs) → (∀ b o, b ≠ x → h.get? b = some o → h1.get? b = some o) → wpAny (model prog w) A (Builtin.ObjectAttr.storeInDict h.objs.size (.str name tk) name v) Q E ⟨h1, g, d, t, os⟩) :
    wpAny (model prog w) A (Builtin.«object.__setattr__» ⟨[.ref x, .str name tk, v], []⟩) Q E ⟨h, g, d, t, os⟩ := by
  have hpass := SF.passes (.ref x)
  unfold Builtin.«object.__setattr__»
  repeat (first | rw [refuse_eq] | (rw [refuseLoop_ref, hpass]) | (with_reducible refine wpAny_loadPart_at hx ?_) | with_reducible refine wpAny_mroOf_exc hC ?_ | (with_reducible refine wpAny_typeLookup_exc hC hn SF.mro hB ?_; rw [hna]) | wp_step)
  induction od with
  | some dx => exact wpAny_pure hq
  | none =>
    rw [if_neg (by simp [typeHasDict])]
    have hx₁ : (h.push { cls := .type "dict", data := .dict #[] }).get? x = some (excO C none vs) := Heap.get?_push_of_some _ hx
    have hxs : x ≠ h.objs.size := Nat.ne_of_lt (Heap.lt_size hx)
    refine wpAny_bind (wpAny_alloc' ?_)
    refine wpAny_bind (wpAny_update' hx₁ ?_)
    refine wpAny_pure ?_
    refine hq _ ((Heap.get?_update_ne _ _ _ _ hxs.symm).trans (Heap.get?_push_at rfl rfl)) (Heap.get?_update_self _ hx₁ rfl) fun b o hb e => ?_
    exact (Heap.get?_update_ne _ _ _ _ hb).trans (Heap.get?_push_of_some _ e)
theorem exc_call {tk : Tok} {od : Option Addr} {vs : Array Value} {R : Result → Shared → Prop} (SF : StoreFacts B bm sa owner)
    (hC : h.get? C = some (excClassObj nm q C N bs bm true sn sub ab col dd k0 k1 k2 k3 k5 newId)) (hn : h.Ns N mN) (hna : mN name = none)
    (hB : typeLookup (.type B) name = pure none) (hx : h.get? x = some (excO C od vs))
    (hq : match od with
      | some dx => wpAny (model prog w) A.in1 (Builtin.ObjectAttr.storeInDict dx (.str name tk) name v) (fun fin s' => match fin with | .done f => R (.ok f) s' | .again c' => c'.quiet = true ∧ codeAny (model prog w) A c' R s') (fun e s' => R (.error e) s') ⟨h, g, d, t, os⟩
      | none => ∀ h1, h1.get? h.objs.size = some (dictOf [] 0) → h1.get? x = some (excO C (some h.objs.size) vs) → (∀ b o, b ≠ x → h.get? b = some o → h1.get? b = some o) → wpAny (model prog w) A.in1 (Builtin.ObjectAttr.storeInDict h.objs.size (.str name tk) name v) (fun fin s' => match fin with | .done f => R (.ok f) s' | .again c' => c'.quiet = true ∧ codeAny (model prog w) A c' R s') (fun e s' => R (.error e) s') ⟨h1, g, d, t, os⟩) :
    codeAny (model prog w) A (.call (.builtin sa) ⟨[.ref x, .str name tk, v], []⟩) R ⟨h, g, d, t, os⟩ :=
  codeAny_call_builtin SF.slot.plain SF.entry (wpAny_check_sa SF hC hx rfl (exc_entry SF hC hn hna hB hx hq))
theorem exc_set {od : Option Addr} {vs : Array Value} {Q : Unit → Shared → Prop} (SF : StoreFacts B bm sa owner)
    (hC : h.get? C = some (excClassObj nm q C N bs bm true sn sub ab col dd k0 k1 k2 k3 k5 newId)) (hn : h.Ns N mN) (hns : mN "__setattr__" = none) (hna : mN name = none)
    (hB : typeLookup (.type B) name = pure none) (hx : h.get? x = some (excO C od vs))
    (hq : ∀ tk t', match od with
      | some dx => wpAny (model prog w) A.in1 (Builtin.ObjectAttr.storeInDict dx (.str name tk) name v) (fun fin s' => fin = .done (.ret .none) ∧ Q () s') E ⟨h, g, d, t', os⟩
      | none => ∀ h1, h1.get? h.objs.size = some (dictOf [] 0) → h1.get? x = some (excO C (some h.objs.size) vs) → (∀ b o, b ≠ x → h.get? b = some o → h1.get? b = some o) → wpAny (model prog w) A.in1 (Builtin.ObjectAttr.storeInDict h.objs.size (.str name tk) name v) (fun fin s' => fin = .done (.ret .none) ∧ Q () s') E ⟨h1, g, d, t', os⟩) :
    wpAny (model prog w) A (setAttr (.ref x) name v) Q E ⟨h, g, d, t, os⟩ := by
  have f3 := SF.slot.bind (.ref x)
  unfold setAttr callSpecial? specialOf
  repeat (any_goals (first | assumption | (with_reducible refine wpAny_loadPart_at hx ?_) | (with_reducible refine wpAny_typeLookup_exc hC hn SF.mro SF.slot.lookup ?_; rw [hns]) | wp_step))
  refine exc_call SF hC hn hna hB hx ?_
  have hq := hq t (t + 1)
  induction od with
  | some dx => exact wpAny_mono hq (fun fin s' ⟨e, q⟩ => by subst e; exact wpAny_pure (wpAny_pure q)) fun _ _ e => e
  | none => exact fun h1 a b c => wpAny_mono (hq h1 a b c) (fun fin s' hp_ => by obtain ⟨e, q⟩ := hp_; subst e; exact wpAny_pure (wpAny_pure q)) fun _ _ e => e

theorem exc_body {E : Value → Shared → Prop} {env : Env} {m : Str → Option Value} {s : Shared} {p1 p2 p3 p4 p5 p6 p7 p8 : Pos} {x : Addr} {sy da : Value} {vs : Array Value} {Q : Flow → Shared → Prop} (SF : StoreFacts B bm sa owner)
    (hC : s.heap.get? C = some (excClassObj nm q C N bs bm true sn sub ab col dd k0 k1 k2 k3 k5 newId)) (hn : s.heap.Ns N mN) (hns : mN "__setattr__" = none) (h1 : mN "symbol" = none) (h2 : mN "data" = none)
    (hB1 : typeLookup (.type B) "symbol" = pure none) (hB2 : typeLookup (.type B) "data" = pure none) (hx : s.heap.get? x = some (excO C none vs))
    (hk : env.scope.kind = .function) (l1 : env.kindOf "self" = some .local) (l2 : env.kindOf "symbol" = some .local) (l3 : env.kindOf "data" = some .local)
    (hm : s.heap.Ns env.locals m) (e1 : m "self" = some (.ref x)) (e2 : m "symbol" = some sy) (e3 : m "data" = some da) (hxC : x ≠ C) (hxN : x ≠ N) (hxL : x ≠ env.locals)
    (hq : ∀ h' tk es n, (∀ b o, b ≠ x → s.heap.get? b = some o → h'.get? b = some o) → h'.get? x = some (excO C (some s.heap.objs.size) vs) → h'.get? s.heap.objs.size = some (dictOf es n) → StrK es → fnd "symbol" es = some sy → Q .next ⟨h', s.gens, s.drawn, tk, s.os⟩) :
    wpAny (model prog w) A (execs [.Assign [.Attribute (.Name "self" p1) "symbol" p2] (.Name "symbol" p3) p4, .Assign [.Attribute (.Name "self" p5) "data" p6] (.Name "data" p7) p8] env) Q E s := by
  obtain ⟨h, g, d, t, os⟩ := s
  dsimp only at *
  refine wpAny_execs_cons (plainObj_wpAny_Assign_Attribute (wpAny_Name (wpAny_loadName_local hk l2 hm e2 (wpAny_Name (wpAny_loadName_local hk l1 hm e1 ?_) (by decide))) (by decide)) rfl)
  refine exc_set SF hC hn hns h1 hB1 hx fun tk t' => ?_
  refine fun h1 D1 X1 K1 => store_in D1 (fun e he => by cases he) (by decide) fun h' tk' es' m' S1 D2 k2' l2' f2 => ⟨rfl, ?_⟩
  have lt : ∀ b o, h.get? b = some o → h.objs.size ≠ b := fun b o e => Nat.ne_of_gt (Heap.lt_size e)
  have K2 : ∀ b o, b ≠ x → h.get? b = some o → h'.get? b = some o := fun b o hb e => (S1.2 b (Ne.symm (lt b o e))).trans (K1 b o hb e)
  have X2 : h'.get? x = some (excO C (some h.objs.size) vs) := (S1.2 x (Ne.symm (lt x _ hx))).trans X1
  have nsK : ∀ {a mm}, x ≠ a → h.Ns a mm → h'.Ns a mm := fun ha hp_ => by obtain ⟨o, es, ep, e, r⟩ := hp_; exact ⟨o, es, ep, K2 _ _ (Ne.symm ha) e, r⟩
  refine wpAny_execs_cons (plainObj_wpAny_Assign_Attribute (wpAny_Name (wpAny_loadName_local hk l3 (nsK hxL hm) e3 (wpAny_Name (wpAny_loadName_local hk l1 (nsK hxL hm) e1 ?_) (by decide))) (by decide)) rfl)
  refine exc_set SF (K2 _ _ (Ne.symm hxC) hC) (nsK hxN hn) hns h2 hB2 X2 fun tk t' => ?_
  refine store_in D2 k2' (Nat.le_trans l2' (by decide)) fun h3 tk3 es3 m3 S3 D3 k3' l3' f3 => ⟨rfl, ?_⟩
  refine wpAny_execs_nil (hq h3 tk3 es3 m3 (fun b o hb e => (S3.2 b (Ne.symm (lt b o e))).trans (K2 b o hb e)) ((S3.2 x (Ne.symm (lt x _ hx))).trans X2) D3 k3' ?_)
  rw [f3, if_neg (by decide), f2, if_pos rfl]
end

noncomputable abbrev excF (t : Addr) : Array Value := #[.ref t, .none, .none, .none, .bool false, .none]
theorem exc_make {c : Cx} {A : Around} {E : Value → Shared → Prop} {s : Shared} {C N fI : Addr} (X : ExC c.K C N fI) (hIn : c.K.In s.heap) (hlim : s.heap.NoLimit) (hdep : A.depth < 998)
    {name qual : Str} {params : Arguments} {scope : Scope} {dV kV doc pm cdv ct oc : Value} {an od : Option Addr} {osl : Array (Option Value)} {p1 p2 p3 p4 p5 p6 p7 p8 : Pos}
    (ho : c.K.lookup fI = some ⟨oc, od, .func (fnOf name qual params [.Assign [.Attribute (.Name "self" p1) "symbol" p2] (.Name "symbol" p3) p4, .Assign [.Attribute (.Name "self" p5) "data" p6] (.Name "data" p7) p8] scope dV kV doc pm an cdv ct), osl⟩)
    (hcd : codeIn c.K cdv qual = true) (hb : ∀ s x y z, c.K.In s.heap → BindsTo s (fnOf name qual params [.Assign [.Attribute (.Name "self" p1) "symbol" p2] (.Name "symbol" p3) p4, .Assign [.Attribute (.Name "self" p5) "data" p6] (.Name "data" p7) p8] scope dV kV doc pm an cdv ct) ⟨[x, y, z], []⟩ [("self", x), ("symbol", y), ("data", z)])
    (hcell : ∀ x ∈ scope.names, x.2 ≠ .cell) (hk : scope.kind = .function) (hco : scope.isCoroutine = false) (hgen : scope.isGenerator = false)
    (l1 : scope.names.lookup ("self" : Str) = some .local) (l2 : scope.names.lookup ("symbol" : Str) = some .local) (l3 : scope.names.lookup ("data" : Str) = some .local)
    (hB1 : typeLookup (.type "Exception") "symbol" = pure none) (hB2 : typeLookup (.type "Exception") "data" = pure none)
    {sy da : Value} {Q : Value → Shared → Prop}
    (hq : ∀ h' tk e dx t es n, (∀ b o, s.heap.get? b = some o → h'.get? b = some o) → s.heap.get? e = none → s.heap.get? dx = none → dx ≠ e → h'.get? e = some (excO C (some dx) (excF t)) → h'.get? dx = some (dictOf es n) → StrK es → fnd "symbol" es = some sy → Q (.ref e) ⟨h', s.gens, s.drawn, tk, s.os⟩) :
    wpAny (model c.prog c.w) A (call (.ref C) [sy, da]) Q E s := by
  obtain ⟨h, g, d, t, os⟩ := s
  refine hideG fun R_ k_ => ?_
  obtain ⟨nm, q, bs, sn, sub, ab, col, dd, k0, k1, k2, k3, k5, hC⟩ := X.obj
  obtain ⟨es, ep, oc', od', osl', hN, hSK, hi, hns, h1, h2⟩ := X.ns
  obtain ⟨oI, hfI, hfc⟩ := X.fn
  refine k_ ?_
  clear k_
  have hn : h.Ns N (nsFind es) := ⟨_, es, ep, hIn _ _ hN, rfl, hSK, fun _ => rfl⟩
  refine wpAny_call_exc_init PySem.F.excBase_Exception (hIn _ _ hC) hn hi (hIn _ _ hfI) hfc (fun h' e hm => ?_) (by show 2 ≤ sizeLine; rw [sizeLine_eq]; decide)
  refine hideG fun R_ k_ => ?_
  obtain ⟨tt, he, het, htt⟩ := hm.there
  refine k_ ?_
  clear k_
  have hIn' : c.K.In h' := hIn.keeps hm.keeps
  refine wpAny_call (codeAny_call_def (fd := fnOf name qual params [.Assign [.Attribute (.Name "self" p1) "symbol" p2] (.Name "symbol" p3) p4, .Assign [.Attribute (.Name "self" p5) "data" p6] (.Name "data" p7) p8] scope dV kV doc pm an cdv ct) (by show A.depth + 1 < 1000; lia) (hIn' _ _ ho) rfl (hlim.keeps hm.keeps) (codeRec_of hIn' hcd) rfl (hb _ _ _ _ hIn') hcell (fun x hx => ?_) (fun h₀ hns0 hkeep => ?_) hco hgen hk)
  · simp only [List.mem_cons, List.not_mem_nil, or_false] at hx
    rcases hx with rfl | rfl | rfl
    · exact l1
    · exact l2
    · exact l3
  have L0 : h'.get? h'.objs.size = none := get_size (Nat.le_refl _)
  have hne : ∀ b o, h.get? b = some o → e ≠ b := fun b o q z => by rw [← z, hm.new] at q; exact nomatch q
  have he0 : h₀.get? e = some (excO C none (excF tt)) := hkeep _ _ he
  refine exc_body (sy := sy) (da := da) (s := ⟨h₀, g, d, _, os⟩) PySem.F.store_Exception (hkeep _ _ (hIn' _ _ hC)) (⟨_, es, ep, hkeep _ _ (hIn' _ _ hN), rfl, hSK, fun _ => rfl⟩ : h₀.Ns N (nsFind es)) hns h1 h2 hB1 hB2 he0 hk l1 l2 l3 hns0 rfl rfl rfl (hne _ _ (hIn _ _ hC)) (hne _ _ (hIn _ _ hN)) (fun z => ?_) fun h3 tk es3 n3 K3 X3 D3 S3 F3 => ?_
  · have z : e = h'.objs.size := z
    rw [z, L0] at he; exact nomatch he
  · refine ⟨rfl, hq h3 tk e h₀.objs.size tt es3 n3 (fun b o q => K3 b o (Ne.symm (hne b o q)) (hkeep _ _ (hm.keeps _ _ q))) hm.new ?_ (fun z => ?_) X3 D3 S3 F3⟩
    · cases q : h.get? h₀.objs.size with
      | none => rfl
      | some o => exact absurd (Heap.lt_size (hkeep _ _ (hm.keeps _ _ q))) (Nat.lt_irrefl _)
    · have := Heap.lt_size he0
      rw [← z] at this; exact Nat.lt_irrefl _ this

theorem exc_raise {M : Model} {A : Around} {E : Value → Shared → Prop} {env : Env} {s : Shared} {x : Sem Value} {Q : Flow → Shared → Prop} {nm q : Str} {C N : Addr} {bs bm : List Value} {sn : List Str} {sub : List Value} {ab : Bool} {col : Option Bool} {dd : Option Addr} {k0 k1 k2 k3 k5 : Option Value} {newId : String}
    (hbase : bm.contains (.type "BaseException") = true) (hh : A.handled = none)
    (h : wpAny M A x (fun v s₁ => ∃ e t dx, v = .ref e ∧ s₁.heap.get? C = some (excClassObj nm q C N bs bm true sn sub ab col dd k0 k1 k2 k3 k5 newId) ∧
      s₁.heap.get? e = some (excO C (some dx) (excF t)) ∧ E (.ref e) s₁) E s) :
    wpAny M A (raiseStmt env (some x) none) Q E s := by
  have hcB : (Value.ref C :: bm).contains (.type "BaseException") = true := by rw [List.contains_cons, hbase, Bool.or_true]
  unfold raiseStmt
  refine wpAny_bind (wpAny_mono h (fun v s₁ h₁ => ?_) fun _ _ x => x)
  refine hideG fun R_ k_ => ?_
  obtain ⟨e, t, dx, rfl, hC, he, hE⟩ := h₁
  refine k_ ?_
  clear k_
  obtain ⟨hp, g, d, tk, os⟩ := s₁
  repeat (first | with_reducible refine wpAny_loadPart_at he ?_ | with_reducible refine wpAny_loadPart_at hC ?_ | (with_reducible refine wpAny_isSubtype_exc hC ?_; rw [hcB]) | wp_step)
  exact wpAny_raiseNew_none hh hE

theorem S_raise {z : Z} {k : Nat} {σ : St} {QF : Fl → St → Prop} {QE : (Nat → Option MO) → Nat → Prop} {C N fI : Addr} (hz : z.Ok k) (X : ExC z.c.K C N fI)
    {name qual : Str} {params : Arguments} {scope : Scope} {dV kV doc pm cdv ct oc : Value} {an od : Option Addr} {osl : Array (Option Value)} {p1 p2 p3 p4 p5 p6 p7 p8 : Pos}
    (ho : z.c.K.lookup fI = some ⟨oc, od, .func (fnOf name qual params [.Assign [.Attribute (.Name "self" p1) "symbol" p2] (.Name "symbol" p3) p4, .Assign [.Attribute (.Name "self" p5) "data" p6] (.Name "data" p7) p8] scope dV kV doc pm an cdv ct), osl⟩)
    (hcd : codeIn z.c.K cdv qual = true) (hb : ∀ s x y u, z.c.K.In s.heap → BindsTo s (fnOf name qual params [.Assign [.Attribute (.Name "self" p1) "symbol" p2] (.Name "symbol" p3) p4, .Assign [.Attribute (.Name "self" p5) "data" p6] (.Name "data" p7) p8] scope dV kV doc pm an cdv ct) ⟨[x, y, u], []⟩ [("self", x), ("symbol", y), ("data", u)])
    (hcell : ∀ x ∈ scope.names, x.2 ≠ .cell) (hk : scope.kind = .function) (hco : scope.isCoroutine = false) (hgen : scope.isGenerator = false)
    (l1 : scope.names.lookup ("self" : Str) = some .local) (l2 : scope.names.lookup ("symbol" : Str) = some .local) (l3 : scope.names.lookup ("data" : Str) = some .local)
    (hB1 : typeLookup (.type "Exception") "symbol" = pure none) (hB2 : typeLookup (.type "Exception") "data" = pure none)
    (hkeep : keepIn z.c.K (.ref C) = true) (herr : ∀ W σ e s, z.pre W σ s → Fly C .none W e s → QE σ.o σ.nx → z.XE.p W e s)
    {x : Str} {np cpos pos : Pos} {e1 e2 : Expr} (hG : nsIn z.c.K mainGlobals x = some (some (.ref C))) (hxk : z.env.kindOf x = some .globalImplicit) (hxd : (x == ("__debug__" : Str)) = false)
    (h : EX z VRs (spliced (backTo cpos (starEach [e1, e2] z.env))) σ fun vs σ1 => ∃ u, vs = [.str "user-error", u] ∧ QE σ1.o σ1.nx)
    (hs : noStars [e1, e2] = true) : EX z FlR (exec (.Raise (some (.Call (.Name x np) [e1, e2] [] cpos)) none pos) z.env) σ QF := fun W s p => by
  refine hideG fun R_ k_ => ?_
  obtain ⟨nm, q, bs, sn, sub, ab, col, dd, k0, k1, k2, k3, k5, hC⟩ := X.obj
  refine k_ ?_
  clear k_
  show wpAny _ _ (do standAt pos; raiseStmt z.env (some (do let v ← eval (.Call (.Name x np) [e1, e2] [] cpos) z.env; standAt pos; pure v)) none) _ _ s
  refine wpAny_bind (wpAny_standAt (exc_raise (C := C) (nm := nm) (q := q) (N := N) (bs := bs) (sn := sn) (sub := sub) (ab := ab) (col := col) (dd := dd) (k0 := k0) (k1 := k1) (k2 := k2) (k3 := k3) (k5 := k5) (newId := "Exception.__new__") (bm := [.type "Exception", .type "BaseException", .type "object"]) (by decide) hz.hd (wpAny_bind (wpAny_mono ?_ (fun v s₁ h₁ => wpAny_bind (wpAny_standAt (wpAny_pure h₁))) fun _ _ x => x))))
  have hst := noStars_star (env := z.env) hs
  refine Call_ (wpAny_mono (R_con (Q := fun b σ1 => b = .con (.ref C) ∧ σ1 = σ) ⟨rfl, rfl⟩ hz hG hxk hxd W s p) (fun v s₁ h₁ => ?_) fun _ _ e => e) rfl
  refine hideG fun R_ k_ => ?_
  obtain ⟨W1, b, σ1, l1', r1, pp1, rfl, rfl⟩ := h₁
  refine k_ ?_
  clear k_
  obtain rfl := r1.inv
  refine callWith_K (K := z.c.K) pp1.g.In hkeep (seq l1' h pp1 fun W2 vs σ2 xs s2 l2' r2 pp2 q2 => ⟨pp2.g.In, ?_⟩) hst.1 (noStars_any hst.2)
  refine hideG fun R_ k_ => ?_
  obtain ⟨u, rfl, hQ⟩ := q2
  obtain ⟨y1, ys, rfl, ry1, r2'⟩ := r2.cons_inv
  obtain ⟨y2, ys, rfl, ry2, r2''⟩ := r2'.cons_inv
  obtain rfl := r2''.nil_inv
  cases ry1
  refine k_ ?_
  clear k_
  refine exc_make X pp2.g.In pp2.g.limit (by have := hz.dep; lia) ho hcd hb hcell hk hco hgen l1 l2 l3 hB1 hB2 fun h' tk e dx tt es n K3 en dn de eX eD sK sF => ?_
  obtain ⟨pp3, l3', F3⟩ := pp2.bornF (h' := h') (toks := tk) (dr := s2.drawn) K3 dn eD
  obtain ⟨fF, fP, fR, fL⟩ := pp2.nowhere en
  refine ⟨e, tt, dx, rfl, K3 _ _ (pp2.g.In _ _ hC), eX, z.XE.mono ((l1'.trans l2').trans l3') (herr _ _ _ _ pp3 ⟨e, .none, rfl, ⟨⟨_, _, eX, rfl, rfl, Nat.lt_of_lt_of_le (by decide : 1 < 6) (Nat.le_refl 6), rfl, dx, es, n, _, rfl, F3, sK, sF⟩, ⟨?_, fP, fR⟩⟩, .inl ⟨rfl, rfl⟩⟩ hQ)⟩
  exact (if_neg (Ne.symm de)).trans fF
end Mine
end

section
open PySem PySem.W PySem.Calls PyProof.Rows PySem.SeqAt
set_option Elab.async false
set_option linter.unusedVariables false
set_option autoImplicit true
set_option maxRecDepth 100000
set_option tactic.hygienic false
namespace Mine

theorem triples_snoc (l : List Value) (h : TriplesOk l) {a b : Nat} {c : Value} : TriplesOk (l ++ [rawInt a, rawInt b, c]) := by
  fun_induction TriplesOk l with
  | case1 => simp [TriplesOk, rawInt]
  | case2 i t j u v r ih => simpa [TriplesOk] using ih h
  | case3 => exact h.elim
set_option tactic.hygienic true in
theorem among_snoc {pos : Pos} {a b : Nat} {c cv : Value} (l : List Value) (h : TriplesOk l) (e : codeAmong pos (l ++ [rawInt a, rawInt b, c]) = some cv) : codeAmong pos l = some cv ∨ cv = c := by
  fun_induction TriplesOk l with
  | case1 =>
    simp only [List.nil_append, codeAmong, rawInt] at e
    split at e
    · obtain rfl := Option.some.inj e; exact .inr rfl
    · exact nomatch e
  | case2 i t j u v r ih =>
    simp only [List.cons_append, codeAmong] at e ⊢
    split at e
    · rename_i q; rw [if_pos q]; exact .inl e
    · rename_i q; rw [if_neg q]; exact ih h e
  | case3 => exact h.elim

set_option tactic.hygienic true in
theorem GS.grow {c W o nx s} (g : GS c W o nx s) {P : Addr} {q : Str} (hpin : c.pin = some (P, q)) {ps : Array Value} (hP : s.heap.get? P = some (tabObj ps)) {h' : Heap} (hx : Heap.ExtBut P s.heap h') {c' : Addr} {oc : Obj} {vs : Array Value} {t : Tok}
    (hc : s.heap.objs.size ≤ c') (ho : h'.get? c' = some oc) (hd : oc.data = .fields vs) (hv : vs[1]? = some (.str q t)) {pos : Pos}
    (htb : h'.get? P = some (tabObj (ps ++ #[rawInt pos.line, rawInt pos.col, .ref c']))) {toks dr} : GS c (W.addF c' oc) o nx ⟨h', s.gens, dr, toks, s.os⟩ ∧ W.le (W.addF c' oc) := by
  refine hideG fun R_ k_ => ?_
  obtain ⟨pP, ps', eP, tP, fP⟩ := g.new.2 P q hpin
  rw [hP] at eP
  have eP : ps = ps' := by cases eP; rfl
  subst eP
  refine k_ ?_
  clear k_
  have keep : ∀ b ob, b ≠ P → s.heap.get? b = some ob → h'.get? b = some ob := fun b ob n e => hx b ob n e
  have hno : s.heap.get? c' = none := get_size hc
  have F0 : W.F c' = none := by
    cases e : W.F c' with
    | none => rfl
    | some x => have := g.fz _ _ e; cases hno.symm.trans this
  have l := Wd.le_addF (x := oc) F0
  have FP : W.F P = none := (g.park _ _ pP).2.2
  have hcP : P ≠ c' := fun z => by rw [← z, hP] at hno; exact nomatch hno
  refine ⟨⟨g.ok, fun b x e => ?_, fun b x e => l.F _ _ (g.base b x e), fun n x e => ?_, fun n b e => ⟨?_, (g.sep n b e).2.1, ?_⟩, g.inj, g.fresh, fun b m e => ?_, g.os, g.gens, g.new.1, fun P' q' e => ?_⟩, l⟩
  · simp only [Wd.addF] at e
    split at e
    · rename_i z; subst z; obtain rfl := Option.some.inj e; exact ho
    · exact keep _ _ (fun z => by subst z; exact nomatch FP.symm.trans e) (g.fz b x e)
  · obtain ⟨b, hb, m⟩ := g.mu n x e
    obtain ⟨ob, z⟩ := m.some
    exact ⟨b, hb, (m.same ((keep _ _ (fun z => by subst z; have := (g.sep n _ hb).2.1; cases pP.symm.trans this) z).trans z.symm)).mono l⟩
  · exact (if_neg (fun z => by subst z; obtain ⟨_, _, ob, z⟩ := g.sep n _ e; exact nomatch hno.symm.trans z)).trans ((g.sep n b e).1)
  · obtain ⟨ob, z⟩ := (g.sep n b e).2.2
    exact ⟨ob, keep _ _ (fun z => by subst z; have := (g.sep n _ e).2.1; cases pP.symm.trans this) z⟩
  · obtain ⟨k1, ⟨ob, k2⟩, k3⟩ := g.park b m e
    by_cases z : b = P
    · subst z
      have e : W.P b = some m := e
      obtain rfl := Option.some.inj (pP.symm.trans e)
      refine ⟨trivial, ⟨_, htb⟩, ?_⟩
      simp only [Wd.addF]; rw [if_neg hcP]; exact k3
    · have k4 := keep b ob z k2
      rw [k2] at k1
      refine ⟨by rw [k4]; exact k1, ⟨ob, k4⟩, ?_⟩
      exact (if_neg (fun z => by subst z; exact nomatch hno.symm.trans k2)).trans k3
  · rw [hpin] at e; cases e
    refine ⟨pP, _, htb, ?_, fun pos' cv hcv => ?_⟩
    · rw [Array.toList_append]; exact triples_snoc _ tP
    · rw [Array.toList_append] at hcv
      rcases among_snoc _ tP hcv with z | rfl
      · refine hideG fun R_ k_ => ?_
        obtain ⟨c2, oc2, vs2, t2, e1, e2, e3⟩ := fP pos' cv z
        refine k_ ?_
        clear k_
        exact ⟨c2, oc2, vs2, t2, e1, l.F _ _ e2, e3⟩
      · exact ⟨c', oc, vs, t, rfl, if_pos rfl, hd, hv⟩

noncomputable def funP (qual : Str) (params : Arguments) (body : Expr) (scope : Scope) (pm : Value) (ns : List Str) : List Addr → Obj → (Addr → Option Obj) → Prop := fun as ob F =>
  ∃ c' ctv oc vs t, ob = kla_obj "<lambda>" qual params body scope (ns.zip as) pm c' ctv ∧ F c' = some oc ∧ oc.data = .fields vs ∧ vs[1]? = some (.str qual t)
theorem funP_mono {qual params body scope pm ns} : ∀ as ob F F', (∀ x y, F x = some y → F' x = some y) → funP qual params body scope pm ns as ob F → funP qual params body scope pm ns as ob F' := fun as ob F F' l h => by
  obtain ⟨c', ctv, oc, vs, t, a, b, d⟩ := h
  exact ⟨c', ctv, oc, vs, t, a, l _ _ b, d⟩
noncomputable def closR (z : Z) : List (Str × Addr) → List Nat → Prop
  | [], [] => True
  | (x, a) :: r, k :: ks => z.env.cells.lookup x = some a ∧ z.cl.lookup x = some k ∧ closR z r ks
  | _, _ => False
theorem closR_at {z : Z} {W W' : Wd} {m h} (f : FrA W z.env z.cl m h) (l : W.le W') : ∀ {clos : List (Str × Addr)} {ks : List Nat}, closR z clos ks → ks.map W'.ρ = (clos.map (·.2)).map some
  | [], [], _ => rfl
  | (x, a) :: r, k :: ks, ⟨e1, e2, e3⟩ => by
    obtain ⟨b, q1, q2⟩ := f.cells x k e2
    obtain rfl := Option.some.inj (e1.symm.trans q1)
    simp only [List.map_cons]
    rw [l.ρ _ _ q2, closR_at f l e3]
  | [], _ :: _, h => h.elim
  | _ :: _, [], h => h.elim

structure LamC (c : Cx) (cc P : Addr) (q : Str) : Prop where
  pin : c.pin = some (P, q)
  cd : CodeHd c.h₀ cc P
  bm : ∃ bm ob, c.mg "__builtins__" = some (.ref bm) ∧ bm ≠ builtinsNs ∧ c.h₀.get? bm = some ob ∧ ob.cls = .type "module" ∧ ob.dict = some builtinsNs ∧ ob.data = .plain

section
variable {z : Z} {n : Nat} {σ : St} {Q : V → St → Prop}
theorem Z.pre.grow {W : Wd} {s : Shared} (p : z.pre W σ s) {P : Addr} {q : Str} (hpin : z.c.pin = some (P, q)) {ps : Array Value} (hP : s.heap.get? P = some (tabObj ps)) {h' : Heap} (hx : Heap.ExtBut P s.heap h') {c' : Addr} {oc : Obj} {vs : Array Value} {t : Tok}
    (hc : s.heap.objs.size ≤ c') (ho : h'.get? c' = some oc) (hd : oc.data = .fields vs) (hv : vs[1]? = some (.str q t)) {pos : Pos}
    (htb : h'.get? P = some (tabObj (ps ++ #[rawInt pos.line, rawInt pos.col, .ref c']))) {toks dr} : z.pre (W.addF c' oc) σ ⟨h', s.gens, dr, toks, s.os⟩ ∧ W.le (W.addF c' oc) := by
  obtain ⟨g', l⟩ := p.g.grow hpin hP hx hc ho hd hv htb (toks := toks) (dr := dr)
  have pP := (p.g.new.2 P q hpin).1
  have LP : z.env.locals ≠ P := fun e => by have := p.f.outP; rw [e, pP] at this; exact nomatch this
  have Lc : z.env.locals ≠ c' := fun e => absurd p.f.lt (by rw [e]; exact Nat.not_lt.mpr hc)
  refine ⟨⟨g', ⟨by obtain ⟨m', e, b⟩ := p.f.ns; exact ⟨m', e.extBut hx LP, fun x v q => by obtain ⟨v', c, d⟩ := b x v q; exact ⟨v', c, d.mono l⟩⟩, ?_, p.f.outP, p.f.outR, p.f.cells⟩, p.k.mono l⟩, l⟩
  simp only [Wd.addF]; rw [if_neg Lc]; exact p.f.outF

theorem R_lambda {cc P : Addr} {params : Arguments} {body : Expr} {scope : Scope} {pos : Pos} {clos : List (Str × Addr)} {ks : List Nat} {qual : Str}
    (L : LamC z.c cc P qual) (hq : z.env.qual ++ "<lambda>" = qual) (hdef : defaultsOf params z.env = ([], [])) (hg0 : z.env.globals = mainGlobals) (hcode : z.env.code = .ref cc)
    (hcl : closureFor scope z.env = pure clos) (hR : closR z clos ks)
    (h : Q (.ref σ.nx) ⟨σ.m, upd σ.o σ.nx (.clo (funP qual params body scope ((z.c.mg "__name__").getD .none) (clos.map (·.1))) funP_mono ks), σ.nx + 1⟩) :
    EX z VR (eval (.Lambda params body scope pos) z.env) σ Q := fun W s p => by
  refine hideG fun R_ k_ => ?_
  obtain ⟨pP, ps, eP, tP, fP⟩ := p.g.new.2 P qual L.pin
  refine k_ ?_
  clear k_
  have hgs : s.heap.Ns mainGlobals z.c.mg := p.g.ok.g.keeps p.g.keep
  have FP : W.F P = none := (p.g.park _ _ pP).2.2
  have hgP : mainGlobals ≠ P := fun e => by
    obtain ⟨o, es, ep, e1, d, _⟩ := hgs
    rw [e, eP] at e1; obtain rfl := Option.some.inj e1; cases d
  have hb : s.heap.BuiltinsAt z.c.mg P := by
    refine hideG fun R_ k_ => ?_
    obtain ⟨bm, ob, b1, b2, b3, b4, b5, b6⟩ := L.bm
    refine k_ ?_
    clear k_
    refine ⟨bm, ob, b1, b2, fun e => ?_, fun e => ?_, p.g.keep _ _ b3, b4, b5, b6⟩
    · obtain ⟨o, es, ep, e1, d, _⟩ := p.g.ok.g
      rw [← e, b3] at e1; obtain rfl := Option.some.inj e1; cases b6.symm.trans d
    · have := p.g.base _ _ b3
      rw [e, FP] at this; exact nomatch this
  have hz : (clos.map (·.1)).zip (clos.map (·.2)) = clos := by rw [List.zip_map']; simp
  have fin' : ∀ {W1 : Wd} {s1 : Shared} {ob : Obj} (tk : Tok), z.pre W1 σ s1 → W.le W1 → ob.isFreed = false → funP qual params body scope ((z.c.mg "__name__").getD .none) (clos.map (·.1)) (clos.map (·.2)) ob W1.F →
      z.post VR Q W (.ref s1.heap.objs.size) { s1 with heap := s1.heap.push ob, toks := tk } := fun {W1 s1 ob} tk p1 l1 hf hfun => by
    refine hideG fun R_ k_ => ?_
    obtain ⟨p2, l2, e2⟩ := p1.newM (x := ob) hf (toks := tk) (dr := s1.drawn) (y := .clo (funP qual params body scope ((z.c.mg "__name__").getD .none) (clos.map (·.1))) funP_mono ks) ⟨clos.map (·.2), ob, closR_at p1.f (Wd.le_addR (p1.g.fresh σ.nx (Nat.le_refl _))) hR, Heap.get?_push_size _ hf, hfun⟩
    refine k_ ?_
    clear k_
    exact there (l1.trans l2) (.ref e2) p2 h
  subst hq
  refine kla_eval hdef ?_
  cases hfound : codeAmong pos ps.toList with
  | none =>
    refine kla_makeFunction (mg := z.c.mg) hcl hg0 hgs hcode (L.cd.keeps p.g.keep) eP tP hfound hgP hb fun c' ctv h' tk hx hge hlt hrec htb => ?_
    refine hideG fun R_ k_ => ?_
    obtain ⟨c2, oc, vs, t, e2, hoc, hd, hv⟩ := hrec
    cases e2
    obtain ⟨p1, l1⟩ := p.grow L.pin eP hx hge hoc hd hv htb (toks := s.toks) (dr := s.drawn)
    refine k_ ?_
    clear k_
    exact fin' tk p1 l1 rfl ⟨c', ctv, oc, vs, t, by rw [hz], if_pos rfl, hd, hv⟩
  | some cv =>
    refine hideG fun R_ k_ => ?_
    obtain ⟨c', oc, vs, t, rfl, hF, hd, hv⟩ := fP pos cv hfound
    refine k_ ?_
    clear k_
    refine kla_makeFunctionHit (mg := z.c.mg) hcl hg0 hgs hcode (L.cd.keeps p.g.keep) eP tP hfound hb fun ctv h' tk hk hsz => ?_
    exact fin' tk (p.ext (toks := s.toks) (dr := s.drawn) hk) .rfl' rfl ⟨c', ctv, oc, vs, t, by rw [hz], hF, hd, hv⟩
end
end Mine
end

section
open PySem PySem.W PySem.Calls PyProof.Rows PySem.SeqAt
set_option Elab.async false
set_option linter.unusedVariables false
set_option autoImplicit true
set_option maxRecDepth 100000
set_option tactic.hygienic false
namespace Mine

section
variable {prog : Program} {w : World} {A : Around} {E : Value → Shared → Prop} {K : Frag} {x C N : Addr} {ox : Obj} {od : Option Obj} {name nm q : Str} {expr : Bool} {v : Value} {Q : Value → Shared → Prop}
  {bs : List Value} {hdct : Bool} {sn : List Str} {sub : List Value} {ab : Bool} {col : Option Bool} {dd : Option Addr} {k0 k1 k2 k3 k5 : Option Value} {newId : String}

theorem exc_check {M : Model} {h : Heap} {g : Array GenState} {d : Drawn} {t : Nat} {os : OsState} {nameV : Value} {Q : Unit → Shared → Prop}
    (hC : h.get? C = some (excClassObj nm q C N bs [.type "Exception", .type "BaseException", .type "object"] hdct sn sub ab col dd k0 k1 k2 k3 k5 newId))
    (hx : h.get? x = some ox) (hc : ox.cls = .ref C) (hq : Q () ⟨h, g, d, t, os⟩) : wpAny M A (checkBuiltinCall "BaseException.__getattribute__" ⟨[.ref x, nameV], []⟩) Q E ⟨h, g, d, t, os⟩ := by
  have hk : builtinKind "BaseException.__getattribute__" = some .slot := by decide +kernel
  have hsplit : splitId "BaseException.__getattribute__" = some ("BaseException", "__getattribute__") := by decide +kernel
  have hcB : (Value.ref C :: ([.type "Exception", .type "BaseException", .type "object"] : List Value)).contains (.type "BaseException") = true := by rw [List.contains_cons]; simp
  have ha := F.args_bexc_ga (.ref x) nameV
  simp only [checkBuiltinCall, hk, hsplit]
  refine wpAny_bind ?_
  unfold isInstance
  repeat (first | (with_reducible refine wpAny_loadPart_at hx ?_; rw [hc]) | (with_reducible refine wpAny_isSubtype_exc hC ?_; rw [hcB]) | wp_step)
  exact hq

theorem exc_get {s : Shared} (X : K.In s.heap) (I : InstAt s.heap x ox C od) (hC : s.heap.get? C = some (excClassObj nm q C N bs [.type "Exception", .type "BaseException", .type "object"] hdct sn sub ab col dd k0 k1 k2 k3 k5 newId))
    (hga : findIn K (.ref C) "__getattribute__" = some (some (.builtin "BaseException.__getattribute__"))) (hgA : findIn K (.ref C) "__getattr__" = some none) (hf : findObj K C od name = some (.value v)) (hh : handedIn v = true)
    (h : Q v { s with toks := s.toks + 1 }) : wpAny (model prog w) A (getAttr (.ref x) name expr) Q E s := by
  obtain ⟨hp, g, d, t, os⟩ := s
  have L0 := I.type (M := model prog w)
  have L1 := looks_findIn (M := model prog w) X hga
  have L2 := looks_findIn (M := model prog w) X hgA
  have L3 := looks_find (M := model prog w) X I hf
  have hx0 : (expr && onTheHeap (Value.builtin "BaseException.__getattribute__")) = false := by induction expr <;> rfl
  unfold getAttr getAttrBy
  refine wpAny_bind (wpAny_mkText (wpAny_holding (wpAny_bind (L0.at (wpAny_bind (L1.at ?_))))))
  show wpAny _ _ (getAttrByItsOwn _ _ _ _ _ _) _ _ _
  unfold getAttrByItsOwn hookBefore
  rw [if_pos (show onTheHeap (Value.ref C) = true from rfl)]
  refine wpAny_bind (L2.at ?_)
  refine wpAny_bind (wpAny_attempt (wpAny_holding ?_))
  unfold callGetattribute
  rw [hx0]
  simp only [Bool.false_eq_true, if_false]
  unfold boundAndCalled
  rw [F.attr_Exception.ga.bind]
  refine wpAny_bind (wpAny_pure (wpAny_call (codeAny_call_builtin F.attr_Exception.ga.plain F.entry_bexc_ga (exc_check hC I.at_ I.cls ?_))))
  unfold Builtin.«object.__getattribute__»
  refine wpAny_bind (wpAny_pure (wpAny_bind (wpAny_pure (wpAny_bind (L0.at (wpAny_bind (L3.at ?_)))))))
  refine wpAny_pure ?_
  show wpAny _ _ (handedOut v) _ _ _
  rw [handedOut_of hh]; exact wpAny_pure h

theorem exc_clause {A : Around} {E : Value → Shared → Prop} {R : Flow → Shared → Prop} {s : Shared} {env : Env} {m : Str → Option Value} {er : Str} {tt : Tok} {els : Expr} {q1 q2 q3 q4 q5 q6 q7 : Pos} {n1 n2 : Nat}
    (X : K.In s.heap) (I : InstAt s.heap x ox C od) (hC : s.heap.get? C = some (excClassObj nm q C N bs [.type "Exception", .type "BaseException", .type "object"] hdct sn sub ab col dd k0 k1 k2 k3 k5 newId))
    (hga : findIn K (.ref C) "__getattribute__" = some (some (.builtin "BaseException.__getattribute__"))) (hgA : findIn K (.ref C) "__getattr__" = some none) (hf : findObj K C od "symbol" = some (.value (.str "user-error" tt)))
    (hk : env.scope.kind = .function) (hl : env.kindOf er = some .local) (hd : (er == ("__debug__" : Str)) = false) (hn : s.heap.Ns env.locals m) (hm : m er = some (.ref x))
    (h : ∀ t1 tk, R (.ret (.str "refused" t1)) { s with toks := tk }) :
    wpAny (model prog w) A (execs [.Return (some (.IfExp (.Compare (.Attribute (.Name er q1) "symbol" q2) [.Eq] [.Constant (.str "user-error") n1 q3] q4) (.Constant (.str "refused") n2 q5) els q6)) q7] env) R E s := by
  refine wpAny_execs_cons (wpAny_Return_some (IfExp_ (wpAny_isTrue_Compare1 (Attribute_any_ (wpAny_Name (wpAny_loadName_local hk hl hn hm (exc_get (s := s) X I hC hga hgA hf rfl (Constant_str (eq_str ?_)))) hd) rfl) rfl)))
  show wpAny _ _ (truthy (.bool (("user-error" : Str) == "user-error"))) _ _ _
  rw [show (("user-error" : Str) == "user-error") = true from by decide]
  refine wpAny_pure (Constant_str (h _ _))
end

section
variable {c : Cx} {C : Addr} {n : Nat} {o : Nat → Option MO} {nx : Nat}

noncomputable def FL (c : Cx) (Fly : Wd → Value → Shared → Prop) (n k : Nat) (o : Nat → Option MO) (nx : Nat) (Q : V → (Nat → Option MO) → Nat → Prop) (QE : (Nat → Option MO) → Nat → Prop) : Prop :=
  ∀ A outer W s a, A.frames = some outer → A.handled = none → A.depth + 2 * n ≤ 990 → A.units + 30 * n ≤ 9000 → GS c W o nx s → Stk W outer → W.ρ k = some a →
   codeAny (model c.prog c.w) A (.call (.ref a) ⟨[], []⟩) (fun r s' => match r with
     | .ok (.ret v) => FSok c Q W v s'
     | .ok _ => False
     | .error e => FSer c Fly QE W e s') s
theorem zip_fst {α β : Type} : ∀ {ns : List α} {as : List β}, ns.length = as.length → (ns.zip as).map (·.1) = ns
  | [], [], _ => rfl
  | _ :: ns, _ :: as, h => by rw [List.zip_cons_cons, List.map_cons, zip_fst (Nat.succ.inj h)]
theorem zip_cells {W : Wd} : ∀ {ns : List Str} {ks : List Nat} {as : List Addr}, ks.map W.ρ = as.map some → ∀ x j, (ns.zip ks).lookup x = some j → ∃ b, (ns.zip as).lookup x = some b ∧ W.ρ j = some b
  | [], _, _, _, x, j, e => by cases e
  | _ :: _, [], _, _, x, j, e => by cases e
  | _ :: _, _ :: _, [], h, x, j, e => by cases h
  | y :: ns, k :: ks, a :: as, h, x, j, e => by
    simp only [List.map_cons, List.cons.injEq] at h
    rw [List.zip_cons_cons, List.lookup_cons] at e ⊢
    cases hx : x == y with
    | true => rw [hx] at e; obtain rfl := Option.some.inj e; exact ⟨a, rfl, h.1⟩
    | false => rw [hx] at e; exact zip_cells h.2 x j e
noncomputable def lamScope (scope : Scope) : Bool := scope.names.all (fun x => decide (x.2 ≠ .cell)) && decide (scope.kind = .function) && !scope.isCoroutine && !scope.isGenerator
theorem FL_intro {k : Nat} {ks : List Nat} {qual : Str} {body : Expr} {scope : Scope} {pm : Value} {params : Arguments} {ns : List Str} {hm} {Q : V → (Nat → Option MO) → Nat → Prop} {QE : (Nat → Option MO) → Nat → Prop}
    (ho : o k = some (.clo (funP qual params body scope pm ns) hm ks)) (hl : ns.length = ks.length) (hsc : lamScope scope = true) (hbind : ∀ clos cv ctv, bindArgs (kla_fn "<lambda>" qual params body scope clos pm cv ctv) ⟨[], []⟩ = pure [])
    (h : ∀ A L f cdv cs outer, cs.map (·.1) = ns → (fnZc c C A qual scope L f cdv cs (ns.zip ks) outer QE).Ok n → (fnZc c C A qual scope L f cdv cs (ns.zip ks) outer QE).Call → (fnZc c C A qual scope L f cdv cs (ns.zip ks) outer QE).Own →
      EX (fnZc c C A qual scope L f cdv cs (ns.zip ks) outer QE) VR (eval body (envX qual scope L f cdv cs)) ⟨[], o, nx⟩ fun b σ' => Q b σ'.o σ'.nx) :
    FL c (Fly C .none) (n + 1) k o nx Q QE := by
  intro A outer W s a hfr hh hdep huni g kk ha
  refine hideG fun R_ k_ => ?_
  obtain ⟨a', ha', as, ob, e1, e2, c', ctv, oc, vs, t, rfl, hF, hd, hv⟩ := g.mu k _ ho
  obtain rfl := Option.some.inj (ha.symm.trans ha')
  refine k_ ?_
  clear k_
  simp only [lamScope, Bool.and_eq_true, List.all_eq_true, decide_eq_true_eq, Bool.not_eq_true'] at hsc
  refine hideG fun R_ k_ => ?_
  obtain ⟨⟨⟨hcell, hk⟩, hco⟩, hgen⟩ := hsc
  refine k_ ?_
  clear k_
  have hlen : ns.length = as.length := by rw [hl, ← List.length_map (f := W.ρ), e1, List.length_map]
  refine kla_callFunE (by show A.depth < 1000; lia) e2 rfl hco hgen rfl ⟨c', oc, vs, t, rfl, g.fz _ _ hF, hd, hv⟩ ?_
  rw [hbind]
  refine wpAny_pure (wpAny_newFunctionEnv hcell (fun x hx => by exact nomatch hx) (fun h₁ hns hsb => ?_) hk)
  have hkeep : ∀ b o, s.heap.get? b = some o → h₁.get? b = some o := fun b o e => hsb.extBut b o (Nat.ne_of_lt (Heap.lt_size e)) (Heap.get?_push_of_some _ e)
  refine ⟨g.limit.keeps hkeep, ?_⟩
  show codeAny _ _ (.expr body (envX qual scope s.heap.objs.size a (.ref c') (ns.zip as))) _ _
  have hz : (fnZc c C (A.deeper (envX qual scope s.heap.objs.size a (.ref c') (ns.zip as))) qual scope s.heap.objs.size a (.ref c') (ns.zip as) (ns.zip ks) outer QE).Ok n :=
    ⟨hk, rfl, rfl, hh, by show A.depth + 1 + _ ≤ _; lia, by show A.units + 3 + _ ≤ _; lia⟩
  have hfs : (A.deeper (envX qual scope s.heap.objs.size a (.ref c') (ns.zip as))).frames = some (envX qual scope s.heap.objs.size a (.ref c') (ns.zip as) :: outer) := by show A.frames.map _ = _; rw [hfr]; rfl
  have p : (fnZc c C (A.deeper (envX qual scope s.heap.objs.size a (.ref c') (ns.zip as))) qual scope s.heap.objs.size a (.ref c') (ns.zip as) (ns.zip ks) outer QE).pre W ⟨[], o, nx⟩ { s with heap := h₁, toks := s.toks + ([] : List (Str × Value)).length } :=
    ⟨g.ext hkeep, ⟨⟨_, hns, fun x v e => by cases e⟩, g.freshF, g.freshP, (fun j q => by obtain ⟨_, e⟩ := (g.sep j _ q).2.2; exact absurd (Heap.lt_size e) (Nat.lt_irrefl _)), zip_cells e1⟩, kk⟩
  refine kla_codeExpr (wpAny_mono (h _ _ _ _ _ outer (zip_fst hlen) hz ⟨rfl, hfs⟩ (XQ.own hk rfl hfs) W _ p) (fun v s' hq_ => ?_) fun e s' hq_ => ?_)
  · refine hideG fun R_ k_ => ?_
    obtain ⟨W', b, σ', l, rb, p', q⟩ := hq_
    refine k_ ?_
    clear k_
    exact ⟨W', _, _, _, l, rb, p'.g, q⟩
  · refine hideG fun R_ k_ => ?_
    obtain ⟨W', σ', fl, l, p', fly, hfl, q⟩ := hq_
    refine k_ ?_
    clear k_
    exact leaving_fly (z := ⟨c, callerA, envX qual scope s.heap.objs.size a (.ref c') (ns.zip as), ns.zip ks, outer, .no⟩) p' fly hk rfl hfs hfl fun s2 p2 f2 => ⟨W', _, _, l, p2.g, f2, q⟩
end

section
variable {z : Z} {n : Nat} {σ : St} {Q : V → St → Prop} {pos : Pos} {C : Addr}
theorem CW_lam {k m : Nat} {qual : Str} {body : Expr} {scope : Scope} {pm : Value} {params : Arguments} {ns : List Str} {hm} {ks : List Nat} {Fly : Wd → Value → Shared → Prop} {Q1 QE}
    (ho : σ.o k = some (.clo (funP qual params body scope pm ns) hm ks)) (fs : FL z.c Fly m k σ.o σ.nx Q1 QE) (hz : z.Ok n) (hcall : z.Call) (hmn : m ≤ n) (hQ : ∀ b o' nx', Q1 b o' nx' → Q b ⟨σ.m, o', nx'⟩)
    (hE : ∀ W o' nx' e s, z.pre W ⟨σ.m, o', nx'⟩ s → Fly W e s → QE o' nx' → z.XE.p W e s)
    (hFly : ∀ W e s L, Fly W e s → Fly (W.delP L) e s) : CW z (.ref k) [] [] pos σ Q := fun W s x xs r rs p => by
  obtain rfl := rs.nil_inv
  obtain ⟨a, rfl, ha⟩ := r.inv
  refine hideG fun R_ k_ => ?_
  obtain ⟨a', ha', as, ob, e1, e2, c', ctv, oc, vs, t, rfl, hF, hd, hv⟩ := p.g.mu k _ ho
  obtain rfl := Option.some.inj (ha.symm.trans ha')
  refine k_ ?_
  clear k_
  refine callWith_F0 ⟨_, _, _, _, e2⟩ ?_
  refine hideG fun R_ k_ => ?_
  obtain ⟨m', hn, hmm⟩ := p.f.ns
  obtain ⟨ob, eob⟩ : ∃ ob, s.heap.get? z.env.locals = some ob := by obtain ⟨o, _, _, e, _⟩ := hn; exact ⟨o, e⟩
  refine k_ ?_
  clear k_
  generalize hpr : nsPr m' = pr
  have l0 : W.le (W.addP z.env.locals pr) := Wd.le_addP p.f.outP
  have P0 : (W.addP z.env.locals pr).P z.env.locals = some pr := if_pos rfl
  have g0 : GS z.c (W.addP z.env.locals pr) σ.o σ.nx s := p.g.parkd (by subst hpr; exact .of hn eob) eob p.f.outF p.f.outP p.f.outR
  have k0 : Stk (W.addP z.env.locals pr) (z.env :: z.outer) := fun e he => by
    rcases List.mem_cons.mp he with rfl | he
    · exact ⟨by rw [hz.kind]; decide, _, m', hcall.fr, by rw [P0, hpr]⟩
    · exact (p.k.mono l0) e he
  have back : ∀ W' o' nx' s', (W.addP z.env.locals pr).le W' → GS z.c W' o' nx' s' → W.le (W'.delP z.env.locals) ∧ z.pre (W'.delP z.env.locals) ⟨σ.m, o', nx'⟩ s' := by
    intro W' o' nx' s' l1 g1
    have l2 : W.le (W'.delP z.env.locals) := l1.delP p.f.outP
    have hP := g1.park _ _ (l1.P _ _ P0)
    refine ⟨l2, ⟨g1.unP (p.g.new.2.ne p.f.outP), ⟨⟨m', (hpr ▸ hP.1 : nsPr m' _).ns, fun x v e => by obtain ⟨v', a, b⟩ := hmm x v e; exact ⟨v', a, b.mono l2⟩⟩, hP.2.2, if_pos rfl, fun k q => ?_, fun x k e => by obtain ⟨a, b, c⟩ := p.f.cells x k e; exact ⟨a, b, l2.ρ _ _ c⟩⟩, p.k.mono l2⟩⟩
    have := (g1.sep k _ q).2.1
    rw [l1.P _ _ P0] at this; exact nomatch this
  refine wpAny_call (codeAny_mono (fs z.A (z.env :: z.outer) (W.addP z.env.locals pr) s a hcall.frs hz.hd (Nat.le_trans (by lia) hz.dep) (Nat.le_trans (by lia) hz.uni) g0 k0 ha) fun res s' h => ?_)
  rcases res with e | (_ | _ | _ | v)
  · refine hideG fun R_ k_ => ?_
    obtain ⟨W', o', nx', l1, g1, fl, qe⟩ := h
    obtain ⟨l2, p2⟩ := back W' o' nx' s' l1 g1
    refine k_ ?_
    clear k_
    exact z.XE.mono l2 (hE _ o' nx' e s' p2 (hFly _ _ _ _ fl) qe)
  · exact h.elim
  · exact h.elim
  · exact h.elim
  · refine hideG fun R_ k_ => ?_
    obtain ⟨W', b, o', nx', l1, rb, g1, q⟩ := h
    obtain ⟨l2, p2⟩ := back W' o' nx' s' l1 g1
    refine k_ ?_
    clear k_
    exact there l2 rb.unP p2 (hQ b o' nx' q)
end
end Mine
end

section
open PySem PySem.W PySem.Calls PyProof.Rows PySem.SeqAt
set_option Elab.async false
set_option linter.unusedVariables false
set_option autoImplicit true
set_option maxRecDepth 100000
set_option tactic.hygienic false
namespace Mine

structure ExCatch (K : Frag) (C : Addr) : Prop where
  ga : findIn K (.ref C) "__getattribute__" = some (some (.builtin "BaseException.__getattribute__"))
  hook : findIn K (.ref C) "__getattr__" = some none
  sym : findIn K (.ref C) "symbol" = some none
  dict : hasDictIn K C = true

section
variable {z : Z} {n : Nat} {σ : St} {QF : Fl → St → Prop} {C N fI : Addr}

theorem R_try {QE : (Nat → Option MO) → Nat → Prop} (hz : z.Ok n) (hc : z.Call) (X : ExC z.c.K C N fI) (Y : ExCatch z.c.K C) {x er : Str} {b : List Stmt} {els : Expr} {p1 q1 q2 q3 q4 q5 q6 q7 q8 pos : Pos} {n1 n2 : Nat}
    (hG : nsIn z.c.K mainGlobals x = some (some (.ref C))) (hxk : z.env.kindOf x = some .globalImplicit) (hxd : (x == ("__debug__" : Str)) = false) (hl : z.env.kindOf er = some .local) (hd : (er == ("__debug__" : Str)) = false)
    (hb : EX ⟨z.c, z.A, z.env, z.cl, z.outer, XQ C z.c z.env z.cl z.outer QE⟩ FlR (execs b z.env) σ QF) (hq : ∀ o nx, QE o nx → QF (.ret (.str "refused")) ⟨[], o, nx⟩) :
    EX z FlR (exec (.Try b [.ExceptHandler (some (.Name x p1)) (some er) [.Return (some (.IfExp (.Compare (.Attribute (.Name er q1) "symbol" q2) [.Eq] [.Constant (.str "user-error") n1 q3] q4) (.Constant (.str "refused") n2 q5) els q6)) q7] q8] [] [] pos) z.env) σ QF := fun W s p => by
  refine hideG fun R_ k_ => ?_
  obtain ⟨nm, q, bs, sn, sub, ab, col, dd, k0, k1, k2, k3, k5, hC⟩ := X.obj
  refine k_ ?_
  clear k_
  refine wpAny_Try_except (wpAny_mono (hb W s ⟨p.g, p.f, p.k⟩) (fun f s1 h1 => ?_) fun e s1 h1 => ?_)
  · refine hideG fun R_ k_ => ?_
    obtain ⟨W', b', σ', l, r, p', q'⟩ := h1
    refine k_ ?_
    clear k_
    induction f <;> first | exact wpAny_execs_nil ⟨W', b', σ', l, r, ⟨p'.g, p'.f, p'.k⟩, q'⟩ | exact ⟨W', b', σ', l, r, ⟨p'.g, p'.f, p'.k⟩, q'⟩
  refine hideG fun R_ k_ => ?_
  obtain ⟨W1, σ1, fl, l1, p1, fly, hfl, hqe⟩ := h1
  refine k_ ?_
  clear k_
  refine noteFrame_fly (z := ⟨z.c, callerA, z.env, z.cl, z.outer, .no⟩) p1 fly hz.kind hc.fr hc.frs hfl fun s2 ea T he p2 t2 e2 => ?_
  subst he
  refine setFlight_fly (z := ⟨z.c, callerA, z.env, z.cl, z.outer, .no⟩) p2 t2 e2 fun s3 p3 t3 e3 => ?_
  refine wpAny_handleBy_cons (codeAny_handlers_test ?_) (by intro q; cases q)
  refine Name_function_global hz.kind hxk (loadGlobal_global (by rw [hz.glob]; exact p3.g.ok.g.keeps p3.g.keep) (mg_of p3.g.ok.X p3.g.ok.g hG) ?_) hxd
  refine hideG fun R_ k_ => ?_
  obtain ⟨⟨oe, vs, h1, h2, h3, h4, h5, rest⟩, fe⟩ := t3
  have hC3 := p3.g.In _ _ hC
  refine k_ ?_
  clear k_
  obtain ⟨hp3, g3, dr3, tk3, os3⟩ := s3
  refine wpAny_excMatches_sub_self hC3 h1 h2 (by decide) ?_
  dsimp only
  refine codeAny_handlers_suite_as ?_
  refine setFlight_fly (z := ⟨z.c, callerA, z.env, z.cl, z.outer, .no⟩) p3 ⟨⟨oe, vs, h1, h2, h3, h4, h5, rest⟩, fe⟩ e3 fun s4 p4 t4 e4 => ?_
  obtain ⟨m', hn, hmm⟩ := p4.f.ns
  refine wpAny_storeName_local hl hn (fun h' hn' hs' => ?_) (by rw [hz.kind]; rfl)
  refine hideG fun R_ k_ => ?_
  obtain ⟨⟨oe, vs, h1, h2, h3, h4, h5, dx, es, nn, tt, hdx, hF, hS, hfs⟩, fe⟩ := t4
  refine k_ ?_
  clear k_
  have L1 : z.env.locals ≠ ea := p4.notFields h1 h3
  have p5 : Z.pre ⟨z.c, callerA, z.env, z.cl, z.outer, .no⟩ W1 ⟨[], σ1.o, σ1.nx⟩ ⟨h', s4.gens, s4.drawn, s4.toks + 1, s4.os⟩ := by
    refine ⟨p4.g.move hs' p4.f.outF p4.f.outP (fun _ _ e _ => e) (fun n _ _ q => absurd q (p4.f.outR n)) (fun n x e => (p4.g.mu n x e).imp fun _ q => q.1) ?_, ⟨⟨_, hn', fun x v e => by cases e⟩, p4.f.outF, p4.f.outP, p4.f.outR, p4.f.cells⟩, p4.k⟩
    obtain ⟨o, _, _, e, _⟩ := hn'; exact ⟨o, e⟩
  have hea : h'.get? ea = some oe := (hs'.2 ea (Ne.symm L1)).trans h1
  have I : PySem.W.InstAt h' ea oe C (some (dictOf es nn)) := ⟨hea, h2, by unfold notCls; rw [h3], by rw [hdx]; exact p5.g.fz _ _ hF⟩
  refine exc_clause (s := ⟨h', s4.gens, s4.drawn, s4.toks + 1, s4.os⟩) (m := fun y => if y = er then some (.ref ea) else m' y) (tt := tt) p5.g.In I (p5.g.In _ _ hC) Y.ga Y.hook (findObj_own Y.dict Y.sym rfl (by rw [lookIn_dict, getL_fnd hS, hfs])) hz.kind hl hd hn' (if_pos rfl) fun t1 tk => ?_
  dsimp only
  refine wpAny_nameGoes (s := ⟨h', s4.gens, s4.drawn, tk, s4.os⟩) hl hn' (by rw [hz.kind]; rfl) fun h6 m6 hn6 hs6 => ?_
  refine ⟨W1, .ret (.str "refused"), ⟨[], σ1.o, σ1.nx⟩, l1, VR.str, ⟨p5.g.move hs6 p5.f.outF p5.f.outP (fun _ _ e _ => e) (fun n _ _ q => absurd q (p5.f.outR n)) (fun n x e => (p5.g.mu n x e).imp fun _ q => q.1) ?_, ⟨⟨_, hn6, fun x v e => by cases e⟩, p5.f.outF, p5.f.outP, p5.f.outR, p5.f.cells⟩, p5.k⟩, hq _ _ hqe⟩
  obtain ⟨o, _, _, e, _⟩ := hn6; exact ⟨o, e⟩
end
end Mine
end

section
open PySem PySem.W PySem.Calls PyProof.Rows PySem.SeqAt
set_option Elab.async false
set_option linter.unusedVariables false
set_option autoImplicit true
set_option maxRecDepth 100000
set_option tactic.hygienic false
namespace Mine

theorem stored_le {kvs : List (Str × Value)} {a : Str} {v : Value} {n : Nat} (h : kvs.length ≤ n) : (stored kvs a v).length ≤ n + 1 := by
  unfold stored
  split
  · rw [List.length_map]; exact Nat.le_succ_of_le h
  · rw [List.length_append]; exact Nat.succ_le_succ h
theorem OR.stored {W : Wd} {m : Str → Option V} {kvs : List (Str × Value)} {a : Str} {v : V} {x : Value} (h : ∀ y, OR W (m y) (valueAt kvs y)) (r : VR W v x) : ∀ y, OR W (updS m a (some v) y) (valueAt (stored kvs a x) y) := fun y => by
  rw [valueAt_stored]
  unfold updS
  split
  · exact r
  · exact h y
section
variable {z : Z} {n : Nat} {σ : St} {Q : V → St → Prop}
theorem R_dict3 {k1 k2 k3 : Str} {e1 e2 e3 : Expr} {n1 n2 n3 : Nat} {q1 q2 q3 pos : Pos} (hz : z.Ok n)
    (h : EX z VR (eval e1 z.env) σ fun v1 σ1 => EX z VR (eval e2 z.env) σ1 fun v2 σ2 => EX z VR (eval e3 z.env) σ2 fun v3 σ3 =>
      Q (.ref σ3.nx) ⟨σ3.m, upd σ3.o σ3.nx (.smap (updS (updS (updS (fun _ => none) k1 (some v1)) k2 (some v2)) k3 (some v3)) 3), σ3.nx + 1⟩) :
    EX z VR (eval (.Dict [some (.Constant (.str k1) n1 q1), some (.Constant (.str k2) n2 q2), some (.Constant (.str k3) n3 q3)] [e1, e2, e3] pos) z.env) σ Q := fun W s p => by
  refine wpAny_Dict_walk (knd := PySem.strKind z.c.prog z.c.w) rfl rfl (fun q => nomatch q) (Nat.le_of_ble_eq_true rfl) ?_
  obtain ⟨F0, P0, R0, L0⟩ := p.nowhere (get_size (Nat.le_refl s.heap.objs.size))
  have hbig : z.c.h₀.objs.size ≤ s.heap.objs.size := p.g.big
  have eo : (s.heap.push { cls := .type "dict", data := .dict #[] }).get? s.heap.objs.size = some { cls := .type "dict", data := .dict #[] } := Heap.get?_push_size _ rfl
  have p0 := p.ext (fun b x e => Heap.get?_push_of_some (o := { cls := .type "dict", data := .dict #[] }) e) (toks := s.toks) (dr := s.drawn)
  generalize s.heap.objs.size = d at F0 P0 R0 L0 eo hbig ⊢
  generalize hpr : (fun x : Option Obj => x = some { cls := .type "dict", data := .dict #[] }) = pr
  have p1 := p0.parkd (pr := pr) (by rw [← hpr]) eo F0 P0 R0 L0
  have l1 : W.le (W.addP d pr) := Wd.le_addP P0
  refine pairTrees_cons_walk (Constant_str ?_)
  refine seq l1 h p1.toks fun W2 v1 σ1 x1 s1 l2 r1 p2 h2 => ?_
  refine pairTrees_cons_walk (Constant_str ?_)
  refine seq (l1.trans l2) h2 p2.toks fun W3 v2 σ2 x2 s2 l3 r2 p3 h3 => ?_
  refine pairTrees_cons_walk (Constant_str ?_)
  refine seq ((l1.trans l2).trans l3) h3 p3.toks fun W4 v3 σ3 x3 s3 l4 r3 p4 q => ?_
  refine pairTrees_nil_walk ?_
  have hP4 : W4.P d = some pr := ((l2.trans l3).trans l4).P _ _ (if_pos rfl)
  have hd : s3.heap.get? d = some { cls := .type "dict", data := .dict #[] } := by have := (p4.g.park _ _ hP4).1; rw [← hpr] at this; exact this
  have fr := p4.g.freeOf hP4
  have lW : W.le (W4.delP d) := Wd.le.delP P0 ((l2.trans l3).trans l4)
  have p5 := p4.unP p0 P0
  refine ⟨[(k1, x1), (k2, x2), (k3, x3)], ⟨strKind_is .., rfl, strKind_is .., rfl, strKind_is .., rfl, trivial⟩, ⟨_, #[], 0, hd, ⟨rfl, rfl, rfl⟩, rfl, fun _ he => by simp at he, Pairs.nil, List.nodup_nil⟩, fun h' hm hs => ?_⟩
  have p6 := p5.moveFree fr L0 hs (by obtain ⟨o, _, _, e, _⟩ := hm; exact ⟨o, e⟩) (toks := s3.toks + 3) (dr := s3.drawn)
  obtain ⟨p7, l7, e7⟩ := p6.adopted fr L0 hbig (y := .smap (updS (updS (updS (fun _ => none) k1 (some v1)) k2 (some v2)) k3 (some v3)) 3)
    ⟨_, hm, stored_le (stored_le (stored_le (Nat.le_refl _))), OR.stored (OR.stored (OR.stored (fun _ => trivial) (((r1.mono (l3.trans l4)).unP).mono (Wd.le_addR (p6.g.fresh _ (Nat.le_refl _))))) (((r2.mono l4).unP).mono (Wd.le_addR (p6.g.fresh _ (Nat.le_refl _))))) (r3.unP.mono (Wd.le_addR (p6.g.fresh _ (Nat.le_refl _))))⟩
  exact there (lW.trans l7) (.ref e7) p7 q
end
end Mine
end

section
open PySem PySem.W PySem.Calls PyProof.Rows PySem.SeqAt
set_option Elab.async false
set_option linter.unusedVariables false
set_option autoImplicit true
set_option maxRecDepth 100000
set_option tactic.hygienic false
namespace Mine

noncomputable abbrev KOk (c : Cx) : Prop := c.K = Mine.hx.heap_1_39 c.w.params
theorem eqs_of {α β : Type} {f g : α → β} {l : List α} (h : l.map f = l.map g) {x : α} (m : x ∈ l) : f x = g x := List.map_inj_left.mp h x m
set_option tactic.hygienic true in
theorem lookupN_mem {α : Type} {x : Addr} {v : α} : ∀ {l : List (Addr × α)}, l.lookup x = some v → (x, v) ∈ l
  | [], h => by cases h
  | (y, w) :: r, h => by
    rw [List.lookup_cons] at h
    split at h
    · rename_i e
      have e : x = y := by simpa using e
      subst e; cases h; exact .head _
    · exact .tail _ (lookupN_mem h)
noncomputable def sg : Sig where
  M := [(751, [("is_modified", 734), ("set_modified", 741), ("__init__", 664), ("touch", 748), ("goto", 720), ("size", 699), ("codes", 713)]),
    (276, [("note_begin", 238), ("boundary", 217), ("count", 203), ("note_insert", 245), ("note_delete", 252), ("renew_unmodified", 266), ("is_at_boundary", 210), ("__init__", 196), ("note_state", 231)]),
    (353, [("__init__", 350)]),
    (540, [("__init__", 467), ("size", 474), ("delete", 516), ("move_gap", 495), ("insert", 509), ("widen_gap", 502), ("codes", 488)]),
    (610, [("deleted", 600), ("numbers", 565), ("inserted", 593), ("__init__", 558), ("within", 586)]),
    (770, [("__init__", 767)]),
    (810, [("__init__", 788), ("text_comes", 795), ("text_goes", 800)])]
  A := [(751, ["point", "begv", "zv", "text", "markers", "is_read_only", "name", "undo", "props", "overlays", "ticks", "saved_ticks", "codes_ticks", "listeners", "number", "mark", "is_live", "locals", "syntax", "file"]),
    (276, ["rows", "dropped", "is_on", "point_before", "noted_tick"]),
    (353, ["pending", "idle", "chosen", "equal"]),
    (540, ["room", "cells", "gap_start", "gap_end"]),
    (610, ["rows"]),
    (770, ["codes", "runs"]),
    (810, ["list"])]
  F := [38, 48, 55, 62, 69, 76, 83, 90, 97, 104, 111, 119, 126, 169, 276, 294, 301, 308, 315, 322, 329, 336, 353, 364, 371, 376, 383, 390, 397, 404, 411, 418, 425, 432, 439, 446, 540, 610, 751, 770, 810, 819, 826, 833, 840, 847, 854, 861, 868]

theorem sg_C (P : Params) : sg.M.map (fun p => (findIn (Mine.hx.heap_1_39 P) (.ref p.1) "__getattribute__", findIn (Mine.hx.heap_1_39 P) (.ref p.1) "__getattr__", hasDictIn (Mine.hx.heap_1_39 P) p.1, findIn (Mine.hx.heap_1_39 P) (.ref p.1) "__setattr__", plainOver (Mine.hx.heap_1_39 P) p.1)) = sg.M.map fun _ => (some (some (.builtin "object.__getattribute__")), some none, true, some (some (.builtin "object.__setattr__")), true) := by kernel_rfl
theorem sg_M (P : Params) : sg.M.map (fun p => p.2.map fun q => (findIn (Mine.hx.heap_1_39 P) (.ref p.1) q.1, typeIn (Mine.hx.heap_1_39 P) (.ref q.2), keepIn (Mine.hx.heap_1_39 P) (.ref q.2))) = sg.M.map fun p => p.2.map fun q => (some (some (.ref q.2)), some (.type "function"), true) := by kernel_rfl
theorem sg_A (P : Params) : sg.A.map (fun p => p.2.map fun q => findIn (Mine.hx.heap_1_39 P) (.ref p.1) q) = sg.A.map fun p => p.2.map fun _ => some none := by kernel_rfl
theorem sg_F (P : Params) : (sg.F.all fun p => keepIn (Mine.hx.heap_1_39 P) (.ref p)) = true := by kernel_rfl
theorem sg_AM : (sg.A.all fun p => sg.M.any fun q => Nat.beq p.1 q.1) = true := by decide +kernel
theorem sg_cls {c : Cx} (hK : KOk c) {C : Addr} {l} (h : (C, l) ∈ sg.M) : ClsOk c.K C := by
  have e1 := Prod.mk.inj (eqs_of (sg_C c.w.params) h)
  have e2 := Prod.mk.inj e1.2
  have e3 := Prod.mk.inj e2.2
  have e4 := Prod.mk.inj e3.2
  rw [hK]; exact ⟨e1.1, e2.1, e3.1, e4.1, e4.2⟩
theorem sg_ok {c : Cx} (hK : KOk c) : SigOk c sg where
  cls := fun C l h => by
    have hm := lookupN_mem h
    refine ⟨sg_cls hK hm, fun x fa hx => ?_⟩
    have e1 := Prod.mk.inj (eqs_of (eqs_of (sg_M c.w.params) hm) (lookup_mem hx))
    have e2 := Prod.mk.inj e1.2
    rw [hK]; exact ⟨e1.1, e2.1, e2.2⟩
  attr := fun C l h => by
    have hm := lookupN_mem h
    refine ⟨?_, fun x hx => ?_⟩
    · have := List.all_eq_true.mp sg_AM _ hm
      obtain ⟨⟨C', l'⟩, h1, h2⟩ := List.any_eq_true.mp this
      obtain rfl := Nat.eq_of_beq_eq_true h2
      exact sg_cls hK h1
    · rw [hK]; exact eqs_of (eqs_of (sg_A c.w.params) hm) (x := x) (by simpa using hx)
  fns := fun a h => by
    have := List.all_eq_true.mp (sg_F c.w.params) a (by simpa using h)
    rw [hK]; exact this

noncomputable def glF : List (String × Nat) := [("Buffer", 751), ("GapText", 540), ("LispSignal", 38), ("Markers", 610), ("Piece", 770), ("Recording", 810), ("UndoList", 276), ("Undoing", 353), ("_law_buffer", 833), ("_law_deck", 819), ("_law_draw", 826), ("_law_edit", 840), ("_law_redone", 854), ("_law_told", 861), ("_law_undone", 847), ("above_boundaries", 329), ("begin_undo", 404), ("delete", 126), ("drop_points", 376), ("elder_rows", 383), ("end_undo", 411), ("go_on_behind_redo", 439), ("hung_in", 104), ("hung_out", 97), ("insert", 119), ("insert_piece", 169), ("is_in_row", 397), ("last_was_undo", 371), ("markers_ahead", 301), ("need_room", 55), ("need_visible", 294), ("need_writable", 48), ("put_in", 111), ("reached", 62), ("skipped_undos", 390), ("tell_ahead", 69), ("tell_behind", 76), ("text_in", 90), ("text_out", 83), ("trimmed_count", 364), ("undo", 425), ("undo_delete", 315), ("undo_group", 336), ("undo_insert", 308), ("undo_more", 418), ("undo_only", 432), ("undo_redo", 446), ("undo_row", 322)]
theorem gl_fn (P : Params) : glF.map (fun p => nsIn (Mine.hx.heap_1_39 P) mainGlobals p.1) = glF.map fun p => some (some (.ref p.2)) := by kernel_rfl
noncomputable def glB : List String := ["abs", "len", "list", "max", "min", "range", "sorted"]
theorem gl_bi (P : Params) : glB.map (fun p : String => nsIn (Mine.hx.heap_1_39 P) mainGlobals p) = glB.map fun _ : String => some none := by kernel_rfl
theorem gfn {c : Cx} (hK : KOk c) (i : Nat) {x : String} {a : Nat} (m : glF[i]? = some (x, a)) : GFact c x (.con (.ref a)) := by
  refine .inl ⟨.ref a, ?_, fun _ _ _ _ _ => .con⟩
  rw [hK]; exact eqs_of (gl_fn _) (List.mem_of_getElem? m)
theorem gbi {c : Cx} (hK : KOk c) (i : Nat) {x : String} {u : Value} (m : glB[i]? = some x) (hb : bootBuiltins x = some u) (hn : (Str.ofString x) ≠ "__name__") : GFact c x (.con u) := by
  refine .inr ⟨u, rfl, ?_, hb, hn⟩
  rw [hK]; exact eqs_of (gl_bi _) (List.mem_of_getElem? m)
theorem GsOk.nil {c : Cx} : GsOk c [] := fun _ _ h => by cases h
theorem GsOk.cons {c : Cx} {x v G} (h : GFact c x v) (t : GsOk c G) : GsOk c ((x, v) :: G) := fun y w m => by
  rcases List.mem_cons.mp m with e | m
  · cases e; exact h
  · exact t y w m

theorem g_Buffer {c : Cx} (hK : KOk c) : GFact c "Buffer" (.con (.ref 751)) := gfn hK 0 rfl
theorem g_GapText {c : Cx} (hK : KOk c) : GFact c "GapText" (.con (.ref 540)) := gfn hK 1 rfl
theorem g_LispSignal {c : Cx} (hK : KOk c) : GFact c "LispSignal" (.con (.ref 38)) := gfn hK 2 rfl
theorem g_Markers {c : Cx} (hK : KOk c) : GFact c "Markers" (.con (.ref 610)) := gfn hK 3 rfl
theorem g_Piece {c : Cx} (hK : KOk c) : GFact c "Piece" (.con (.ref 770)) := gfn hK 4 rfl
theorem g_Recording {c : Cx} (hK : KOk c) : GFact c "Recording" (.con (.ref 810)) := gfn hK 5 rfl
theorem g_UndoList {c : Cx} (hK : KOk c) : GFact c "UndoList" (.con (.ref 276)) := gfn hK 6 rfl
theorem g_Undoing {c : Cx} (hK : KOk c) : GFact c "Undoing" (.con (.ref 353)) := gfn hK 7 rfl
theorem g_law_buffer {c : Cx} (hK : KOk c) : GFact c "_law_buffer" (.con (.ref 833)) := gfn hK 8 rfl
theorem g_law_deck {c : Cx} (hK : KOk c) : GFact c "_law_deck" (.con (.ref 819)) := gfn hK 9 rfl
theorem g_law_draw {c : Cx} (hK : KOk c) : GFact c "_law_draw" (.con (.ref 826)) := gfn hK 10 rfl
theorem g_law_edit {c : Cx} (hK : KOk c) : GFact c "_law_edit" (.con (.ref 840)) := gfn hK 11 rfl
theorem g_law_redone {c : Cx} (hK : KOk c) : GFact c "_law_redone" (.con (.ref 854)) := gfn hK 12 rfl
theorem g_law_told {c : Cx} (hK : KOk c) : GFact c "_law_told" (.con (.ref 861)) := gfn hK 13 rfl
theorem g_law_undone {c : Cx} (hK : KOk c) : GFact c "_law_undone" (.con (.ref 847)) := gfn hK 14 rfl
theorem g_above_boundaries {c : Cx} (hK : KOk c) : GFact c "above_boundaries" (.con (.ref 329)) := gfn hK 15 rfl
theorem g_begin_undo {c : Cx} (hK : KOk c) : GFact c "begin_undo" (.con (.ref 404)) := gfn hK 16 rfl
theorem g_delete {c : Cx} (hK : KOk c) : GFact c "delete" (.con (.ref 126)) := gfn hK 17 rfl
theorem g_drop_points {c : Cx} (hK : KOk c) : GFact c "drop_points" (.con (.ref 376)) := gfn hK 18 rfl
theorem g_elder_rows {c : Cx} (hK : KOk c) : GFact c "elder_rows" (.con (.ref 383)) := gfn hK 19 rfl
theorem g_end_undo {c : Cx} (hK : KOk c) : GFact c "end_undo" (.con (.ref 411)) := gfn hK 20 rfl
theorem g_go_on_behind_redo {c : Cx} (hK : KOk c) : GFact c "go_on_behind_redo" (.con (.ref 439)) := gfn hK 21 rfl
theorem g_hung_in {c : Cx} (hK : KOk c) : GFact c "hung_in" (.con (.ref 104)) := gfn hK 22 rfl
theorem g_hung_out {c : Cx} (hK : KOk c) : GFact c "hung_out" (.con (.ref 97)) := gfn hK 23 rfl
theorem g_insert {c : Cx} (hK : KOk c) : GFact c "insert" (.con (.ref 119)) := gfn hK 24 rfl
theorem g_insert_piece {c : Cx} (hK : KOk c) : GFact c "insert_piece" (.con (.ref 169)) := gfn hK 25 rfl
theorem g_is_in_row {c : Cx} (hK : KOk c) : GFact c "is_in_row" (.con (.ref 397)) := gfn hK 26 rfl
theorem g_last_was_undo {c : Cx} (hK : KOk c) : GFact c "last_was_undo" (.con (.ref 371)) := gfn hK 27 rfl
theorem g_markers_ahead {c : Cx} (hK : KOk c) : GFact c "markers_ahead" (.con (.ref 301)) := gfn hK 28 rfl
theorem g_need_room {c : Cx} (hK : KOk c) : GFact c "need_room" (.con (.ref 55)) := gfn hK 29 rfl
theorem g_need_visible {c : Cx} (hK : KOk c) : GFact c "need_visible" (.con (.ref 294)) := gfn hK 30 rfl
theorem g_need_writable {c : Cx} (hK : KOk c) : GFact c "need_writable" (.con (.ref 48)) := gfn hK 31 rfl
theorem g_put_in {c : Cx} (hK : KOk c) : GFact c "put_in" (.con (.ref 111)) := gfn hK 32 rfl
theorem g_reached {c : Cx} (hK : KOk c) : GFact c "reached" (.con (.ref 62)) := gfn hK 33 rfl
theorem g_skipped_undos {c : Cx} (hK : KOk c) : GFact c "skipped_undos" (.con (.ref 390)) := gfn hK 34 rfl
theorem g_tell_ahead {c : Cx} (hK : KOk c) : GFact c "tell_ahead" (.con (.ref 69)) := gfn hK 35 rfl
theorem g_tell_behind {c : Cx} (hK : KOk c) : GFact c "tell_behind" (.con (.ref 76)) := gfn hK 36 rfl
theorem g_text_in {c : Cx} (hK : KOk c) : GFact c "text_in" (.con (.ref 90)) := gfn hK 37 rfl
theorem g_text_out {c : Cx} (hK : KOk c) : GFact c "text_out" (.con (.ref 83)) := gfn hK 38 rfl
theorem g_trimmed_count {c : Cx} (hK : KOk c) : GFact c "trimmed_count" (.con (.ref 364)) := gfn hK 39 rfl
theorem g_undo {c : Cx} (hK : KOk c) : GFact c "undo" (.con (.ref 425)) := gfn hK 40 rfl
theorem g_undo_delete {c : Cx} (hK : KOk c) : GFact c "undo_delete" (.con (.ref 315)) := gfn hK 41 rfl
theorem g_undo_group {c : Cx} (hK : KOk c) : GFact c "undo_group" (.con (.ref 336)) := gfn hK 42 rfl
theorem g_undo_insert {c : Cx} (hK : KOk c) : GFact c "undo_insert" (.con (.ref 308)) := gfn hK 43 rfl
theorem g_undo_more {c : Cx} (hK : KOk c) : GFact c "undo_more" (.con (.ref 418)) := gfn hK 44 rfl
theorem g_undo_only {c : Cx} (hK : KOk c) : GFact c "undo_only" (.con (.ref 432)) := gfn hK 45 rfl
theorem g_undo_redo {c : Cx} (hK : KOk c) : GFact c "undo_redo" (.con (.ref 446)) := gfn hK 46 rfl
theorem g_undo_row {c : Cx} (hK : KOk c) : GFact c "undo_row" (.con (.ref 322)) := gfn hK 47 rfl
theorem g_abs {c : Cx} (hK : KOk c) : GFact c "abs" (.con (.builtin "abs")) := gbi hK 0 rfl (by kernel_rfl) (by decide +kernel)
theorem g_len {c : Cx} (hK : KOk c) : GFact c "len" (.con (.builtin "len")) := gbi hK 1 rfl (by kernel_rfl) (by decide +kernel)
theorem g_list {c : Cx} (hK : KOk c) : GFact c "list" (.con (.type "list")) := gbi hK 2 rfl (by kernel_rfl) (by decide +kernel)
theorem g_max {c : Cx} (hK : KOk c) : GFact c "max" (.con (.builtin "max")) := gbi hK 3 rfl (by kernel_rfl) (by decide +kernel)
theorem g_min {c : Cx} (hK : KOk c) : GFact c "min" (.con (.builtin "min")) := gbi hK 4 rfl (by kernel_rfl) (by decide +kernel)
theorem g_range {c : Cx} (hK : KOk c) : GFact c "range" (.con (.type "range")) := gbi hK 5 rfl (by kernel_rfl) (by decide +kernel)
theorem g_sorted {c : Cx} (hK : KOk c) : GFact c "sorted" (.con (.builtin "sorted")) := gbi hK 6 rfl (by kernel_rfl) (by decide +kernel)

theorem isIntAt {c : Cx} (hK : KOk c) {x : Str} {i : Int} {t : Nat} (h : nsIn (Mine.hx.heap_1_39 c.w.params) mainGlobals x = some (some (.int i t))) : GFact c x (.int i) := .inl ⟨_, by rw [hK]; exact h, fun _ _ _ _ _ => .int⟩
theorem g_LONGEST {c : Cx} (hK : KOk c) : GFact c "LONGEST" (.int 4194304) := isIntAt (t := 231) hK (by kernel_rfl)
theorem g_IN_REGION {c : Cx} (hK : KOk c) : GFact c "IN_REGION" (.int (-1)) := isIntAt (t := 650) hK (by kernel_rfl)
theorem bnd_at (P : Params) : ∃ t n, (Mine.hx.heap_1_39 P).lookup 182 = some (tupO [.str "boundary" t] n) := ⟨_, _, rfl⟩
theorem g_BOUNDARY {c : Cx} (hK : KOk c) : GFact c "BOUNDARY" (.tup [.str "boundary"]) := by
  refine .inl ⟨.ref 182, by rw [hK]; kernel_rfl, fun W o nx s g => ?_⟩
  obtain ⟨t, n, e⟩ := bnd_at c.w.params
  exact VRs.tup (g.base _ _ (g.ok.X _ _ (by rw [hK]; exact e))) (.cons .str .nil)
end Mine
end

section
open PySem PySem.W PySem.Calls PyProof.Rows PySem.SeqAt
set_option Elab.async false
set_option linter.unusedVariables false
set_option autoImplicit true
set_option maxRecDepth 100000
set_option tactic.hygienic false
namespace Mine

inductive Row where
  | bnd
  | unm (t : Int)
  | ins (a b : Int)
  | del (a : Int) (cs : List Int) (p : Bool)
noncomputable def rowV : Row → V
  | .bnd => .tup [.str "boundary"]
  | .unm t => .tup [.str "unmodified", .int t]
  | .ins a b => .tup [.str "insert", .int a, .int b]
  | .del a cs p => .tup [.str "delete", .int a, .pie 770 (.lst (iV cs)) (.lst []), .bool p]
noncomputable def oV : Option Int → V
  | none => .none
  | some i => .int i
noncomputable def eqV (m : Int → Option Int) : Int → Option V := fun i => (m i).map V.int

structure TS where
  cB : Option V
  cC : Option V
  cI : Option V
  cU : Option V
  d0 : List Int
  mix : List Int
  dn : Int
  pt : Int
  zv : Int
  tk : Int
  ck : Int
  sv : Int
  gs : Int
  ge : Int
  cells : List Int
  rows : List Row
  rid : Nat
  noted : Option Int
  pend : Option Int
  idle : Option Int
  eq : Int → Option Int
  eqn : Nat
  groups : List (List Int)
  leq : Int → Option Int
  leqn : Nat
  lp : Option Int
  ex : Nat → Option MO

noncomputable def TS.sCB (t : TS) (x : Option V) : TS := { t with cB := x }
noncomputable def TS.sCC (t : TS) (x : Option V) : TS := { t with cC := x }
noncomputable def TS.sCI (t : TS) (x : Option V) : TS := { t with cI := x }
noncomputable def TS.sCU (t : TS) (x : Option V) : TS := { t with cU := x }
noncomputable def TS.sD0 (t : TS) (x : List Int) : TS := { t with d0 := x }
noncomputable def TS.sMix (t : TS) (x : List Int) : TS := { t with mix := x }
noncomputable def TS.sDn (t : TS) (x : Int) : TS := { t with dn := x }
noncomputable def TS.sPt (t : TS) (x : Int) : TS := { t with pt := x }
noncomputable def TS.sZv (t : TS) (x : Int) : TS := { t with zv := x }
noncomputable def TS.sTk (t : TS) (x : Int) : TS := { t with tk := x }
noncomputable def TS.sCk (t : TS) (x : Int) : TS := { t with ck := x }
noncomputable def TS.sSv (t : TS) (x : Int) : TS := { t with sv := x }
noncomputable def TS.sGs (t : TS) (x : Int) : TS := { t with gs := x }
noncomputable def TS.sGe (t : TS) (x : Int) : TS := { t with ge := x }
noncomputable def TS.sCells (t : TS) (x : List Int) : TS := { t with cells := x }
noncomputable def TS.sRows (t : TS) (x : List Row) : TS := { t with rows := x }
noncomputable def TS.sRid (t : TS) (x : Nat) : TS := { t with rid := x }
noncomputable def TS.sNoted (t : TS) (x : Option Int) : TS := { t with noted := x }
noncomputable def TS.sPend (t : TS) (x : Option Int) : TS := { t with pend := x }
noncomputable def TS.sIdle (t : TS) (x : Option Int) : TS := { t with idle := x }
noncomputable def TS.sEq (t : TS) (x : Int → Option Int) : TS := { t with eq := x }
noncomputable def TS.sEqn (t : TS) (x : Nat) : TS := { t with eqn := x }
noncomputable def TS.sGroups (t : TS) (x : List (List Int)) : TS := { t with groups := x }
noncomputable def TS.sLeq (t : TS) (x : Int → Option Int) : TS := { t with leq := x }
noncomputable def TS.sLeqn (t : TS) (x : Nat) : TS := { t with leqn := x }
noncomputable def TS.sLp (t : TS) (x : Option Int) : TS := { t with lp := x }
noncomputable def TS.sEx (t : TS) (x : Nat → Option MO) : TS := { t with ex := x }
noncomputable def rowsAt (t : TS) : Nat := match t.rid with
  | 0 => 13
  | n + 1 => n + 19
noncomputable def undoV : Bool → V
  | true => .ins 810 11
  | false => .none
noncomputable def bufF (un : Bool) (t : TS) : List (Str × V) :=
  [("number", .int 1), ("name", .str "a"), ("text", .ins 540 7), ("markers", .ins 610 9), ("point", .int t.pt), ("begv", .int 1), ("zv", .int t.zv), ("mark", .none), ("is_live", .bool true), ("is_read_only", .bool false),
   ("ticks", .int t.tk), ("codes_ticks", .int t.ck), ("saved_ticks", .int t.sv), ("listeners", .lst []), ("undo", undoV un), ("props", .none), ("overlays", .none), ("locals", .none), ("syntax", .none), ("file", .none)]
noncomputable def gapF (t : TS) : List (Str × V) := [("room", .int 8), ("cells", .ref 8), ("gap_start", .int t.gs), ("gap_end", .int t.ge)]
noncomputable def ulF (t : TS) : List (Str × V) := [("rows", .ref (rowsAt t)), ("dropped", .int 0), ("is_on", .bool true), ("point_before", .none), ("noted_tick", oV t.noted)]
noncomputable def ugF (t : TS) : List (Str × V) := [("pending", oV t.pend), ("idle", oV t.idle), ("chosen", .none), ("equal", .ref 15)]
noncomputable def stF (t : TS) : Str → Option V := updS (updS (updS (fun _ => none) "groups" (some (.ref 16))) "equal" (some (.ref 17))) "pending" (some (oV t.lp))
noncomputable def onU (un : Bool) (x : MO) : Option MO := match un with
  | true => some x
  | false => none
noncomputable def tab (un : Bool) (t : TS) : List (Option MO) :=
  [some (.cell t.cB), some (.cell t.cC), some (.cell t.cI), some (.cell t.cU), some (.list (iV t.d0)), some (.list [.ref 4, .lst (iV t.mix), .int t.dn]),
   some (.ns (bufF un t)), some (.ns (gapF t)), some (.list (iV t.cells)), some (.ns [("rows", .ref 10)]), some (.imap (fun _ => none) 0),
   onU un (.ns [("list", .ins 276 12)]), onU un (.ns (ulF t)), none, onU un (.ns (ugF t)), onU un (.imap (eqV t.eq) t.eqn), onU un (.list (t.groups.map fun g => .lst (iV g))), onU un (.imap (eqV t.leq) t.leqn), onU un (.smap (stF t) 3)]
noncomputable def E (un : Bool) (t : TS) : Nat → Option MO := fun k =>
  match (tab un t)[k]? with
  | some (some x) => some x
  | _ => if un = true ∧ k = rowsAt t then some (.list (t.rows.map rowV)) else t.ex k

theorem E_rows (t : TS) : E true t (rowsAt t) = some (.list (t.rows.map rowV)) := by
  unfold E rowsAt
  cases t.rid with
  | zero => simp [tab]
  | succ n => simp [tab, rowsAt]
  
theorem tab_len (un t) : (tab un t).length = 19 := rfl
theorem E_upd {un : Bool} {t t' : TS} {i : Nat} {x : MO} (h : tab un t' = (tab un t).set i (some x)) (hi : i < 19) (h1 : t'.rows = t.rows) (h2 : t'.rid = t.rid) (h3 : t'.ex = t.ex := by rfl) : upd (E un t) i x = E un t' := by
  funext k
  unfold upd E
  rw [h, List.getElem?_set]
  have hr : rowsAt t' = rowsAt t := by unfold rowsAt; rw [h2]
  by_cases e : k = i
  · subst e
    simp [tab_len, hi]
  · rw [if_neg e, if_neg (Ne.symm e), h1, hr, h3]
theorem E_updr {t : TS} {r : List Row} : upd (E true t) (rowsAt t) (.list (r.map rowV)) = E true (t.sRows r) := by
  funext k
  unfold upd
  by_cases e : k = rowsAt t
  · subst e
    rw [if_pos rfl]
    exact (E_rows (t.sRows r)).symm
  · rw [if_neg e]
    unfold E
    have : tab true (t.sRows r) = tab true t := rfl
    have hr : rowsAt (t.sRows r) = rowsAt t := rfl
    rw [this, hr, show (t.sRows r).ex = t.ex from rfl]
    simp [e]

section
variable {un : Bool} {t : TS} {i : Int} {b : Bool} {v : V}
theorem E_pt : upd (E un t) 6 (.ns (setF "point" (.int i) (bufF un t))) = E un (t.sPt i) := E_upd rfl (by decide) rfl rfl
theorem E_zv : upd (E un t) 6 (.ns (setF "zv" (.int i) (bufF un t))) = E un (t.sZv i) := E_upd rfl (by decide) rfl rfl
theorem E_tk : upd (E un t) 6 (.ns (setF "ticks" (.int i) (bufF un t))) = E un (t.sTk i) := E_upd rfl (by decide) rfl rfl
theorem E_ck : upd (E un t) 6 (.ns (setF "codes_ticks" (.int i) (bufF un t))) = E un (t.sCk i) := E_upd rfl (by decide) rfl rfl
theorem E_sv : upd (E un t) 6 (.ns (setF "saved_ticks" (.int i) (bufF un t))) = E un (t.sSv i) := E_upd rfl (by decide) rfl rfl
theorem E_gs : upd (E un t) 7 (.ns (setF "gap_start" (.int i) (gapF t))) = E un (t.sGs i) := E_upd rfl (by decide) rfl rfl
theorem E_ge : upd (E un t) 7 (.ns (setF "gap_end" (.int i) (gapF t))) = E un (t.sGe i) := E_upd rfl (by decide) rfl rfl
theorem E_cells {l : List Int} : upd (E un t) 8 (.list (iV l)) = E un (t.sCells l) := E_upd rfl (by decide) rfl rfl
theorem E_noted : upd (E true t) 12 (.ns (setF "noted_tick" (.int i) (ulF t))) = E true (t.sNoted (some i)) := E_upd rfl (by decide) rfl rfl
theorem E_pend : upd (E true t) 14 (.ns (setF "pending" (.int i) (ugF t))) = E true (t.sPend (some i)) := E_upd rfl (by decide) rfl rfl
theorem E_pend0 : upd (E true t) 14 (.ns (setF "pending" .none (ugF t))) = E true (t.sPend none) := E_upd rfl (by decide) rfl rfl
theorem E_idle : upd (E true t) 14 (.ns (setF "idle" (.int i) (ugF t))) = E true (t.sIdle (some i)) := E_upd rfl (by decide) rfl rfl
theorem E_idle0 : upd (E true t) 14 (.ns (setF "idle" .none (ugF t))) = E true (t.sIdle none) := E_upd rfl (by decide) rfl rfl
theorem E_chosen : upd (E true t) 14 (.ns (setF "chosen" .none (ugF t))) = E true t := E_upd rfl (by decide) rfl rfl
theorem E_d0 {l : List Int} : upd (E un t) 4 (.list (iV l)) = E un (t.sD0 l) := E_upd rfl (by decide) rfl rfl
theorem E_dn : upd (E un t) 5 (.list [.ref 4, .lst (iV t.mix), .int i]) = E un (t.sDn i) := E_upd rfl (by decide) rfl rfl
theorem E_cB : upd (E un t) 0 (.cell (some v)) = E un (t.sCB (some v)) := E_upd rfl (by decide) rfl rfl
theorem E_cC : upd (E un t) 1 (.cell (some v)) = E un (t.sCC (some v)) := E_upd rfl (by decide) rfl rfl
theorem E_cI : upd (E un t) 2 (.cell (some v)) = E un (t.sCI (some v)) := E_upd rfl (by decide) rfl rfl
theorem E_cU : upd (E un t) 3 (.cell (some v)) = E un (t.sCU (some v)) := E_upd rfl (by decide) rfl rfl
end
end Mine
end

section
open PySem PySem.W PySem.Calls PyProof.Rows PySem.SeqAt
set_option Elab.async false
set_option linter.unusedVariables false
set_option autoImplicit true
set_option maxRecDepth 100000
set_option tactic.hygienic false
namespace Mine

theorem Wd.nil_le (W : Wd) : Wd.le ⟨fun _ => none, fun _ => none, fun _ => none⟩ W := ⟨fun _ _ h => (by cases h), fun _ _ h => (by cases h), fun _ _ h => (by cases h)⟩
theorem put_as {o o' : Nat → Option MO} {k : Nat} {x : MO} {K : (Nat → Option MO) → Prop} (h : upd o k x = o') (q : K o') : ∀ o'', upd o k x = o'' → K o'' := fun o'' e => by rw [← e, h]; exact q
theorem FC_K (fuel : Nat) {c : Cx} (hK : KOk c) {G : List (Str × V)} (hG : GsOk c G) {n : Nat} {f : Addr} {vs : List V} {o : Nat → Option MO} {nx : Nat} {Q : V → (Nat → Option MO) → Nat → Prop} {QE : (Nat → Option MO) → Nat → Prop}
    {name qual : Str} {params : Arguments} {body : List Stmt} {scope : Scope} {dV kV doc pm cdv ct oc : Value} {an od : Option Addr} {osl : Array (Option Value)} (names : List Str) {dflt : List Value} (dv : List V)
    (ho : (Mine.hx.heap_1_39 c.w.params).lookup f = some ⟨oc, od, .func (fnOf name qual params body scope dV kV doc pm an cdv ct), osl⟩) (hcd : codeIn (Mine.hx.heap_1_39 c.w.params) cdv qual = true)
    (hd : VRs ⟨fun _ => none, fun _ => none, fun _ => none⟩ dv dflt)
    (hb : ∀ s xs, (Mine.hx.heap_1_39 c.w.params).In s.heap → xs.length = vs.length → BindsTo s (fnOf name qual params body scope dV kV doc pm an cdv ct) ⟨xs, []⟩ (names.zip (xs ++ dflt)))
    (hl : (names.all fun x => decide (scope.names.lookup x = some .local)) = true)
    (hn : namesOk scope = true)
    (hk : scope.kind = .function) (hco : scope.isCoroutine = false) (hgen : scope.isGenerator = false)
    (h : ∀ y QR, QE = y.QE → (fun fl (σ' : St) => Q (retOf fl) σ'.o σ'.nx) = QR → wBlock (wps fuel) (mkP ⟨qual, scope, f, cdv, sg, G, 38, n⟩ c y) body QR ⟨(names.zip (vs ++ dv)).reverse, o, nx⟩) :
    FC c 38 (n + 1) (.ref f) vs o nx Q QE :=
  FC_wp fuel (by rw [hK]; exact ho) (by rw [hK]; exact hcd) (fun s xs X => hb s xs (by rw [← hK]; exact X)) (fun W s g => hd.mono (Wd.nil_le W))
    (fun x hx => of_decide_eq_true (List.all_eq_true.mp hl x hx)) hn hk hco hgen (sg_ok hK) hG h

theorem FC.imp {c : Cx} {C : Addr} {n : Nat} {f : Value} {vs : List V} {o : Nat → Option MO} {nx : Nat} {Q Q' : V → (Nat → Option MO) → Nat → Prop} {QE QE' : (Nat → Option MO) → Nat → Prop}
    (h : FC c C n f vs o nx Q QE) (k : ∀ b o' nx', Q b o' nx' → Q' b o' nx') (kx : ∀ o' nx', QE o' nx' → QE' o' nx') : FC c C n f vs o nx Q' QE' := fun A outer W s xs h1 h2 h3 h4 h5 h6 h7 =>
  codeAny_mono (h A outer W s xs h1 h2 h3 h4 h5 h6 h7) fun r s' q => by
    rcases r with e | (_ | _ | _ | v)
    · obtain ⟨W', o', nx', l, g, f, q⟩ := q; exact ⟨W', o', nx', l, g, f, kx _ _ q⟩
    · exact q.elim
    · exact q.elim
    · exact q.elim
    · obtain ⟨W', b, o', nx', l, rb, g, q⟩ := q; exact ⟨W', b, o', nx', l, rb, g, k _ _ _ q⟩
theorem useQ {Q Q' : Fl → St → Prop} {f : Fl} {σ : St} (h : Q = Q') (q : Q f σ) : Q' f σ := h ▸ q
theorem useX {Q Q' : (Nat → Option MO) → Nat → Prop} {o : Nat → Option MO} {n : Nat} (h : Q = Q') (q : Q o n) : Q' o n := h ▸ q
theorem iV_len (l : List Int) : (iV l).length = l.length := by simp [iV]
theorem isCon_oV (p : Option Int) : (oV p).isCon = false := by induction p <;> rfl
theorem plain_oV (p : Option Int) : (oV p).plain = true := by induction p <;> rfl

theorem call_ex {c : Cx} {C : Addr} {m n : Nat} {f : Value} {vs : List V} {o : Nat → Option MO} {nx : Nat} {Q1 : V → (Nat → Option MO) → Nat → Prop} {K : V → (Nat → Option MO) → Nat → Prop} {QE : (Nat → Option MO) → Nat → Prop}
    (fc : FC c C m f vs o nx Q1 fun _ _ => False) (hm : Nat.ble m n = true) (h : ∀ b o' nx', Q1 b o' nx' → K b o' nx') :
    CallIs c C n f vs o nx K QE :=
  ⟨m, Q1, _, fc, Nat.le_of_ble_eq_true hm, h, fun _ _ h => h.elim⟩

theorem call_eq {c : Cx} {C : Addr} {m n : Nat} {f : Value} {vs : List V} {o o1 : Nat → Option MO} {nx n1 : Nat} {v : V} {K : V → (Nat → Option MO) → Nat → Prop} {QE : (Nat → Option MO) → Nat → Prop}
    (fc : FC c C m f vs o nx (fun b o' nx' => b = v ∧ o' = o1 ∧ nx' = n1) fun _ _ => False) (hm : Nat.ble m n = true) (h : K v o1 n1) :
    CallIs c C n f vs o nx K QE :=
  call_ex fc hm fun b o' nx' hp_ => by obtain ⟨e1, e2, e3⟩ := hp_; rw [e1, e2, e3]; exact h
theorem pick_nn {α : Type} (l : List α) (a b : Nat) : pickV l (some (a : Int)) (some (b : Int)) = (l.drop a).take (b - a) := by
  unfold pickV kms_lo kms_hi
  dsimp only
  rw [if_neg (by lia), if_neg (by lia), Int.toNat_natCast, Int.toNat_natCast]
  by_cases ha : a ≤ l.length
  · rw [Nat.min_eq_left ha]
    by_cases hb : b ≤ l.length
    · rw [Nat.min_eq_left hb]
    · rw [Nat.min_eq_right (by lia), List.take_of_length_le (by simp), List.take_of_length_le (by simp; lia)]
  · have e1 : min a l.length = l.length := by lia
    rw [e1, List.drop_of_length_le (Nat.le_refl _), List.drop_of_length_le (by lia)]
    simp
theorem pick_iV (l : List Int) (a b) : pickV (iV l) a b = iV (pickV l a b) := by
  unfold pickV iV
  simp
theorem splice_nn {α : Type} (l new : List α) (a b : Nat) (ha : a ≤ l.length) (hb : b ≤ l.length) (hab : a ≤ b) : spliceV l (some (a : Int)) (some (b : Int)) new = l.take a ++ new ++ l.drop b := by
  unfold spliceV kms_lo kms_hi
  dsimp only
  rw [if_neg (by lia), if_neg (by lia), Int.toNat_natCast, Int.toNat_natCast, Nat.min_eq_left ha, Nat.min_eq_left hb, Nat.max_eq_right hab]
theorem splice_iV (l new : List Int) (a b) : spliceV (iV l) a b (iV new) = iV (spliceV l a b new) := by
  unfold spliceV iV
  simp
theorem iV_app (a b : List Int) : iV a ++ iV b = iV (a ++ b) := by simp [iV]

noncomputable def GapOk (gs ge : Int) (cells x : List Int) : Prop := ∃ A G B : List Int, cells = A ++ G ++ B ∧ gs = A.length ∧ ge = A.length + G.length ∧ x = A ++ B
theorem bn0 {p : List Value → Prop} {xs : List Value} (hl : xs.length = 0) (h : p []) : p xs := by
  induction xs with
  | nil => exact h
  | cons => cases hl
theorem bnS {n : Nat} {p : List Value → Prop} {xs : List Value} (hl : xs.length = n + 1) (h : ∀ a r, r.length = n → p (a :: r)) : p xs := by
  induction xs with
  | nil => cases hl
  | cons a r => exact h a r (Nat.succ.inj hl)
theorem bn1 {p : List Value → Prop} {xs : List Value} (hl : xs.length = 1) (h : ∀ a0, p [a0]) : p xs := bnS hl fun a r e => bn0 (p := fun r => p (a :: r)) e (h a)
theorem bn2 {p : List Value → Prop} {xs : List Value} (hl : xs.length = 2) (h : ∀ a0 a1, p [a0, a1]) : p xs := bnS hl fun a r e => bn1 (p := fun r => p (a :: r)) e (h a)
theorem bn3 {p : List Value → Prop} {xs : List Value} (hl : xs.length = 3) (h : ∀ a0 a1 a2, p [a0, a1, a2]) : p xs := bnS hl fun a r e => bn2 (p := fun r => p (a :: r)) e (h a)
theorem bn4 {p : List Value → Prop} {xs : List Value} (hl : xs.length = 4) (h : ∀ a0 a1 a2 a3, p [a0, a1, a2, a3]) : p xs := bnS hl fun a r e => bn3 (p := fun r => p (a :: r)) e (h a)
theorem len1 {xs : List Value} (h : xs.length = 1) : ∃ a0, xs = [a0] := bn1 (p := fun xs => ∃ a0, xs = [a0]) h fun a0 => ⟨a0, rfl⟩
theorem len2 {xs : List Value} (h : xs.length = 2) : ∃ a0 a1, xs = [a0, a1] := bn2 (p := fun xs => ∃ a0 a1, xs = [a0, a1]) h fun a0 a1 => ⟨a0, a1, rfl⟩
theorem len3 {xs : List Value} (h : xs.length = 3) : ∃ a0 a1 a2, xs = [a0, a1, a2] := bn3 (p := fun xs => ∃ a0 a1 a2, xs = [a0, a1, a2]) h fun a0 a1 a2 => ⟨a0, a1, a2, rfl⟩
theorem len4 {xs : List Value} (h : xs.length = 4) : ∃ a0 a1 a2 a3, xs = [a0, a1, a2, a3] := bn4 (p := fun xs => ∃ a0 a1 a2 a3, xs = [a0, a1, a2, a3]) h fun a0 a1 a2 a3 => ⟨a0, a1, a2, a3, rfl⟩
noncomputable def bnP : Nat → (List Value → Prop) → Prop
  | 0, p => p []
  | n + 1, p => ∀ a, bnP n fun r => p (a :: r)
theorem bnAll {H : Shared → Prop} {fd : FuncData} {names : List Str} {dflt : List Value} : ∀ {n : Nat}, bnP n (fun xs => bindArgs fd ⟨xs, []⟩ = pure (names.zip (xs ++ dflt))) → ∀ s xs, H s → xs.length = n → BindsTo s fd ⟨xs, []⟩ (names.zip (xs ++ dflt)) := by
  suffices h : ∀ n p, bnP n p → ∀ xs : List Value, xs.length = n → p xs from fun {_} q s xs _ hl => .of_eq (h _ _ q xs hl)
  intro n
  induction n with
  | zero => exact fun p q xs e => bn0 e q
  | succ n ih => exact fun p q xs e => bnS e fun a r h => ih (fun r => p (a :: r)) (q a) r h

theorem gap1 {A G B : List Int} {s e : Nat} (h : e ≤ A.length) : ((A ++ G ++ B).drop s).take (e - s) = ((A ++ B).drop s).take (e - s) := by
  have h1 : e - s - (A.length - s) = 0 := by lia
  simp [List.drop_append, List.take_append, h1, List.append_assoc]
theorem gap2 {A G B : List Int} {s e : Nat} (h : A.length ≤ s) : ((A ++ G ++ B).drop (s + G.length)).take (e - s) = ((A ++ B).drop s).take (e - s) := by
  have h1 : A.drop s = [] := List.drop_of_length_le h
  have h2 : A.drop (s + G.length) = [] := List.drop_of_length_le (by lia)
  have h3 : G.drop (s + G.length - A.length) = [] := List.drop_of_length_le (by lia)
  have h4 : s + G.length - (A.length + G.length) = s - A.length := by lia
  have h5 : s + G.length - A.length - G.length = s - A.length := by lia
  simp [List.drop_append, h1, h2, h3, h4, h5, List.append_assoc]
theorem gap3 {A G B : List Int} {s e : Nat} (h1 : s ≤ A.length) (h2 : A.length ≤ e) : ((A ++ G ++ B).drop s).take (A.length - s) ++ ((A ++ G ++ B).drop (A.length + G.length)).take (e + G.length - (A.length + G.length)) = ((A ++ B).drop s).take (e - s) := by
  have e1 : e + G.length - (A.length + G.length) = e - s - (A.length - s) := by lia
  have e2 : (A ++ G ++ B).drop (A.length + G.length) = B := by rw [← List.length_append]; exact List.drop_left
  have e3 : ((A ++ G ++ B).drop s).take (A.length - s) = A.drop s := by
    rw [List.append_assoc, List.drop_append_of_le_length h1]
    exact List.take_left' (by simp)
  rw [e1, e2, e3, List.drop_append_of_le_length h1, List.take_append, List.take_of_length_le (l := A.drop s) (by simp; lia)]
  simp

theorem mv1 {A1 A2 G B : List Int} : ∃ G' : List Int, G'.length = G.length ∧ (A1 ++ A2 ++ G ++ B).take (A1.length + G.length) ++ A2 ++ (A1 ++ A2 ++ G ++ B).drop (A1.length + A2.length + G.length) = A1 ++ G' ++ (A2 ++ B) := by
  refine ⟨(A2 ++ G).take G.length, by simp, ?_⟩
  have e1 : (A1 ++ A2 ++ G ++ B).drop (A1.length + A2.length + G.length) = B := by rw [← List.length_append, ← List.length_append]; exact List.drop_left
  have e2 : (A1 ++ A2 ++ G ++ B).take (A1.length + G.length) = A1 ++ (A2 ++ G).take G.length := by
    rw [List.append_assoc A1, List.append_assoc A1, List.take_append, List.take_of_length_le (by lia)]
    congr 1
    have : A1.length + G.length - A1.length = G.length := by lia
    rw [this, List.take_append_of_le_length (by simp)]
  rw [e1, e2]
  simp
theorem mv2 {A G B1 B2 : List Int} : ∃ G' : List Int, G'.length = G.length ∧ (A ++ G ++ (B1 ++ B2)).take A.length ++ B1 ++ (A ++ G ++ (B1 ++ B2)).drop (A.length + B1.length) = (A ++ B1) ++ G' ++ B2 := by
  refine ⟨(G ++ B1).drop B1.length, by simp, ?_⟩
  have e1 : (A ++ G ++ (B1 ++ B2)).take A.length = A := by rw [List.append_assoc]; exact List.take_left
  have e2 : (A ++ G ++ (B1 ++ B2)).drop (A.length + B1.length) = (G ++ B1).drop B1.length ++ B2 := by
    rw [List.append_assoc, List.drop_append, List.drop_of_length_le (by lia)]
    have : A.length + B1.length - A.length = B1.length := by lia
    rw [this, ← List.append_assoc, List.drop_append_of_le_length (by simp)]
    simp
  rw [e1, e2]
  simp
theorem split_at {α : Type} (l : List α) (n : Nat) (h : n ≤ l.length) : ∃ a b, l = a ++ b ∧ a.length = n := ⟨l.take n, l.drop n, (List.take_append_drop n l).symm, by simp [h]⟩
theorem zeros_iV (n : Nat) : List.replicate n (V.int 0) = iV (List.replicate n 0) := by simp [iV]

theorem gap_del {gs ge : Int} {cs x : List Int} {s e : Nat} (g : GapOk gs ge cs x) (h1 : (s : Int) ≤ gs) (h2 : gs ≤ e) (h3 : e ≤ x.length) : GapOk s (ge + e - gs) cs (x.take s ++ x.drop e) := by
  refine hideG fun R_ k_ => ?_
  obtain ⟨A, G, B, g1, g2, g3, rfl⟩ := g
  refine k_ ?_
  clear k_
  simp only [List.length_append] at h3
  obtain ⟨A1, A2, rfl, ha⟩ := split_at A s (by lia)
  simp only [List.length_append] at *
  obtain ⟨B1, B2, rfl, hb⟩ := split_at B (e - (A1.length + A2.length)) (by lia)
  simp only [List.length_append] at *
  refine ⟨A1, A2 ++ G ++ B1, B2, by rw [g1]; simp, by lia, by simp only [List.length_append]; lia, ?_⟩
  have e1 : (A1 ++ A2 ++ (B1 ++ B2)).take s = A1 := by rw [← ha, List.append_assoc, List.take_left]
  have e2 : (A1 ++ A2 ++ (B1 ++ B2)).drop e = B2 := by
    have : e = (A1 ++ A2 ++ B1).length := by simp only [List.length_append]; lia
    rw [this, ← List.append_assoc, List.drop_left]
  rw [e1, e2]

noncomputable def atB (rows : List Row) : Bool := match rows.getLast? with
  | none => true
  | some .bnd => true
  | _ => false
theorem atV_last {α β : Type} (f : α → β) (l : List α) (r : α) : atV ((l ++ [r]).map f) (-1) = some (f r) := by
  unfold atV
  rw [if_neg (by decide), if_pos (by simp; lia)]
  have : ((-1 : Int) + (((l ++ [r]).map f).length : Nat)).toNat = l.length := by simp; lia
  rw [this]
  simp
theorem rows_cases (l : List Row) : l = [] ∨ ∃ l' r, l = l' ++ [r] := by
  rcases List.eq_nil_or_concat l with h | ⟨l', r, h⟩
  · exact .inl h
  · exact .inr ⟨l', r, by simpa using h⟩
theorem atB_app (l : List Row) (r : Row) : atB (l ++ [r]) = match r with | .bnd => true | _ => false := by
  unfold atB
  rw [List.getLast?_concat]
  induction r <;> rfl
noncomputable def noteS (rows : List Row) (noted : Option Int) (m : Bool) (tick : Int) : List Row := if m = false ∧ noted ≠ some tick then rows ++ [.unm tick] else rows
noncomputable def noteT (noted : Option Int) (m : Bool) (tick : Int) : Option Int := if m = false then some tick else noted
noncomputable def bndS (rows : List Row) : List Row := if atB rows = true then rows else rows ++ [.bnd]
theorem E_app {t : TS} {r : Row} {v : V} (h : rowV r = v) : upd (E true t) (rowsAt t) (.list (t.rows.map rowV ++ [v])) = E true (t.sRows (t.rows ++ [r])) := by
  rw [← h, show t.rows.map rowV ++ [rowV r] = (t.rows ++ [r]).map rowV by simp]
  exact E_updr
theorem E_appB {t : TS} : upd (E true t) (rowsAt t) (.list (t.rows.map rowV ++ [.tup [.str "boundary"]])) = E true (t.sRows (t.rows ++ [.bnd])) := E_app rfl
theorem E_appU {t : TS} {i : Int} : upd (E true t) (rowsAt t) (.list (t.rows.map rowV ++ [.tup [.str "unmodified", .int i]])) = E true (t.sRows (t.rows ++ [.unm i])) := E_app rfl
theorem E_appI {t : TS} {i j : Int} : upd (E true t) (rowsAt t) (.list (t.rows.map rowV ++ [.tup [.str "insert", .int i, .int j]])) = E true (t.sRows (t.rows ++ [.ins i j])) := E_app rfl
theorem E_appD {t : TS} {i : Int} {cs : List Int} {p : Bool} : upd (E true t) (rowsAt t) (.list (t.rows.map rowV ++ [.tup [.str "delete", .int i, .pie 770 (.lst (iV cs)) (.lst []), .bool p]])) = E true (t.sRows (t.rows ++ [.del i cs p])) := E_app rfl
noncomputable def noteI (rows : List Row) (s m : Int) : List Row := match rows.getLast? with
  | some (.ins a b) => if b = s then rows.dropLast ++ [.ins a (s + m)] else rows ++ [.ins s (s + m)]
  | _ => rows ++ [.ins s (s + m)]
theorem noteI_app (l : List Row) (r : Row) (s m : Int) : noteI (l ++ [r]) s m = match r with
  | .ins a b => if b = s then l ++ [.ins a (s + m)] else (l ++ [r]) ++ [.ins s (s + m)]
  | _ => (l ++ [r]) ++ [.ins s (s + m)] := by
  unfold noteI
  rw [List.getLast?_concat]
  induction r <;> simp
theorem seqIndex_last (n : Nat) : seqIndex? (-1) (n + 1) = some n := by
  unfold seqIndex?
  simp
  lia
theorem map_set_last (l : List Row) (r r' : Row) {v : V} (h : rowV r' = v) : ((l ++ [r]).map rowV).set l.length v = (l ++ [r']).map rowV := by
  rw [← h]; simp
theorem noteS_len (rows noted m tick) : (noteS rows noted m tick).length ≤ rows.length + 1 := by
  unfold noteS
  split <;> simp
noncomputable def renR (e f : Int) : Row → Row
  | .unm k => if k = e then .unm f else .unm k
  | r => r
noncomputable def renS (e f : Int) (i : Nat) (l : List Row) : List Row := (l.take i).map (renR e f) ++ l.drop i
theorem renS_at {e f : Int} {i : Nat} {l : List Row} (h : i < l.length) : (renS e f i l)[i]? = some l[i] := by
  unfold renS
  rw [List.getElem?_append_right (by simp; lia)]
  simp [Nat.min_eq_left (Nat.le_of_lt h), h]
theorem renS_len (e f : Int) (i : Nat) (l : List Row) : (renS e f i l).length = l.length := by
  unfold renS; simp; lia
theorem renS_succ {e f : Int} {i : Nat} {l : List Row} (h : i < l.length) : (renS e f i l).set i (renR e f l[i]) = renS e f (i + 1) l := by
  unfold renS
  have e1 : ((l.take i).map (renR e f)).length = i := by simp; lia
  rw [List.set_append_right _ _ (by lia), e1, Nat.sub_self, List.drop_eq_getElem_cons h, List.set_cons_zero, List.take_add_one, List.getElem?_eq_getElem h, List.map_append]
  simp only [Option.toList_some, List.map_cons, List.map_nil, List.append_assoc, List.cons_append, List.nil_append]
theorem renS_zero (e f : Int) (l : List Row) : renS e f 0 l = l := by simp [renS]
theorem renS_all (e f : Int) (l : List Row) : renS e f l.length l = l.map (renR e f) := by simp [renS]
theorem atV_nat {α β : Type} (f : α → β) (l : List α) (k : Nat) : atV (l.map f) (k : Int) = (l[k]?).map f := by
  unfold atV
  rw [if_pos (by lia), Int.toNat_natCast, List.getElem?_map]
end Mine
end

section
open PySem PySem.W PySem.Calls PyProof.Rows PySem.SeqAt
set_option Elab.async false
set_option linter.unusedVariables false
set_option autoImplicit true
set_option maxRecDepth 100000
set_option maxHeartbeats 4000000
namespace Mine
local macro_rules
  | `(tactic| walk_at "side") => `(tactic| first | rfl | assumption | exact Nat.le_of_ble_eq_true rfl | exact isCon_oV _ | exact plain_oV _ | lia | (rw [iV_len]; assumption) | (simp only [retOf, iV_len, List.length_map]; done) | (simp only [iV_len, List.length_map]; lia) | decide)
local macro_rules
  | `(tactic| walk_at "fold") => `(tactic| first
    | exact E_pt | exact E_zv | exact E_tk | exact E_ck | exact E_sv | exact E_gs | exact E_ge | exact E_cells | exact E_noted | exact E_pend | exact E_pend0 | exact E_idle | exact E_idle0 | exact E_chosen | exact E_d0 | exact E_dn
    | exact E_updr | exact E_appB | exact E_appU | exact E_appI | exact E_appD
    | exact E_cB | exact E_cC | exact E_cI | exact E_cU)
local macro_rules
  | `(tactic| walk_at "s0") => `(tactic| (first
    | refine ⟨_, rfl, ?_⟩
    | refine ⟨(by walk_at "side" : (_ : Prop)), ?_⟩
    | ((conv => whnf); first
    | refine optB_of (E_rows _) ?_
    | refine chkN_of (isCon_oV _) ?_
    | refine chk_of (plain_oV _) ?_
    | refine put_as (by walk_at "fold") ?_
    | refine Or.inl ⟨_, rfl, ?_⟩
    | refine Or.inr ⟨rfl, rfl, ?_⟩
    | refine optB_of (by assumption) ?_
    | (refine brB_mk (fun h => ?_) (fun h => ?_) <;> try cases h))))
local macro_rules
  | `(tactic| walk_at "so") => `(tactic| first | refine IfOr.one ?_ | refine AsgOr.one ?_ | refine Or.inl ?_)
local macro_rules
  | `(tactic| walk_at "stq") => `(tactic| first | walk_at "s0" | ((conv => whnf); walk_at "so"))
local macro_rules
  | `(tactic| walk_at "stj") => `(tactic| first | walk_at "s0" | ((conv => whnf); first | refine useQ (by assumption) ?_ | rfl))
local macro_rules
  | `(tactic| walk_at "st") => `(tactic| first | walk_at "stj" | ((conv => whnf); walk_at "so"))
local macro_rules
  | `(tactic| walk_at "stjs") => `(tactic| ((repeat' (walk_at "stj")); all_goals (try (conv => whnf))))
local macro_rules
  | `(tactic| walk_at "sts") => `(tactic| ((repeat' (walk_at "st")); all_goals (try (conv => whnf))))
local macro_rules
  | `(tactic| walk_at "stsq") => `(tactic| ((repeat' (walk_at "stq")); all_goals (try (conv => whnf))))
local macro_rules
  | `(tactic| walk_at "binds") => `(tactic| (refine bnAll ?_; (repeat' intro _); exact rfl))
set_option tactic.hygienic false
theorem c_gsize {c} (hK : KOk c) {un t nx} (hl : t.cells.length ≤ 2 ^ 24) : FC c 38 1 (.ref 474) [.ins 540 7] (E un t) nx (fun b o' nx' => b = .int (t.cells.length - t.ge + t.gs) ∧ o' = E un t ∧ nx' = nx) (fun _ _ => False) := by
  refine FC_K 30 hK (.cons (g_len hK) .nil) ["self"] [] rfl (by kernel_rfl) .nil (by walk_at "binds") (by decide +kernel) (by decide +kernel) rfl rfl rfl ?_
  intro yd QR hQX hQR
  walk_at "sts"
theorem c_bsize {c} (hK : KOk c) {un t nx} (hl : t.cells.length ≤ 2 ^ 24) : FC c 38 2 (.ref 699) [.ins 751 6] (E un t) nx (fun b o' nx' => b = .int (t.cells.length - t.ge + t.gs) ∧ o' = E un t ∧ nx' = nx) (fun _ _ => False) := by
  refine FC_K 30 hK .nil ["self"] [] rfl (by kernel_rfl) .nil (by walk_at "binds") (by decide +kernel) (by decide +kernel) rfl rfl rfl ?_
  intro yd QR hQX hQR
  repeat' (walk_at "st")
  refine call_eq (c_gsize hK hl) rfl ?_
  walk_at "sts"
set_option tactic.hygienic true in
theorem c_gcodes {c} (hK : KOk c) {un t nx} {x : List Int} {s e : Nat} (g : GapOk t.gs t.ge t.cells x) (hse : s ≤ e) (he : e ≤ x.length) (hl : t.cells.length ≤ 2 ^ 24) : FC c 38 1 (.ref 488) [.ins 540 7, .int s, .int e] (E un t) nx (fun b o' nx' => b = .lst (iV ((x.drop s).take (e - s))) ∧ o' = E un t ∧ nx' = nx) (fun _ _ => False) := by
  obtain ⟨A, G, B, g1, g2, g3, rfl⟩ := g
  refine FC_K 30 hK .nil ["self", "start", "end"] [] rfl (by kernel_rfl) .nil (by walk_at "binds") (by decide +kernel) (by decide +kernel) rfl rfl rfl ?_
  intro yd QR hQX hQR
  walk_at "sts"
  · rename_i h
    have h := of_decide_eq_true h
    refine ⟨?_, rfl, rfl⟩
    rw [pick_iV, pick_nn, g1, gap1 (by lia)]; rfl
  · rename_i h h'
    have h := of_decide_eq_true h'
    refine ⟨?_, rfl, rfl⟩
    rw [show (s : Int) + (t.ge - t.gs) = ((s + G.length : Nat) : Int) by lia, show (e : Int) + (t.ge - t.gs) = ((e + G.length : Nat) : Int) by lia, pick_iV, pick_nn, g1, show e + G.length - (s + G.length) = e - s by lia, gap2 (by lia)]; rfl
  · rename_i h h'
    have h := of_decide_eq_false h
    have h' := of_decide_eq_false h'
    rw [show (e : Int) + (t.ge - t.gs) = ((e + G.length : Nat) : Int) by lia, g2, g3, ← Int.natCast_add, pick_iV, pick_iV, pick_nn, pick_nn, g1, iV_app, gap3 (by lia) (by lia)]
    refine ⟨?_, .inl ?_⟩
    · have := congrArg List.length g1
      simp only [iV_len, List.length_take, List.length_drop, List.length_append] at *
      lia
    · walk_at "sts"
theorem mv_lo {gs ge : Int} {cells x : List Int} {n : Nat} (g : GapOk gs ge cells x) (h : (n : Int) < gs) : ∃ mv cs : List Int, pickV (iV cells) (some (n : Int)) (some gs) = iV mv ∧ spliceV (iV cells) (some (ge - ((iV mv).length : Nat))) (some ge) (iV mv) = iV cs ∧
    (iV cells).length + (iV mv).length ≤ cells.length + cells.length ∧ cs.length = cells.length ∧ ge - ((iV mv).length : Nat) - n = ge - gs ∧ GapOk n (ge - ((iV mv).length : Nat)) cs x := by
  obtain ⟨A, G, B, rfl, rfl, rfl, rfl⟩ := g
  obtain ⟨A1, A2, rfl, rfl⟩ := split_at A n (by lia)
  obtain ⟨G', hG, eG⟩ := mv1 (A1 := A1) (A2 := A2) (G := G) (B := B)
  have e0 : (((A1 ++ A2).length : Nat) : Int) + (G.length : Nat) - (((iV A2).length : Nat) : Int) = ((A1.length + G.length : Nat) : Int) := by rw [iV_len, List.length_append]; lia
  have e1 : (((A1 ++ A2).length : Nat) : Int) + (G.length : Nat) = ((A1.length + A2.length + G.length : Nat) : Int) := by rw [List.length_append]; rfl
  refine ⟨A2, A1 ++ G' ++ (A2 ++ B), ?_, ?_, ?_, ?_, ?_, A1, G', A2 ++ B, rfl, rfl, ?_, List.append_assoc ..⟩
  · rw [pick_iV, pick_nn, List.append_assoc, List.append_assoc, List.drop_left, List.take_left' (by rw [List.length_append, Nat.add_sub_cancel_left])]
  · rw [e0, e1, splice_iV, splice_nn _ _ _ _ (by simp only [List.length_append]; lia) (by simp only [List.length_append]; lia) (by lia), eG]
  · simp only [iV_len, List.length_append]; lia
  · simp only [List.length_append, hG]; lia
  · rw [e0, List.length_append]; lia
  · rw [e0, hG]; rfl
theorem mv_hi {gs ge : Int} {cells x : List Int} {n : Nat} (g : GapOk gs ge cells x) (h : ¬ (n : Int) < gs) (he : n ≤ x.length) : ∃ mv cs : List Int, pickV (iV cells) (some ge) (some (ge + n - gs)) = iV mv ∧ spliceV (iV cells) (some gs) (some (gs + ((iV mv).length : Nat))) (iV mv) = iV cs ∧
    (iV cells).length + (iV mv).length ≤ cells.length + cells.length ∧ cs.length = cells.length ∧ ge + ((iV mv).length : Nat) - n = ge - gs ∧ GapOk n (ge + ((iV mv).length : Nat)) cs x := by
  obtain ⟨A, G, B, rfl, rfl, rfl, rfl⟩ := g
  rw [List.length_append] at he
  obtain ⟨B1, B2, rfl, hb⟩ := split_at B (n - A.length) (by lia)
  obtain rfl : n = A.length + B1.length := by lia
  obtain ⟨G', hG, eG⟩ := mv2 (A := A) (B1 := B1) (B2 := B2) (G := G)
  have e0 : (A.length : Int) + (G.length : Nat) + ((A.length + B1.length : Nat) : Int) - (A.length : Nat) = ((A.length + G.length + B1.length : Nat) : Int) := by lia
  have e1 : (A.length : Int) + (G.length : Nat) = ((A.length + G.length : Nat) : Int) := rfl
  have e2 : (A.length : Int) + ((iV B1).length : Nat) = ((A.length + B1.length : Nat) : Int) := by rw [iV_len]; rfl
  refine ⟨B1, (A ++ B1) ++ G' ++ B2, ?_, ?_, ?_, ?_, ?_, A ++ B1, G', B2, rfl, ?_, ?_, (List.append_assoc ..).symm⟩
  · rw [e0, e1, pick_iV, pick_nn, ← List.length_append, List.drop_left, List.take_left' (by rw [Nat.add_sub_cancel_left])]
  · rw [e2, splice_iV, splice_nn _ _ _ _ (by simp only [List.length_append]; lia) (by simp only [List.length_append]; lia) (by lia), eG]
  · simp only [iV_len, List.length_append]; lia
  · simp only [List.length_append, hG]; lia
  · rw [iV_len]; lia
  · rw [List.length_append]
  · rw [List.length_append, iV_len, hG]; lia
theorem gm_len {n k : Nat} (h : k ≤ n + n) (hn : n ≤ 2 ^ 20) : k ≤ 2 ^ 24 := by lia
noncomputable def TS.sGap (t : TS) (gs ge : Int) (cs : List Int) : TS := ((t.sGs gs).sGe ge).sCells cs
theorem cells_as {un : Bool} {t : TS} {l : List V} {cs : List Int} (h : l = iV cs) : upd (E un t) 8 (.list l) = E un (t.sCells cs) := by subst h; exact E_cells
structure GmR (n : Nat) (w : Int) (k : Nat) (x : List Int) (a : Int × List Int) : Prop where
  len : a.2.length = k
  gap : a.1 - n = w
  ok : GapOk n a.1 a.2 x
theorem call_of3 {c : Cx} {C : Addr} {m n : Nat} {f : Value} {vs : List V} {o : Nat → Option MO} {nx : Nat} {α : Type} {fb : α → V} {fo : α → Nat → Option MO} {fn : α → Nat} {R : α → Prop} {K : V → (Nat → Option MO) → Nat → Prop} {QE : (Nat → Option MO) → Nat → Prop}
    (fc : FC c C m f vs o nx (fun b o' nx' => ∃ a, b = fb a ∧ o' = fo a ∧ nx' = fn a ∧ R a) fun _ _ => False) (hm : Nat.ble m n = true) (h : ∀ a, R a → K (fb a) (fo a) (fn a)) :
    CallIs c C n f vs o nx K QE :=
  call_ex fc hm fun b o' nx' hp_ => by obtain ⟨a, e1, e2, e3, r⟩ := hp_; rw [e1, e2, e3]; exact h a r
set_option tactic.hygienic true in
theorem c_gmove {c} (hK : KOk c) {un t nx} {x : List Int} {at' : Nat} (g : GapOk t.gs t.ge t.cells x) (he : at' ≤ x.length) (hl : t.cells.length ≤ 2 ^ 20) :
    FC c 38 1 (.ref 495) [.ins 540 7, .int at'] (E un t) nx (fun b o' nx' => ∃ a : Int × List Int, b = .none ∧ o' = E un (t.sGap at' a.1 a.2) ∧ nx' = nx ∧ GmR at' (t.ge - t.gs) t.cells.length x a) (fun _ _ => False) := by
  refine FC_K 30 hK (.cons (g_len hK) .nil) ["self", "at"] [] rfl (by kernel_rfl) .nil (by walk_at "binds") (by decide +kernel) (by decide +kernel) rfl rfl rfl ?_
  intro yd QR hQX hQR
  walk_at "sts"
  · rename_i h
    obtain ⟨mv, cs, e1, e2, h1, h2, h3, h4⟩ := mv_lo g (of_decide_eq_true h)
    have h1 := gm_len h1 hl
    rw [e1]
    repeat' (walk_at "st")
    refine put_as (cells_as e2) ?_
    walk_at "sts"
    exact ⟨(_, cs), rfl, rfl, rfl, h2, h3, h4⟩
  · rename_i h
    obtain ⟨mv, cs, e1, e2, h1, h2, h3, h4⟩ := mv_hi g (of_decide_eq_false h) he
    have h1 := gm_len h1 hl
    rw [e1]
    repeat' (walk_at "st")
    refine put_as (cells_as e2) ?_
    walk_at "sts"
    exact ⟨(_, cs), rfl, rfl, rfl, h2, h3, h4⟩
structure GwR (gs : Int) (w k : Nat) (x : List Int) (a : Int × List Int) : Prop where
  len : a.2.length ≤ k
  gap : (w : Int) ≤ a.1 - gs
  ok : GapOk gs a.1 a.2 x
theorem gw_more {gs ge : Int} {cells x : List Int} {w : Nat} (g : GapOk gs ge cells x) (h : (w : Int) - (ge - gs) > 0) (hw : w ≤ 2 ^ 20) (hl : cells.length ≤ 2 ^ 20) : 0 ≤ (w : Int) - (ge - gs) + 8 ∧ (w : Int) - (ge - gs) + 8 ≤ 2 ^ 24 ∧
    ∃ cs, (iV cells).length + (List.replicate ((w : Int) - (ge - gs) + 8).toNat (V.int 0)).length ≤ 2 ^ 24 ∧ spliceV (iV cells) (some ge) (some ge) (List.replicate ((w : Int) - (ge - gs) + 8).toNat (V.int 0)) = iV cs ∧ GwR gs w (max cells.length (x.length + w + 8)) x (ge + ((w : Int) - (ge - gs)) + 8, cs) := by
  obtain ⟨A, G, B, rfl, rfl, rfl, rfl⟩ := g
  simp only [List.length_append] at hl
  obtain ⟨k, hk⟩ : ∃ k : Nat, w = G.length + k + 1 := ⟨w - G.length - 1, by lia⟩
  have e0 : ((w : Int) - ((A.length : Nat) + (G.length : Nat) - (A.length : Nat)) + 8) = ((k + 9 : Nat) : Int) := by lia
  have e1 : (A.length : Int) + (G.length : Nat) = ((A.length + G.length : Nat) : Int) := rfl
  rw [e0, Int.toNat_natCast]
  refine ⟨Int.natCast_nonneg _, by lia, A ++ (G ++ List.replicate (k + 9) 0) ++ B, ?_, ?_, ?_, ?_, A, G ++ List.replicate (k + 9) 0, B, rfl, rfl, ?_, rfl⟩
  · simp only [iV_len, List.length_append, List.length_replicate]; lia
  · rw [zeros_iV, e1, splice_iV, splice_nn _ _ _ _ (by simp only [List.length_append]; lia) (by simp only [List.length_append]; lia) (Nat.le_refl _), ← List.length_append, List.take_left, List.drop_left]
    simp only [List.append_assoc]
  · simp only [List.length_append, List.length_replicate]; lia
  · show (w : Int) ≤ _ + _ + _ + 8 - _; lia
  · show _ + _ + _ + 8 = _; rw [List.length_append, List.length_replicate]; lia
set_option tactic.hygienic true in
theorem c_gwiden {c} (hK : KOk c) {un t nx} {x : List Int} {w : Nat} (g : GapOk t.gs t.ge t.cells x) (hw : w ≤ 2 ^ 20) (hl : t.cells.length ≤ 2 ^ 20) :
    FC c 38 1 (.ref 502) [.ins 540 7, .int w] (E un t) nx (fun b o' nx' => ∃ a : Int × List Int, b = .none ∧ o' = E un (t.sGap t.gs a.1 a.2) ∧ nx' = nx ∧ GwR t.gs w (max t.cells.length (x.length + w + 8)) x a) (fun _ _ => False) := by
  refine FC_K 30 hK .nil ["self", "wanted"] [] rfl (by kernel_rfl) .nil (by walk_at "binds") (by decide +kernel) (by decide +kernel) rfl rfl rfl ?_
  intro yd QR hQX hQR
  walk_at "sts"
  · rename_i h
    obtain ⟨h1, h2, cs, h3, h4, h5⟩ := gw_more g (of_decide_eq_true h) hw hl
    refine ⟨h2, ?_⟩
    repeat' (walk_at "st")
    refine put_as (cells_as h4) ?_
    walk_at "sts"
    exact ⟨(_, cs), rfl, rfl, rfl, h5⟩
  · rename_i h
    exact ⟨(t.ge, t.cells), rfl, rfl, rfl, Nat.le_max_left _ _, Int.le_of_sub_nonpos (Int.not_lt.mp (of_decide_eq_false h)), g⟩
structure GiR (k : Nat) (x : List Int) (a : Int × Int × List Int) : Prop where
  len : a.2.2.length ≤ k
  ok : GapOk a.1 a.2.1 a.2.2 x
theorem gi_splice {n : Nat} {ge : Int} {cells x y : List Int} (g : GapOk n ge cells x) (hw : (y.length : Int) ≤ ge - n) : ∃ cs, spliceV (iV cells) (some (n : Int)) (some ((n : Int) + ((iV y).length : Nat))) (iV y) = iV cs ∧ (iV cells).length + (iV y).length ≤ cells.length + cells.length ∧ GiR cells.length (x.take n ++ y ++ x.drop n) ((n : Int) + ((iV y).length : Nat), ge, cs) := by
  obtain ⟨A, G, B, rfl, h2, rfl, rfl⟩ := g
  obtain rfl : n = A.length := Int.ofNat_inj.mp h2
  obtain ⟨G1, G2, rfl, hG⟩ := split_at G y.length (by lia)
  have e1 : (A.length : Int) + ((iV y).length : Nat) = ((A.length + y.length : Nat) : Int) := by rw [iV_len]; rfl
  refine ⟨A ++ y ++ G2 ++ B, ?_, ?_, ?_, A ++ y, G2, B, rfl, ?_, ?_, ?_⟩
  · rw [e1, splice_iV, splice_nn _ _ _ _ (by simp only [List.length_append]; lia) (by simp only [List.length_append]; lia) (by lia), ← hG, ← List.length_append, List.append_assoc A, List.append_assoc A, List.append_assoc A, List.take_left, ← List.append_assoc A, ← List.append_assoc A G1, List.append_assoc (A ++ G1), List.drop_left]
    simp only [List.append_assoc]
  · simp only [iV_len, List.length_append]; lia
  · simp only [List.length_append]; lia
  · show (A.length : Int) + ((iV y).length : Nat) = ((A ++ y).length : Nat); rw [iV_len, List.length_append]; rfl
  · show _ + ((G1 ++ G2).length : Int) = _; simp only [List.length_append]; lia
  · rw [List.take_left, List.drop_left]
theorem sGap_ins {t : TS} {g1 g2 g3 a b : Int} {c d e : List Int} : ((((t.sGap g1 a c).sGap g2 b d).sCells e).sGs g3) = t.sGap g3 b e := by induction t; rfl
theorem gi_max {a b c k : Nat} (h1 : b ≤ 2 ^ 18) (h2 : a ≤ 2 ^ 18) (h3 : c ≤ 2 ^ 18) (h : k ≤ max c (a + b + 8)) : k ≤ 2 ^ 20 := by lia
theorem c_ginsert {c} (hK : KOk c) {un t nx} {x y : List Int} {at' : Nat} (g : GapOk t.gs t.ge t.cells x) (he : at' ≤ x.length) (hw : y.length ≤ 2 ^ 18) (hx : x.length ≤ 2 ^ 18) (hl : t.cells.length ≤ 2 ^ 18) :
    FC c 38 2 (.ref 509) [.ins 540 7, .int at', .lst (iV y)] (E un t) nx (fun b o' nx' => ∃ a : Int × Int × List Int, b = .none ∧ o' = E un (t.sGap a.1 a.2.1 a.2.2) ∧ nx' = nx ∧ GiR (max t.cells.length (x.length + y.length + 8)) (x.take at' ++ y ++ x.drop at') a) (fun _ _ => False) := by
  have h1 := c_gwiden hK (un := un) (nx := nx) g (w := y.length) (Nat.le_trans hw (by decide)) (Nat.le_trans hl (by decide))
  have h2 : ∀ k : Nat, k ≤ max t.cells.length (x.length + y.length + 8) → k ≤ 2 ^ 20 := fun k h => gi_max hw hx hl h
  refine FC_K 30 hK (.cons (g_len hK) .nil) ["self", "at", "codes"] [] rfl (by kernel_rfl) .nil (by walk_at "binds") (by decide +kernel) (by decide +kernel) rfl rfl rfl ?_
  intro yd QR hQX hQR
  walk_at "sts"
  rw [iV_len]
  refine call_of3 h1 rfl fun a r => ?_
  repeat' (walk_at "st")
  refine call_of3 (c_gmove hK (t := t.sGap t.gs a.1 a.2) r.ok he (h2 _ r.len)) rfl fun a2 r2 => ?_
  have h3 : a2.2.length ≤ max t.cells.length (x.length + y.length + 8) := by rw [r2.len]; exact r.len
  obtain ⟨cs, e1, e2, e3⟩ := gi_splice r2.ok (by rw [r2.gap]; exact r.gap)
  have e2 := gm_len e2 (h2 _ h3)
  repeat' (walk_at "st")
  refine put_as (cells_as e1) ?_
  walk_at "sts"
  exact ⟨((at' : Int) + ((iV y).length : Nat), a2.1, cs), rfl, congrArg (E un) sGap_ins, rfl, Nat.le_trans e3.len h3, e3.ok⟩
set_option tactic.hygienic true in
theorem c_gdelete {c} (hK : KOk c) {un t nx} {x : List Int} {s e : Nat} (g : GapOk t.gs t.ge t.cells x) (hs : s ≤ e) (he : e ≤ x.length) (hl : t.cells.length ≤ 2 ^ 18) :
    FC c 38 2 (.ref 516) [.ins 540 7, .int s, .int e] (E un t) nx (fun b o' nx' => ∃ a : Int × Int × List Int, b = .lst (iV ((x.drop s).take (e - s))) ∧ o' = E un (t.sGap a.1 a.2.1 a.2.2) ∧ nx' = nx ∧ GiR t.cells.length (x.take s ++ x.drop e) a) (fun _ _ => False) := by
  have h0 := c_gcodes hK (un := un) (nx := nx) g hs he (Nat.le_trans hl (by decide))
  have h1 := c_gmove hK (un := un) (nx := nx) g he (Nat.le_trans hl (by decide))
  have h2 := c_gmove hK (un := un) (nx := nx) g (Nat.le_trans hs he) (Nat.le_trans hl (by decide))
  have hse : (s : Int) ≤ e := Int.ofNat_le.mpr hs
  refine FC_K 30 hK .nil ["self", "start", "end"] [] rfl (by kernel_rfl) .nil (by walk_at "binds") (by decide +kernel) (by decide +kernel) rfl rfl rfl ?_
  intro yd QR hQX hQR
  repeat' (walk_at "st")
  refine call_eq h0 rfl ?_
  walk_at "sts"
  · refine call_of3 h1 rfl fun a r => ?_
    walk_at "sts"
    · rename_i h
      exact absurd hse (Int.not_le.mpr (of_decide_eq_true h))
    · exact ⟨(_, _, a.2), rfl, rfl, rfl, Nat.le_of_eq r.len, gap_del r.ok hse (Int.le_refl _) he⟩
  · refine call_of3 h2 rfl fun a r => ?_
    walk_at "sts"
    exact ⟨(_, _, a.2), rfl, rfl, rfl, Nat.le_of_eq r.len, gap_del r.ok (Int.le_refl _) hse he⟩
  · rename_i h h'
    exact ⟨(_, _, t.cells), rfl, rfl, rfl, Nat.le_refl _, gap_del g (Int.not_lt.mp (of_decide_eq_false h')) (Int.not_lt.mp (of_decide_eq_false h)) he⟩
theorem c_bcodes {c} (hK : KOk c) {un t nx} {x : List Int} {s e : Nat} (g : GapOk t.gs t.ge t.cells x) (hs : s ≤ e) (he : e ≤ x.length) (hl : t.cells.length ≤ 2 ^ 24) :
    FC c 38 2 (.ref 713) [.ins 751 6, .int (s + 1 : Nat), .int (e + 1 : Nat)] (E un t) nx (fun b o' nx' => b = .lst (iV ((x.drop s).take (e - s))) ∧ o' = E un t ∧ nx' = nx) (fun _ _ => False) := by
  refine FC_K 40 hK .nil ["self", "start", "end"] [] rfl (by kernel_rfl) .nil (by walk_at "binds") (by decide +kernel) (by decide +kernel) rfl rfl rfl ?_
  intro yd QR hQX hQR
  walk_at "sts"
  rw [show ((s + 1 : Nat) : Int) - 1 = s by lia, show ((e + 1 : Nat) : Int) - 1 = e by lia]
  refine call_eq (c_gcodes hK g hs he hl) rfl ?_
  walk_at "sts"
theorem c_goto {c} (hK : KOk c) {un t nx} {i : Int} (h1 : 1 ≤ i) (h2 : i ≤ t.zv) :
    FC c 38 1 (.ref 720) [.ins 751 6, .int i] (E un t) nx (fun b o' nx' => b = .int i ∧ o' = E un (t.sPt i) ∧ nx' = nx) (fun _ _ => False) := by
  refine FC_K 40 hK (.cons (g_max hK) (.cons (g_min hK) .nil)) ["self", "place"] [] rfl (by kernel_rfl) .nil (by walk_at "binds") (by decide +kernel) (by decide +kernel) rfl rfl rfl ?_
  intro yd QR hQX hQR
  walk_at "sts"
  rw [if_neg (show ¬ (1 : Int) > i by lia), if_neg (show ¬ t.zv < i by lia)]
  exact ⟨rfl, rfl, rfl⟩
theorem c_ismod {c} (hK : KOk c) {un t nx}  :
    FC c 38 1 (.ref 734) [.ins 751 6] (E un t) nx (fun b o' nx' => b = .bool (decide (t.sv < t.tk)) ∧ o' = E un t ∧ nx' = nx) (fun _ _ => False) := by
  refine FC_K 40 hK .nil ["self"] [] rfl (by kernel_rfl) .nil (by walk_at "binds") (by decide +kernel) (by decide +kernel) rfl rfl rfl ?_
  intro yd QR hQX hQR
  walk_at "sts"
theorem c_setmod {c} (hK : KOk c) {un t nx}  :
    FC c 38 1 (.ref 741) [.ins 751 6, .bool false] (E un t) nx (fun b o' nx' => b = .none ∧ o' = E un (t.sSv t.tk) ∧ nx' = nx) (fun _ _ => False) := by
  refine FC_K 40 hK .nil ["self", "is_so"] [] rfl (by kernel_rfl) .nil (by walk_at "binds") (by decide +kernel) (by decide +kernel) rfl rfl rfl ?_
  intro yd QR hQX hQR
  walk_at "sts"
noncomputable def TS.beh (t : TS) : TS := (t.sTk (t.tk + 1)).sCk (t.tk + 1)
theorem c_touch {c} (hK : KOk c) {un t nx}  :
    FC c 38 1 (.ref 748) [.ins 751 6, .bool true] (E un t) nx (fun b o' nx' => b = .none ∧ o' = E un t.beh ∧ nx' = nx) (fun _ _ => False) := by
  refine FC_K 40 hK .nil ["self", "are_codes"] [] rfl (by kernel_rfl) .nil (by walk_at "binds") (by decide +kernel) (by decide +kernel) rfl rfl rfl ?_
  intro yd QR hQX hQR
  walk_at "sts"
theorem c_writable {c} (hK : KOk c) {un t nx}  :
    FC c 38 1 (.ref 48) [.ins 751 6] (E un t) nx (fun b o' nx' => b = .none ∧ o' = E un t ∧ nx' = nx) (fun _ _ => False) := by
  refine FC_K 40 hK .nil ["buffer"] [] rfl (by kernel_rfl) .nil (by walk_at "binds") (by decide +kernel) (by decide +kernel) rfl rfl rfl ?_
  intro yd QR hQX hQR
  walk_at "sts"
set_option tactic.hygienic true in
theorem c_room {c} (hK : KOk c) {un t nx} {i : Int} (hl : t.cells.length ≤ 2 ^ 24) (h : t.cells.length - t.ge + t.gs + i ≤ 4194304) :
    FC c 38 3 (.ref 55) [.ins 751 6, .int i] (E un t) nx (fun b o' nx' => b = .none ∧ o' = E un t ∧ nx' = nx) (fun _ _ => False) := by
  refine FC_K 40 hK (.cons (g_LONGEST hK) .nil) ["buffer", "growth"] [] rfl (by kernel_rfl) .nil (by walk_at "binds") (by decide +kernel) (by decide +kernel) rfl rfl rfl ?_
  intro yd QR hQX hQR
  repeat' (walk_at "st")
  refine call_eq (c_bsize hK hl) rfl ?_
  walk_at "sts"
  rename_i h
  have h := of_decide_eq_true h
  lia
set_option tactic.hygienic true in
theorem c_reached {c} (hK : KOk c) {un t nx} {i j : Int} (h1 : 1 ≤ i) (h2 : i ≤ j) (h3 : j ≤ t.zv) :
    FC c 38 1 (.ref 62) [.ins 751 6, .int i, .int j] (E un t) nx (fun b o' nx' => b = .tup [.int i, .int j] ∧ o' = E un t ∧ nx' = nx) (fun _ _ => False) := by
  refine FC_K 40 hK (.cons (g_max hK) (.cons (g_min hK) .nil)) ["buffer", "start", "end"] [] rfl (by kernel_rfl) .nil (by walk_at "binds") (by decide +kernel) (by decide +kernel) rfl rfl rfl ?_
  intro yd QR hQX hQR
  have e1 : (if j < i then j else i) = i := by split <;> lia
  have e2 : (if j > i then j else i) = j := by split <;> lia
  walk_at "sts"
  · rename_i h
    rw [e1] at h; have := of_decide_eq_true h; lia
  · rename_i h' h
    rw [e2] at h; have := of_decide_eq_true h; lia
  · refine ⟨?_, rfl, rfl⟩
    show V.tup [_, _] = _
    rw [e1, e2]
theorem c_tella {c} (hK : KOk c) {un t nx} {i j : Int} :
    FC c 38 1 (.ref 69) [.ins 751 6, .int i, .int j] (E un t) nx (fun b o' nx' => b = .none ∧ o' = E un t ∧ nx' = nx) (fun _ _ => False) := by
  refine FC_K 40 hK (.cons (g_list hK) .nil) ["buffer", "start", "end"] [] rfl (by kernel_rfl) .nil (by walk_at "binds") (by decide +kernel) (by decide +kernel) rfl rfl rfl ?_
  intro yd QR hQX hQR
  walk_at "sts"
theorem c_tellb {c} (hK : KOk c) {un t nx} {i j k : Int} :
    FC c 38 2 (.ref 76) [.ins 751 6, .int i, .int j, .int k] (E un t) nx (fun b o' nx' => b = .none ∧ o' = E un t.beh ∧ nx' = nx) (fun _ _ => False) := by
  refine FC_K 40 hK (.cons (g_list hK) .nil) ["buffer", "start", "end", "old_length"] [] rfl (by kernel_rfl) .nil (by walk_at "binds") (by decide +kernel) (by decide +kernel) rfl rfl rfl ?_
  intro yd QR hQX hQR
  repeat' (walk_at "st")
  refine call_eq (c_touch hK) rfl ?_
  walk_at "sts"
theorem c_hungo {c} (hK : KOk c) {un t nx} {i j : Int} :
    FC c 38 1 (.ref 97) [.ins 751 6, .int i, .int j] (E un t) nx (fun b o' nx' => b = .none ∧ o' = E un t ∧ nx' = nx) (fun _ _ => False) := by
  refine FC_K 40 hK .nil ["buffer", "start", "end"] [] rfl (by kernel_rfl) .nil (by walk_at "binds") (by decide +kernel) (by decide +kernel) rfl rfl rfl ?_
  intro yd QR hQX hQR
  walk_at "sts"
theorem c_hungi {c} (hK : KOk c) {un t nx} {i j : Int} {a : Bool} :
    FC c 38 1 (.ref 104) [.ins 751 6, .int i, .int j, .bool a] (E un t) nx (fun b o' nx' => b = .none ∧ o' = E un t ∧ nx' = nx) (fun _ _ => False) := by
  refine FC_K 40 hK .nil ["buffer", "place", "many", "before_markers"] [] rfl (by kernel_rfl) .nil (by walk_at "binds") (by decide +kernel) (by decide +kernel) rfl rfl rfl ?_
  intro yd QR hQX hQR
  walk_at "sts"
theorem c_numbers {c} (hK : KOk c) {un t nx}  :
    FC c 38 1 (.ref 565) [.ins 610 9] (E un t) nx (fun b o' nx' => b = .lst [] ∧ o' = E un t ∧ nx' = nx) (fun _ _ => False) := by
  refine FC_K 40 hK (.cons (g_sorted hK) .nil) ["self"] [] rfl (by kernel_rfl) .nil (by walk_at "binds") (by decide +kernel) (by decide +kernel) rfl rfl rfl ?_
  intro yd QR hQX hQR
  walk_at "sts"
theorem c_within {c} (hK : KOk c) {un t nx} {i j : Int} :
    FC c 38 2 (.ref 586) [.ins 610 9, .int i, .int j] (E un t) nx (fun b o' nx' => b = .lst [] ∧ o' = E un t ∧ nx' = nx) (fun _ _ => False) := by
  refine FC_K 40 hK .nil ["self", "start", "end"] [] rfl (by kernel_rfl) .nil (by walk_at "binds") (by decide +kernel) (by decide +kernel) rfl rfl rfl ?_
  intro yd QR hQX hQR
  repeat' (walk_at "st")
  refine call_eq (c_numbers hK) rfl ?_
  walk_at "sts"
theorem c_inserted {c} (hK : KOk c) {un t nx} {i j : Int} {a : Bool} :
    FC c 38 2 (.ref 593) [.ins 610 9, .int i, .int j, .bool a] (E un t) nx (fun b o' nx' => b = .none ∧ o' = E un t ∧ nx' = nx) (fun _ _ => False) := by
  refine FC_K 40 hK .nil ["self", "start", "end", "is_before"] [] rfl (by kernel_rfl) .nil (by walk_at "binds") (by decide +kernel) (by decide +kernel) rfl rfl rfl ?_
  intro yd QR hQX hQR
  repeat' (walk_at "st")
  refine call_eq (c_numbers hK) rfl ?_
  walk_at "sts"
theorem c_deleted {c} (hK : KOk c) {un t nx} {i j : Int} :
    FC c 38 2 (.ref 600) [.ins 610 9, .int i, .int j] (E un t) nx (fun b o' nx' => b = .none ∧ o' = E un t ∧ nx' = nx) (fun _ _ => False) := by
  refine FC_K 40 hK .nil ["self", "start", "end"] [] rfl (by kernel_rfl) .nil (by walk_at "binds") (by decide +kernel) (by decide +kernel) rfl rfl rfl ?_
  intro yd QR hQX hQR
  repeat' (walk_at "st")
  refine call_eq (c_numbers hK) rfl ?_
  walk_at "sts"
theorem c_count {c} (hK : KOk c) {t nx} (hr : t.rows.length ≤ 2 ^ 24) :
    FC c 38 1 (.ref 203) [.ins 276 12] (E true t) nx (fun b o' nx' => b = .int t.rows.length ∧ o' = E true t ∧ nx' = nx) (fun _ _ => False) := by
  refine FC_K 40 hK (.cons (g_len hK) .nil) ["self"] [] rfl (by kernel_rfl) .nil (by walk_at "binds") (by decide +kernel) (by decide +kernel) rfl rfl rfl ?_
  intro yd QR hQX hQR
  walk_at "sts"
  exact ⟨by simp [retOf], rfl, rfl⟩
theorem atB_nil {l : List Row} (h : (false ^^ (((l.map rowV).length : Int) == 0)) = true) : (false ^^ (((l.map rowV).length : Int) == 0)) = atB l := by
  rw [h]
  have : l = [] := by simpa using h
  subst this; rfl
set_option tactic.hygienic true in
theorem c_atb {c} (hK : KOk c) {t nx} (hr : t.rows.length ≤ 2 ^ 24) :
    FC c 38 1 (.ref 210) [.ins 276 12] (E true t) nx (fun b o' nx' => b = .bool (atB t.rows) ∧ o' = E true t ∧ nx' = nx) (fun _ _ => False) := by
  refine FC_K 40 hK (.cons (g_BOUNDARY hK) (.cons (g_len hK) .nil)) ["self"] [] rfl (by kernel_rfl) .nil (by walk_at "binds") (by decide +kernel) (by decide +kernel) rfl rfl rfl ?_
  intro yd QR hQX hQR
  walk_at "stsq"
  · rename_i h
    exact useQ hQR ⟨congrArg V.bool (atB_nil h), rfl, rfl⟩
  · rename_i h
    obtain ⟨l, r, e⟩ := (rows_cases t.rows).resolve_left (fun e => by rw [e] at h; cases h)
    have e1 := atB_app l r
    rw [← e] at e1
    refine ⟨_, by rw [e]; exact atV_last rowV l r, ?_⟩
    induction r <;> walk_at "stsq" <;> exact useQ hQR ⟨congrArg V.bool e1.symm, rfl, rfl⟩
set_option tactic.hygienic true in
theorem c_boundary {c} (hK : KOk c) {t nx} (hr : t.rows.length ≤ 2 ^ 24) :
    FC c 38 2 (.ref 217) [.ins 276 12] (E true t) nx (fun b o' nx' => b = .none ∧ o' = E true (t.sRows (bndS t.rows)) ∧ nx' = nx) (fun _ _ => False) := by
  refine FC_K 40 hK (.cons (g_BOUNDARY hK) .nil) ["self"] [] rfl (by kernel_rfl) .nil (by walk_at "binds") (by decide +kernel) (by decide +kernel) rfl rfl rfl ?_
  intro yd QR hQX hQR
  repeat' (walk_at "stq")
  refine call_eq (c_atb hK hr) rfl ?_
  walk_at "stsq"
  · rename_i h
    exact useQ hQR ⟨rfl, congrArg (fun z => E true (t.sRows z)) (if_pos h).symm, rfl⟩
  · rename_i h
    exact useQ hQR ⟨rfl, congrArg (fun z => E true (t.sRows z)) (if_neg (by rw [h]; decide)).symm, rfl⟩
noncomputable def TS.nt (t : TS) (m : Bool) (i : Int) : TS := (t.sRows (noteS t.rows t.noted m i)).sNoted (noteT t.noted m i)
theorem nt_t {t : TS} {i : Int} : t.nt true i = t := by
  unfold TS.nt noteS noteT
  rw [if_neg (fun q => nomatch q.1), if_neg (fun q => nomatch q)]; rfl
theorem nt_new {t : TS} {i : Int} (h : t.noted ≠ some i) : (t.sRows (t.rows ++ [.unm i])).sNoted (some i) = t.nt false i := by
  unfold TS.nt noteS noteT
  rw [if_pos ⟨rfl, h⟩, if_pos rfl]
theorem nt_old {t : TS} {i : Int} (h : t.noted = some i) : t = t.nt false i := by
  unfold TS.nt noteS noteT
  rw [if_neg (fun q => q.2 h), if_pos rfl, ← h]; rfl
set_option tactic.hygienic true in
theorem c_noteS {c} (hK : KOk c) {t nx} {m : Bool} {i : Int} (hr : t.rows.length ≤ 2 ^ 23) :
    FC c 38 1 (.ref 231) [.ins 276 12, .bool m, .int i] (E true t) nx (fun b o' nx' => b = .none ∧ o' = E true (t.nt m i) ∧ nx' = nx) (fun _ _ => False) := by
  refine FC_K 40 hK .nil ["self", "is_modified", "tick"] [] rfl (by kernel_rfl) .nil (by walk_at "binds") (by decide +kernel) (by decide +kernel) rfl rfl rfl ?_
  intro yd QR hQX hQR
  walk_at "stsq"
  · exact useQ hQR ⟨rfl, congrArg (E true) nt_t.symm, rfl⟩
  · cases hn : t.noted with
    | none =>
      walk_at "stsq"
      exact useQ hQR ⟨rfl, congrArg (E true) (nt_new (by rw [hn]; exact fun q => nomatch q)), rfl⟩
    | some k =>
      walk_at "stsq"
      · rename_i h
        exact useQ hQR ⟨rfl, congrArg (E true) (nt_new (by rw [hn]; intro q; cases q; simp at h)), rfl⟩
      · rename_i h
        exact useQ hQR ⟨rfl, congrArg (E true) (nt_old (by rw [hn, show i = k by simpa using h])), rfl⟩
theorem c_noteB {c} (hK : KOk c) {t nx} {m : Bool} {i j : Int} (hr : t.rows.length ≤ 2 ^ 23) :
    FC c 38 2 (.ref 238) [.ins 276 12, .int j, .bool m, .int i] (E true t) nx (fun b o' nx' => b = .none ∧ o' = E true (t.nt m i) ∧ nx' = nx) (fun _ _ => False) := by
  refine FC_K 40 hK .nil ["self", "start", "is_modified", "tick"] [] rfl (by kernel_rfl) .nil (by walk_at "binds") (by decide +kernel) (by decide +kernel) rfl rfl rfl ?_
  intro yd QR hQX hQR
  repeat' (walk_at "st")
  refine call_eq (c_atb hK (Nat.le_trans hr (by decide))) rfl ?_
  repeat' (walk_at "st")
  refine call_eq (c_noteS hK hr) rfl ?_
  walk_at "sts"
theorem noteI_nil {s m : Int} : [] ++ [Row.ins s (s + m)] = noteI [] s m := rfl
theorem noteI_ne {l : List Row} {a b s m : Int} (h : ¬ b = s) : (l ++ [.ins a b]) ++ [.ins s (s + m)] = noteI (l ++ [.ins a b]) s m := by rw [noteI_app]; exact (if_neg h).symm
theorem noteI_eq {l : List Row} {a b s m : Int} (h : b = s) : l ++ [.ins a (s + m)] = noteI (l ++ [.ins a b]) s m := by rw [noteI_app]; exact (if_pos h).symm
theorem set_ins {t : TS} {l : List Row} {a b s m : Int} (e : t.rows = l ++ [.ins a b]) (h : b = s) : upd (E true t) (rowsAt t) (.list ((t.rows.map rowV).set l.length (.tup [.str "insert", .int a, .int (s + m)]))) = E true (t.sRows (noteI t.rows s m)) := by
  rw [e, map_set_last l (.ins a b) (.ins a (s + m)) (v := .tup [.str "insert", .int a, .int (s + m)]) rfl, noteI_eq h]; exact E_updr
theorem app_ins {t : TS} {s m : Int} (h : t.rows ++ [.ins s (s + m)] = noteI t.rows s m) : E true (t.sRows (t.rows ++ [.ins s (s + m)])) = E true (t.sRows (noteI t.rows s m)) := by rw [h]
theorem set_at {t : TS} {l : List Row} {r : Row} (e : t.rows = l ++ [r]) : seqIndex? (-1) (t.rows.map rowV).length = some l.length ∧ l.length < (t.rows.map rowV).length := by
  rw [e, List.length_map, List.length_append]; exact ⟨seqIndex_last _, Nat.lt_succ_self _⟩
theorem noteI_app2 {l : List Row} {r : Row} {s m : Int} {t : TS} (e : t.rows = l ++ [r]) (h : ∀ a b, r = .ins a b → b ≠ s) : t.rows ++ [.ins s (s + m)] = noteI t.rows s m := by
  rw [e, noteI_app]
  induction r with
  | ins a b => exact (if_neg (h a b rfl)).symm
  | _ => rfl
set_option tactic.hygienic true in
theorem c_noteI {c} (hK : KOk c) {t nx} {m : Bool} {i j k p : Int} (hk : k ≠ 0) (hr : t.rows.length ≤ 2 ^ 23) :
    FC c 38 3 (.ref 245) [.ins 276 12, .int j, .int k, .int p, .bool m, .int i] (E true t) nx (fun b o' nx' => b = .none ∧ o' = E true ((t.nt m i).sRows (noteI (t.nt m i).rows j k)) ∧ nx' = nx) (fun _ _ => False) := by
  have h0 := c_noteB hK (nx := nx) (m := m) (i := i) (j := j) hr
  have hR : (t.nt m i).rows.length ≤ 2 ^ 24 := Nat.le_trans (noteS_len t.rows t.noted m i) (Nat.le_trans (Nat.add_le_add_right hr 1) (by decide))
  refine FC_K 40 hK (.cons (g_BOUNDARY hK) (.cons (g_len hK) .nil)) ["self", "start", "many", "point", "is_modified", "tick"] [] rfl (by kernel_rfl) .nil (by walk_at "binds") (by decide +kernel) (by decide +kernel) rfl rfl rfl ?_
  intro yd QR hQX hQR
  walk_at "sts"
  refine call_eq h0 rfl ?_
  generalize t.nt m i = T at hQR hR
  walk_at "stsq"
  · rename_i h
    obtain ⟨l, r, e⟩ := (rows_cases T.rows).resolve_left (fun e => by rw [e] at h; cases h)
    have e1 : atV (T.rows.map rowV) (-1) = some (rowV r) := by rw [e]; exact atV_last rowV l r
    have e2 := set_at e
    have e3 := fun h => congrArg (fun z => E true (T.sRows z)) (noteI_app2 (s := j) (m := k) e h)
    have e4 := fun a b (q : r = .ins a b) => set_ins (t := T) (s := j) (m := k) (e.trans (by rw [q]))
    refine ⟨_, e1, ?_⟩
    induction r <;> walk_at "stsq"
    · exact useQ hQR ⟨rfl, e3 (fun _ _ q => nomatch q), rfl⟩
    · exact useQ hQR ⟨rfl, e3 (fun _ _ q => nomatch q), rfl⟩
    · rename_i h
      refine ⟨l.length, e2.1, e2.2, put_as (e4 _ _ rfl (by simpa using h)) ?_⟩
      walk_at "stsq"
      exact useQ hQR ⟨rfl, rfl, rfl⟩
    · rename_i h
      exact useQ hQR ⟨rfl, e3 (fun _ _ q => by cases q; simpa using h), rfl⟩
    · exact useQ hQR ⟨rfl, e3 (fun _ _ q => nomatch q), rfl⟩
  · rename_i h
    have e : T.rows = [] := by simpa using h
    exact useQ hQR ⟨rfl, congrArg (fun z => E true (T.sRows z)) (by rw [e]; rfl), rfl⟩
theorem del_flag {p j : Int} {cs : List Int} : (false ^^ (p == j + ((iV cs).length : Nat))) = (p == j + (cs.length : Int)) := by rw [iV_len, Bool.false_xor]
set_option tactic.hygienic true in
theorem c_noteD {c} (hK : KOk c) {t nx} {m : Bool} {i j p : Int} {cs : List Int} (hk : cs ≠ []) (hc : cs.length ≤ 2 ^ 24) (hr : t.rows.length ≤ 2 ^ 23) :
    FC c 38 3 (.ref 252) [.ins 276 12, .int j, .pie 770 (.lst (iV cs)) (.lst []), .int p, .lst [], .bool m, .int i] (E true t) nx (fun b o' nx' => b = .none ∧ o' = E true ((t.nt m i).sRows ((t.nt m i).rows ++ [.del j cs (p == j + cs.length)])) ∧ nx' = nx) (fun _ _ => False) := by
  have h0 := c_noteB hK (nx := nx) (m := m) (i := i) (j := j) hr
  have hR : (t.nt m i).rows.length ≤ 2 ^ 23 + 1 := Nat.le_trans (noteS_len t.rows t.noted m i) (Nat.add_le_add_right hr 1)
  refine FC_K 40 hK (.cons (g_len hK) .nil) ["self", "start", "piece", "point", "markers", "is_modified", "tick"] [] rfl (by kernel_rfl) .nil (by walk_at "binds") (by decide +kernel) (by decide +kernel) rfl rfl rfl ?_
  intro yd QR hQX hQR
  walk_at "sts"
  · rename_i h
    have h : cs = [] := by simpa [iV_len] using h
    exact absurd h hk
  · refine call_eq h0 rfl ?_
    generalize t.nt m i = T at hQR hR
    walk_at "stsq"
    rw [del_flag]
    exact useQ hQR ⟨rfl, rfl, rfl⟩
noncomputable def renL (i j : Int) : List (Str × V) := [("self", .ins 276 12), ("elder", .int i), ("fresh", .int j), ("own", .tup [.str "unmodified", .int i])]
noncomputable def RenI (i j : Int) (t : TS) (nx k : Nat) (σ : St) : Prop := σ = ⟨renL i j, E true (t.sRows (renS i j k t.rows)), nx⟩
set_option tactic.hygienic true in
theorem ren_same {l l' : List Row} {k : Nat} {r r' : Row} (e : l[k]? = some r) (hs : l.set k r' = l') (h : r' = r) : l = l' := by
  subst hs h
  apply List.ext_getElem?
  intro m
  rw [List.getElem?_set]
  split
  · rename_i q; subst q; rw [e, if_pos (List.getElem?_eq_some_iff.mp e).1]
  · rfl
theorem ren_set {t : TS} {l l' : List Row} {k : Nat} {i j x : Int} (hs : l.set k (renR i j (.unm x)) = l') (h : x = i) : upd (E true (t.sRows l)) (rowsAt (t.sRows l)) (.list ((l.map rowV).set k (.tup [.str "unmodified", .int j]))) = E true (t.sRows l') := by
  subst hs h
  rw [show (l.map rowV).set k (.tup [.str "unmodified", .int j]) = (l.set k (renR x j (.unm x))).map rowV by rw [List.map_set]; simp [renR, rowV]]
  exact E_updr (t := t.sRows l)
set_option tactic.hygienic true in
theorem c_renew {c} (hK : KOk c) {t nx} {i j : Int} (hr : t.rows.length ≤ 2 ^ 24) :
    FC c 38 1 (.ref 266) [.ins 276 12, .int i, .int j] (E true t) nx (fun b o' nx' => b = .none ∧ o' = E true (t.sRows (t.rows.map (renR i j))) ∧ nx' = nx) (fun _ _ => False) := by
  have hz : t = t.sRows (renS i j 0 t.rows) := by rw [renS_zero]; rfl
  refine FC_K 40 hK (.cons (g_len hK) (.cons (g_range hK) .nil)) ["self", "elder", "fresh"] [] rfl (by kernel_rfl) .nil (by walk_at "binds") (by decide +kernel) (by decide +kernel) rfl rfl rfl ?_
  intro yd QR hQX hQR
  walk_at "stsq"
  refine ⟨RenI i j t nx, ⟨renL i j, ⟨rfl, rfl, rfl, rfl, trivial⟩, congrArg (fun z => St.mk (renL i j) (E true z) nx) hz⟩, ?_, ?_⟩
  · rintro k σ2 hk rfl
    have hk : k < t.rows.length := by simpa using hk
    have e0 := renS_at (e := i) (f := j) hk
    have hs := renS_succ (e := i) (f := j) hk
    have hl : (renS i j k t.rows).length ≤ 2 ^ 24 := by rw [renS_len]; exact hr
    have fin : ∀ z : TS, z = t.sRows (renS i j (k + 1) t.rows) → RenI i j t nx (k + 1) ⟨renL i j, E true z, nx⟩ := fun z q => by rw [q]; rfl
    generalize renS i j (k + 1) t.rows = l' at hs fin
    generalize renS i j k t.rows = l at e0 hs hl ⊢
    generalize t.rows[k] = r at e0 hs
    have hkl : k < l.length := (List.getElem?_eq_some_iff.mp e0).1
    have hsm := fun h => congrArg t.sRows (ren_same e0 hs h)
    have hat : atV (l.map rowV) (k : Int) = some (rowV r) := by rw [atV_nat, e0]; rfl
    have hst := fun x (q : r = .unm x) => ren_set (t := t) (x := x) (q ▸ hs)
    have hix : seqIndex? (k : Int) (l.map rowV).length = some k ∧ k < (l.map rowV).length := by rw [List.length_map]; exact ⟨seqIndex_of (Int.natCast_nonneg k) (Int.ofNat_lt.mpr hkl), hkl⟩
    walk_at "stsq"
    refine ⟨rowV r, hat, ?_⟩
    induction r <;> walk_at "stsq"
    · exact ⟨renL i j, ⟨rfl, rfl, rfl, rfl, trivial⟩, fin _ (hsm rfl)⟩
    · rename_i x h
      refine ⟨k, hix.1, hix.2, put_as (hst x rfl (by simpa using h)) ?_⟩
      walk_at "stsq"
      exact ⟨renL i j, ⟨rfl, rfl, rfl, rfl, trivial⟩, fin _ rfl⟩
    · rename_i x h
      have h : ¬ x = i := by simpa using h
      exact ⟨renL i j, ⟨rfl, rfl, rfl, rfl, trivial⟩, fin _ (hsm (if_neg h))⟩
    · exact ⟨renL i j, ⟨rfl, rfl, rfl, rfl, trivial⟩, fin _ (hsm rfl)⟩
    · exact ⟨renL i j, ⟨rfl, rfl, rfl, rfl, trivial⟩, fin _ (hsm rfl)⟩
  · rintro σ2 rfl
    have hz : renS i j (t.rows.map rowV).length t.rows = t.rows.map (renR i j) := by rw [List.length_map, renS_all]
    walk_at "stsq"
    exact useQ hQR ⟨rfl, congrArg (fun z => E true (t.sRows z)) hz, rfl⟩
theorem upd_upd {o : Nat → Option MO} {n : Nat} {x y : MO} : upd (upd o n x) n y = upd o n y := by
  funext k; unfold upd; split <;> rfl
theorem upd_self {o : Nat → Option MO} {n : Nat} {x : MO} : upd o n x n = some x := if_pos rfl

theorem mk_ok (P : Params) : ([276, 353, 540, 610, 751, 770, 810].all fun C : Nat => makesIn (Mine.hx.heap_1_39 P) C) = true := by kernel_rfl
theorem mkOf {c : Cx} (hK : KOk c) {C : Nat} (h : C ∈ [276, 353, 540, 610, 751, 770, 810]) : makesIn c.K C = true := by
  rw [hK]; exact List.all_eq_true.mp (mk_ok _) C h
theorem in_ok (P : Params) : [(276, 196), (353, 350), (540, 467), (610, 558), (751, 664), (770, 767), (810, 788)].map (fun p : Nat × Nat => (findIn (Mine.hx.heap_1_39 P) (.ref p.1) "__init__", typeIn (Mine.hx.heap_1_39 P) (.ref p.2))) = [(276, 196), (353, 350), (540, 467), (610, 558), (751, 664), (770, 767), (810, 788)].map fun p : Nat × Nat => (some (some (.ref p.2)), some (.type "function")) := by kernel_rfl
theorem inOf {c : Cx} (hK : KOk c) {C f : Nat} (h : (C, f) ∈ [(276, 196), (353, 350), (540, 467), (610, 558), (751, 664), (770, 767), (810, 788)]) : findIn c.K (.ref C) "__init__" = some (some (.ref f)) ∧ typeIn c.K (.ref f) = some (.type "function") := by
  rw [hK]; exact Prod.mk.inj (eqs_of (in_ok c.w.params) h)
theorem i_piece {c} (hK : KOk c) {o nx cv rv} : FC c 38 1 (.ref 767) [.ins 770 nx, cv, rv] (upd o nx (.ns [])) (nx + 1) (fun b o' nx' => b = .none ∧ o' = upd o nx (.ns [("codes", cv), ("runs", rv)]) ∧ nx' = nx + 1) (fun _ _ => False) := by
  refine FC_K 40 hK .nil ["self", "codes", "runs"] [] rfl (by kernel_rfl) .nil (by walk_at "binds") (by decide +kernel) (by decide +kernel) rfl rfl rfl ?_
  intro yd QR hQX hQR
  ((repeat' ((conv => whnf); first | refine optB_of upd_self ?_ | (refine And.intro (by walk_at "side") ?_) | (refine put_as (by first | exact upd_upd | exact rfl) ?_) | refine useQ (by assumption) ?_ | (refine brB_mk (fun hq9 => ?_) (fun hq9 => ?_) <;> try cases hq9) | rfl)); all_goals (try (conv => whnf)))
theorem k_piece {c} (hK : KOk c) {o nx cv rv} (h : o nx = none) : FC c 38 2 (.ref 770) [cv, rv] o nx (fun b o' nx' => b = .pie 770 cv rv ∧ o' = o ∧ nx' = nx) (fun _ _ => False) :=
  FC_pie (mkOf hK (by decide)) (inOf hK (C := 770) (f := 767) (by decide)).1 (inOf hK (C := 770) (f := 767) (by decide)).2 h (i_piece hK)
theorem k_markers {c} (hK : KOk c) {o} : FC c 38 2 (.ref 610) [] o 9 (fun b o' nx' => b = .ins 610 9 ∧ o' = upd (upd o 9 (.ns [("rows", .ref 10)])) 10 (.imap (fun _ => none) 0) ∧ nx' = 11) (fun _ _ => False) := by
  refine FC_make (mkOf hK (by decide)) (inOf hK (C := 610) (f := 558) (by decide)).1 (inOf hK (C := 610) (f := 558) (by decide)).2 ?_
  refine FC_K 40 hK .nil ["self"] [] rfl (by kernel_rfl) .nil (by walk_at "binds") (by decide +kernel) (by decide +kernel) rfl rfl rfl ?_
  intro yd QR hQX hQR
  ((repeat' ((conv => whnf); first | refine optB_of upd_self ?_ | (refine And.intro (by walk_at "side") ?_) | (refine put_as (by first | exact upd_upd | exact rfl) ?_) | refine useQ (by assumption) ?_ | (refine brB_mk (fun hq9 => ?_) (fun hq9 => ?_) <;> try cases hq9) | rfl)); all_goals (try (conv => whnf)))
  refine ⟨?_, rfl⟩
  (funext k; simp only [upd, St.set]; (repeat' split); all_goals first | rfl | (exfalso; lia))
theorem k_ulist {c} (hK : KOk c) {o} : FC c 38 2 (.ref 276) [] o 12 (fun b o' nx' => b = .ins 276 12 ∧ o' = upd (upd o 12 (.ns [("rows", .ref 13), ("dropped", .int 0), ("is_on", .bool true), ("point_before", .none), ("noted_tick", .none)])) 13 (.list []) ∧ nx' = 14) (fun _ _ => False) := by
  refine FC_make (mkOf hK (by decide)) (inOf hK (C := 276) (f := 196) (by decide)).1 (inOf hK (C := 276) (f := 196) (by decide)).2 ?_
  refine FC_K 40 hK .nil ["self"] [] rfl (by kernel_rfl) .nil (by walk_at "binds") (by decide +kernel) (by decide +kernel) rfl rfl rfl ?_
  intro yd QR hQX hQR
  ((repeat' ((conv => whnf); first | refine optB_of upd_self ?_ | (refine And.intro (by walk_at "side") ?_) | (refine put_as (by first | exact upd_upd | exact rfl) ?_) | refine useQ (by assumption) ?_ | (refine brB_mk (fun hq9 => ?_) (fun hq9 => ?_) <;> try cases hq9) | rfl)); all_goals (try (conv => whnf)))
  right
  ((repeat' ((conv => whnf); first | refine optB_of upd_self ?_ | (refine And.intro (by walk_at "side") ?_) | (refine put_as (by first | exact upd_upd | exact rfl) ?_) | refine useQ (by assumption) ?_ | (refine brB_mk (fun hq9 => ?_) (fun hq9 => ?_) <;> try cases hq9) | rfl)); all_goals (try (conv => whnf)))
  refine ⟨?_, rfl⟩
  (funext k; simp only [upd, St.set]; (repeat' split); all_goals first | rfl | (exfalso; lia))
theorem k_undoing {c} (hK : KOk c) {o} : FC c 38 2 (.ref 353) [] o 14 (fun b o' nx' => b = .ins 353 14 ∧ o' = upd (upd o 14 (.ns [("pending", .none), ("idle", .none), ("chosen", .none), ("equal", .ref 15)])) 15 (.imap (fun _ => none) 0) ∧ nx' = 16) (fun _ _ => False) := by
  refine FC_make (mkOf hK (by decide)) (inOf hK (C := 353) (f := 350) (by decide)).1 (inOf hK (C := 353) (f := 350) (by decide)).2 ?_
  refine FC_K 40 hK .nil ["self"] [] rfl (by kernel_rfl) .nil (by walk_at "binds") (by decide +kernel) (by decide +kernel) rfl rfl rfl ?_
  intro yd QR hQX hQR
  ((repeat' ((conv => whnf); first | refine optB_of upd_self ?_ | (refine And.intro (by walk_at "side") ?_) | (refine put_as (by first | exact upd_upd | exact rfl) ?_) | refine useQ (by assumption) ?_ | (refine brB_mk (fun hq9 => ?_) (fun hq9 => ?_) <;> try cases hq9) | rfl)); all_goals (try (conv => whnf)))
  refine ⟨?_, rfl⟩
  (funext k; simp only [upd, St.set]; (repeat' split); all_goals first | rfl | (exfalso; lia))
theorem k_recording {c} (hK : KOk c) {o} : FC c 38 4 (.ref 810) [] o 11 (fun b o' nx' => b = .ins 810 11 ∧ o' = upd (upd (upd o 11 (.ns [("list", .ins 276 12)])) 12 (.ns [("rows", .ref 13), ("dropped", .int 0), ("is_on", .bool true), ("point_before", .none), ("noted_tick", .none)])) 13 (.list []) ∧ nx' = 14) (fun _ _ => False) := by
  refine FC_make (mkOf hK (by decide)) (inOf hK (C := 810) (f := 788) (by decide)).1 (inOf hK (C := 810) (f := 788) (by decide)).2 ?_
  refine FC_K 40 hK (.cons (g_UndoList hK) .nil) ["self"] [] rfl (by kernel_rfl) .nil (by walk_at "binds") (by decide +kernel) (by decide +kernel) rfl rfl rfl ?_
  intro yd QR hQX hQR
  ((repeat' ((conv => whnf); first | refine optB_of upd_self ?_ | (refine And.intro (by walk_at "side") ?_) | (refine put_as (by first | exact upd_upd | exact rfl) ?_) | refine useQ (by assumption) ?_ | (refine brB_mk (fun hq9 => ?_) (fun hq9 => ?_) <;> try cases hq9) | rfl)); all_goals (try (conv => whnf)))
  refine call_eq (k_ulist hK) rfl ?_
  ((repeat' ((conv => whnf); first | refine optB_of upd_self ?_ | (refine And.intro (by walk_at "side") ?_) | (refine put_as (by first | exact upd_upd | exact rfl) ?_) | refine useQ (by assumption) ?_ | (refine brB_mk (fun hq9 => ?_) (fun hq9 => ?_) <;> try cases hq9) | rfl)); all_goals (try (conv => whnf)))
  refine ⟨?_, rfl⟩
  (funext k; simp only [upd, St.set]; (repeat' split); all_goals first | rfl | (exfalso; lia))
theorem k_gap {c} (hK : KOk c) {o} : FC c 38 2 (.ref 540) [.lst [], .int 8] o 7 (fun b o' nx' => b = .ins 540 7 ∧ o' = upd (upd o 7 (.ns [("room", .int 8), ("cells", .ref 8), ("gap_start", .int 0), ("gap_end", .int 8)])) 8 (.list (iV (List.replicate 8 0))) ∧ nx' = 9) (fun _ _ => False) := by
  refine FC_make (mkOf hK (by decide)) (inOf hK (C := 540) (f := 467) (by decide)).1 (inOf hK (C := 540) (f := 467) (by decide)).2 ?_
  refine FC_K 40 hK (.cons (g_len hK) (.cons (g_list hK) .nil)) ["self", "codes", "room"] [] rfl (by kernel_rfl) .nil (by walk_at "binds") (by decide +kernel) (by decide +kernel) rfl rfl rfl ?_
  intro yd QR hQX hQR
  ((repeat' ((conv => whnf); first | refine optB_of upd_self ?_ | (refine And.intro (by walk_at "side") ?_) | (refine put_as (by first | exact upd_upd | exact rfl) ?_) | refine useQ (by assumption) ?_ | (refine brB_mk (fun hq9 => ?_) (fun hq9 => ?_) <;> try cases hq9) | rfl)); all_goals (try (conv => whnf)))
  left
  ((repeat' ((conv => whnf); first | refine optB_of upd_self ?_ | (refine And.intro (by walk_at "side") ?_) | (refine put_as (by first | exact upd_upd | exact rfl) ?_) | refine useQ (by assumption) ?_ | (refine brB_mk (fun hq9 => ?_) (fun hq9 => ?_) <;> try cases hq9) | rfl)); all_goals (try (conv => whnf)))
  right
  ((repeat' ((conv => whnf); first | refine optB_of upd_self ?_ | (refine And.intro (by walk_at "side") ?_) | (refine put_as (by first | exact upd_upd | exact rfl) ?_) | refine useQ (by assumption) ?_ | (refine brB_mk (fun hq9 => ?_) (fun hq9 => ?_) <;> try cases hq9) | rfl)); all_goals (try (conv => whnf)))
  refine ⟨?_, rfl⟩
  (funext k; simp only [upd, St.set]; (repeat' split); all_goals first | rfl | (exfalso; lia))
noncomputable def E5 (t : TS) : Nat → Option MO := fun k => if k < 6 then E false t k else none
noncomputable def TS.fresh (t : TS) : TS := { t with pt := 1, zv := 1, tk := 1, ck := 1, sv := 1, gs := 0, ge := 8, cells := List.replicate 8 0, ex := fun _ => none }
noncomputable def AllLt (f g : Nat → Option MO) : Nat → Prop
  | 0 => True
  | n + 1 => AllLt f g n ∧ f n = g n
theorem AllLt.get {f g : Nat → Option MO} : ∀ {n : Nat}, AllLt f g n → ∀ {k : Nat}, k < n → f k = g k
  | 0, _, _, hk => absurd hk (Nat.not_lt_zero _)
  | n + 1, h, k, hk => if e : k = n then e ▸ h.2 else AllLt.get h.1 (Nat.lt_of_le_of_ne (Nat.le_of_lt_succ hk) e)
theorem E_none (t : TS) (hx : t.ex = fun _ => none) {k : Nat} (h : 11 ≤ k) : E false t k = none := by
  rcases Nat.lt_or_ge k 19 with h' | h'
  · have A : AllLt (fun j => E false t (11 + j)) (fun j => t.ex (11 + j)) 8 := ⟨⟨⟨⟨⟨⟨⟨⟨trivial, rfl⟩, rfl⟩, rfl⟩, rfl⟩, rfl⟩, rfl⟩, rfl⟩, rfl⟩
    have := A.get (k := k - 11) (Nat.sub_lt_left_of_lt_add h h')
    rw [hx] at this
    dsimp only at this
    rw [Nat.add_sub_cancel' h] at this
    exact this
  · unfold E
    rw [List.getElem?_eq_none (by rw [tab_len]; exact h')]; show t.ex _ = none; rw [hx]
theorem E5_chain (t : TS) {o' : Nat → Option MO} (h0 : ∀ k, k < 6 → o' k = E5 t k) (h6 : o' 6 = some (.ns (bufF false t.fresh))) (h7 : o' 7 = some (.ns (gapF t.fresh))) (h8 : o' 8 = some (.list (iV t.fresh.cells))) (h9 : o' 9 = some (.ns [("rows", .ref 10)])) (h10 : o' 10 = some (.imap (fun _ => none) 0)) (h11 : ∀ k, 11 ≤ k → o' k = none) : o' = E false t.fresh := by
  funext k
  rcases Nat.lt_or_ge k 11 with h | h
  · exact AllLt.get (f := o') (g := E false t.fresh) (n := 11) ⟨⟨⟨⟨⟨⟨⟨⟨⟨⟨⟨trivial, h0 0 (by decide)⟩, h0 1 (by decide)⟩, h0 2 (by decide)⟩, h0 3 (by decide)⟩, h0 4 (by decide)⟩, h0 5 (by decide)⟩, h6⟩, h7⟩, h8⟩, h9⟩, h10⟩ h
  · rw [h11 k h, E_none _ rfl h]
theorem k_buffer {c} (hK : KOk c) {t} : FC c 38 6 (.ref 751) [.int 1, .str "a"] (E5 t) 6 (fun b o' nx' => b = .ins 751 6 ∧ nx' = 11 ∧ o' = E false t.fresh) (fun _ _ => False) := by
  refine FC_make (mkOf hK (by decide)) (inOf hK (C := 751) (f := 664) (by decide)).1 (inOf hK (C := 751) (f := 664) (by decide)).2 ?_
  obtain ⟨tk, m, e⟩ : ∃ tk m, (Mine.hx.heap_1_39 c.w.params).lookup 657 = some (tupO [.int 8 tk] m) := ⟨_, _, rfl⟩
  refine FC_K 40 hK (.cons (g_GapText hK) (.cons (g_Markers hK) .nil)) ["self", "number", "name", "room"] (dflt := [.int 8 tk]) [.int 8] rfl (by kernel_rfl) (.cons .int .nil) ?_ (by decide +kernel) (by decide +kernel) rfl rfl rfl ?_
  · intro s xs X hl
    obtain ⟨a, b, d, rfl⟩ := len3 hl
    exact binds_K X rfl e rfl rfl rfl
  intro yd QR hQX hQR
  ((repeat' ((conv => whnf); first | refine optB_of upd_self ?_ | (refine And.intro (by walk_at "side") ?_) | (refine put_as (by first | exact upd_upd | exact rfl) ?_) | refine useQ (by assumption) ?_ | (refine brB_mk (fun hq9 => ?_) (fun hq9 => ?_) <;> try cases hq9) | rfl)); all_goals (try (conv => whnf)))
  left
  ((repeat' ((conv => whnf); first | refine optB_of upd_self ?_ | (refine And.intro (by walk_at "side") ?_) | (refine put_as (by first | exact upd_upd | exact rfl) ?_) | refine useQ (by assumption) ?_ | (refine brB_mk (fun hq9 => ?_) (fun hq9 => ?_) <;> try cases hq9) | rfl)); all_goals (try (conv => whnf)))
  refine call_eq (k_gap hK) rfl ?_
  ((repeat' ((conv => whnf); first | refine optB_of upd_self ?_ | (refine And.intro (by walk_at "side") ?_) | (refine put_as (by first | exact upd_upd | exact rfl) ?_) | refine useQ (by assumption) ?_ | (refine brB_mk (fun hq9 => ?_) (fun hq9 => ?_) <;> try cases hq9) | rfl)); all_goals (try (conv => whnf)))
  refine call_eq (k_markers hK) rfl ?_
  ((repeat' ((conv => whnf); first | refine optB_of upd_self ?_ | (refine And.intro (by walk_at "side") ?_) | (refine put_as (by first | exact upd_upd | exact rfl) ?_) | refine useQ (by assumption) ?_ | (refine brB_mk (fun hq9 => ?_) (fun hq9 => ?_) <;> try cases hq9) | rfl)); all_goals (try (conv => whnf)))
  left
  ((repeat' ((conv => whnf); first | refine optB_of upd_self ?_ | (refine And.intro (by walk_at "side") ?_) | (refine put_as (by first | exact upd_upd | exact rfl) ?_) | refine useQ (by assumption) ?_ | (refine brB_mk (fun hq9 => ?_) (fun hq9 => ?_) <;> try cases hq9) | rfl)); all_goals (try (conv => whnf)))
  refine E5_chain t (fun k hk => ?_) rfl rfl rfl rfl rfl (fun k hk => ?_)
  · refine AllLt.get (g := E5 t) (n := 6) ?_ hk
    exact ⟨⟨⟨⟨⟨⟨trivial, rfl⟩, rfl⟩, rfl⟩, rfl⟩, rfl⟩, rfl⟩
  · simp only [upd, E5]
    repeat' split
    all_goals first | rfl | (exfalso; lia)
noncomputable def TS.comes (t : TS) (s m : Int) : TS := { t with rows := noteI (noteS t.rows t.noted (decide (t.sv < t.tk)) t.sv) s m, noted := noteT t.noted (decide (t.sv < t.tk)) t.sv }
noncomputable def TS.goes (t : TS) (s : Int) (cs : List Int) : TS := { t with rows := noteS t.rows t.noted (decide (t.sv < t.tk)) t.sv ++ [.del s cs (t.pt == s + cs.length)], noted := noteT t.noted (decide (t.sv < t.tk)) t.sv }
theorem E_nx {t : TS} {nx : Nat} (hx : t.ex nx = none) (h : 19 ≤ nx) (hr : rowsAt t < nx) : E true t nx = none := by
  unfold E
  rw [List.getElem?_eq_none (by rw [tab_len]; exact h)]
  dsimp only
  rw [if_neg (fun q => by lia), hx]
theorem c_comes {c} (hK : KOk c) {t nx} {j k : Int} (hk : k ≠ 0) (hr : t.rows.length ≤ 2 ^ 23) :
    FC c 38 4 (.ref 795) [.ins 810 11, .ins 751 6, .int j, .int k] (E true t) nx (fun b o' nx' => b = .none ∧ o' = E true (t.comes j k) ∧ nx' = nx) (fun _ _ => False) := by
  refine FC_K 40 hK .nil ["self", "buffer", "start", "many"] [] rfl (by kernel_rfl) .nil (by walk_at "binds") (by decide +kernel) (by decide +kernel) rfl rfl rfl ?_
  intro yd QR hQX hQR
  repeat' (walk_at "st")
  refine call_eq (c_ismod hK) rfl ?_
  repeat' (walk_at "st")
  refine call_eq (c_noteI hK hk hr) rfl ?_
  walk_at "sts"
noncomputable def TS.txIn (t : TS) (s k : Int) (a : Int × Int × List Int) : TS := ((t.sGap a.1 a.2.1 a.2.2).sZv (t.zv + k)).sPt (if t.pt > s then t.pt + k else t.pt)
theorem txIn_gt {t : TS} {s k : Int} {a : Int × Int × List Int} (h : t.pt > s) : ((t.sGap a.1 a.2.1 a.2.2).sZv (t.zv + k)).sPt (t.pt + k) = t.txIn s k a := by unfold TS.txIn; rw [if_pos h]
theorem txIn_le {t : TS} {s k : Int} {a : Int × Int × List Int} (h : ¬ t.pt > s) : (t.sGap a.1 a.2.1 a.2.2).sZv (t.zv + k) = t.txIn s k a := by unfold TS.txIn; rw [if_neg h]; rfl
theorem at_pred (s : Nat) : ((s + 1 : Nat) : Int) - 1 = s := by lia
set_option tactic.hygienic true in
theorem c_textin_false {c} (hK : KOk c) {t nx} {x y : List Int} {s : Nat} (g : GapOk t.gs t.ge t.cells x) (he : s ≤ x.length) (hw : y.length ≤ 2 ^ 18) (hx : x.length ≤ 2 ^ 18) (hl : t.cells.length ≤ 2 ^ 18) :
    FC c 38 5 (.ref 90) [.ins 751 6, .int (s + 1 : Nat), .lst (iV y)] (E false t) nx (fun b o' nx' => ∃ a : Int × Int × List Int, b = .none ∧ o' = E false (t.txIn (s + 1 : Nat) y.length a) ∧ nx' = nx ∧ GiR (max t.cells.length (x.length + y.length + 8)) (x.take s ++ y ++ x.drop s) a) (fun _ _ => False) := by
  have h1 := c_ginsert hK (un := false) (nx := nx) (x := x) (y := y) g he hw hx hl
  refine FC_K 40 hK (.cons (g_len hK) .nil) ["buffer", "place", "codes"] [] rfl (by kernel_rfl) .nil (by walk_at "binds") (by decide +kernel) (by decide +kernel) rfl rfl rfl ?_
  intro yd QR hQX hQR
  walk_at "sts"
  rw [at_pred]
  refine call_of3 h1 rfl fun a r => ?_
  walk_at "sts"
  · rename_i h
    rw [iV_len]
    exact ⟨a, rfl, congrArg (E false) (txIn_gt (of_decide_eq_true h)), rfl, r⟩
  · rename_i h
    rw [iV_len]
    exact ⟨a, rfl, congrArg (E false) (txIn_le (of_decide_eq_false h)), rfl, r⟩
set_option tactic.hygienic true in
theorem c_textin_true {c} (hK : KOk c) {t nx} {x y : List Int} {s : Nat} (g : GapOk t.gs t.ge t.cells x) (he : s ≤ x.length) (hy : y ≠ []) (hw : y.length ≤ 2 ^ 18) (hx : x.length ≤ 2 ^ 18) (hl : t.cells.length ≤ 2 ^ 18) (hr : t.rows.length ≤ 2 ^ 23) :
    FC c 38 5 (.ref 90) [.ins 751 6, .int (s + 1 : Nat), .lst (iV y)] (E true t) nx (fun b o' nx' => ∃ a : Int × Int × List Int, b = .none ∧ o' = E true ((t.comes (s + 1 : Nat) y.length).txIn (s + 1 : Nat) y.length a) ∧ nx' = nx ∧ GiR (max t.cells.length (x.length + y.length + 8)) (x.take s ++ y ++ x.drop s) a) (fun _ _ => False) := by
  have h0 := c_comes hK (nx := nx) (j := (s + 1 : Nat)) (k := (y.length : Nat)) (fun q => hy (List.length_eq_zero_iff.mp (Int.ofNat_inj.mp q))) hr
  have h1 := c_ginsert hK (un := true) (t := t.comes (s + 1 : Nat) y.length) (nx := nx) (x := x) (y := y) g he hw hx hl
  refine FC_K 40 hK (.cons (g_len hK) .nil) ["buffer", "place", "codes"] [] rfl (by kernel_rfl) .nil (by walk_at "binds") (by decide +kernel) (by decide +kernel) rfl rfl rfl ?_
  intro yd QR hQX hQR
  walk_at "sts"
  rw [iV_len]
  refine call_eq h0 rfl ?_
  walk_at "sts"
  rw [at_pred]
  refine call_of3 h1 rfl fun a r => ?_
  walk_at "sts"
  · rename_i h
    rw [iV_len]
    exact ⟨a, rfl, congrArg (E true) (txIn_gt (t := t.comes (s + 1 : Nat) y.length) (of_decide_eq_true h)), rfl, r⟩
  · rename_i h
    rw [iV_len]
    exact ⟨a, rfl, congrArg (E true) (txIn_le (t := t.comes (s + 1 : Nat) y.length) (of_decide_eq_false h)), rfl, r⟩
theorem FC_KC (fuel : Nat) {c : Cx} (hK : KOk c) {G : List (Str × V)} (hG : GsOk c G) {n : Nat} {f : Addr} {vs : List V} {o : Nat → Option MO} {nx : Nat} {Q : V → (Nat → Option MO) → Nat → Prop} {QE : (Nat → Option MO) → Nat → Prop}
    {name qual : Str} {params : Arguments} {body : List Stmt} {scope : Scope} {dV kV doc pm cdv ct oc : Value} {an od : Option Addr} {osl : Array (Option Value)} (names : List Str)
    (ho : (Mine.hx.heap_1_39 c.w.params).lookup f = some ⟨oc, od, .func (fnOf name qual params body scope dV kV doc pm an cdv ct), osl⟩) (hcd : codeIn (Mine.hx.heap_1_39 c.w.params) cdv qual = true)
    (hb : ∀ xs, xs.length = vs.length → bindArgs (fnOf name qual params body scope dV kV doc pm an cdv ct) ⟨xs, []⟩ = pure (names.zip xs))
    (hl : (names.all fun x => decide (scope.names.lookup x = some .local) || (decide (scope.names.lookup x = some .cell) && (cellNames scope).elem x)) = true)
    (hn : namesOkC scope = true) (hnd : (cellNames scope).Nodup)
    (hk : scope.kind = .function) (hco : scope.isCoroutine = false) (hgen : scope.isGenerator = false)
    {o₂ : Nat → Option MO} (e : updCs o nx ((cellNames scope).map (absC (kindIn scope) (names.zip vs) fun _ => none)) = o₂)
    (h : ∀ y QR cs, cs.map (·.1) = cellNames scope → QE = y.QE → (fun fl (σ' : St) => ∃ o' nx', (∀ k x, o' k = some x → σ'.o k = some x) ∧ σ'.nx ≤ nx' ∧ Q (retOf fl) o' nx') = QR → wBlock (wps fuel) (mkPc ⟨qual, scope, f, cdv, sg, G, 38, n⟩ c cs nx y) body QR
      ⟨locL (kindIn scope) (names.zip vs) [], o₂, nx + (cellNames scope).length⟩) :
    FC c 38 (n + 1) (.ref f) vs o nx Q QE := by
  subst e
  exact FC_wpC fuel (by rw [hK]; exact ho) (by rw [hK]; exact hcd) hb hl hn hnd hk hco hgen (sg_ok hK) hG h

noncomputable def TS.more (t : TS) (k : Nat) (x : MO) : TS := { t with ex := upd t.ex k x }
theorem E_more {un : Bool} {t : TS} {k : Nat} {x : MO} (h : 19 ≤ k) (hr : un = true → rowsAt t ≠ k) : upd (E un t) k x = E un (t.more k x) := by
  funext j
  unfold upd E
  by_cases e : j = k
  · subst e
    rw [if_pos rfl, show tab un (t.more j x) = tab un t from rfl, List.getElem?_eq_none (by rw [tab_len]; exact h)]
    show _ = if un = true ∧ j = rowsAt t then _ else upd t.ex j x j
    rw [if_neg (fun q => hr q.1 q.2.symm)]; simp [upd]
  · rw [if_neg e, show tab un (t.more k x) = tab un t from rfl, show rowsAt (t.more k x) = rowsAt t from rfl]
    show _ = match (tab un t)[j]? with | some (some y) => some y | _ => if un = true ∧ j = rowsAt t then _ else upd t.ex k x j
    have : upd t.ex k x j = t.ex j := if_neg e
    rw [this]; rfl
theorem E_more_at {un : Bool} {t : TS} {k : Nat} {x : MO} (h : 19 ≤ k) (hr : un = true → rowsAt t ≠ k) : E un (t.more k x) k = some x := by
  rw [← E_more h hr]; exact if_pos rfl
theorem E_less {un : Bool} {t : TS} {ex : Nat → Option MO} (h : ∀ k x, t.ex k = some x → ex k = some x) : ∀ k x, E un t k = some x → E un (t.sEx ex) k = some x := by
  intro k x
  show (match (tab un t)[k]? with | some (some x) => some x | _ => if un = true ∧ k = rowsAt t then _ else t.ex k) = _ → (match (tab un t)[k]? with | some (some x) => some x | _ => if un = true ∧ k = rowsAt t then _ else ex k) = _
  split
  · exact fun q => q
  · split
    · exact fun q => q
    · exact h k x
structure Nx (t : TS) (nx : Nat) : Prop where
  lo : 19 ≤ nx
  rw : rowsAt t < nx
  ex : ∀ k, nx ≤ k → t.ex k = none
  rx : t.ex (rowsAt t) = none
theorem cs_one {cs : List (Str × Addr)} {x : Str} (h : cs.map (·.1) = [x]) : ∃ a, cs = [(x, a)] := by
  induction cs with
  | nil => cases h
  | cons p r =>
    obtain ⟨e1, e2⟩ := List.cons.inj h
    obtain rfl := List.map_eq_nil_iff.mp e2
    exact ⟨p.2, by rw [← e1]⟩
theorem c_textgoes {c} (hK : KOk c) {t nx} (hn : Nx t nx) {x : List Int} {s e : Nat} (g : GapOk t.gs t.ge t.cells x) (hs : s < e) (he : e ≤ x.length) (hx : x.length ≤ 2 ^ 18) (hl : t.cells.length ≤ 2 ^ 18) (hr : t.rows.length ≤ 2 ^ 23) :
    FC c 38 5 (.ref 800) [.ins 810 11, .ins 751 6, .int (s + 1 : Nat), .int (e + 1 : Nat)] (E true t) nx (fun b o' nx' => b = .none ∧ o' = E true (t.goes (s + 1 : Nat) ((x.drop s).take (e - s))) ∧ nx' = nx + 1) (fun _ _ => False) := by
  have hne : true = true → rowsAt t ≠ nx := fun _ => Nat.ne_of_lt hn.rw
  have hlo := hn.lo
  refine FC_KC 40 hK (.cons (g_Piece hK) (.cons (g_len hK) .nil)) ["self", "buffer", "start", "end"] rfl (by kernel_rfl) (fun xs hl => by obtain ⟨_, _, _, _, e⟩ := len4 hl; subst e; rfl) (by decide +kernel) (by decide +kernel) (by decide) rfl rfl rfl (E_more (x := .cell (some (.int (s + 1 : Nat)))) hlo hne) ?_
  intro yd QR cs hcs hQX hQR
  obtain ⟨a1, rfl⟩ := cs_one (x := "start") hcs
  have hm : E true (t.more nx (.cell (some (.int (s + 1 : Nat))))) nx = some (.cell (some (.int (s + 1 : Nat)))) := E_more_at hlo hne
  have h1 : ∀ k, nx < k → (t.more nx (.cell (some (.int (s + 1 : Nat))))).ex k = none := fun k hk => by
    show upd t.ex nx _ k = none
    unfold upd; rw [if_neg (Nat.ne_of_gt hk)]; exact hn.ex k (Nat.le_of_lt hk)
  have hex : ∀ k y, t.ex k = some y → (t.more nx (.cell (some (.int (s + 1 : Nat))))).ex k = some y := fun k y e => by
    show upd t.ex nx _ k = some y
    unfold upd; rw [if_neg (fun q => by rw [q, hn.ex nx (Nat.le_refl _)] at e; cases e)]; exact e
  have hlc : ((x.drop s).take (e - s)).length ≤ 2 ^ 18 := by simp only [List.length_take, List.length_drop]; lia
  have hne2 : (x.drop s).take (e - s) ≠ [] := fun q => by
    have := congrArg List.length q
    simp only [List.length_take, List.length_drop, List.length_nil] at this; lia
  walk_at "sts"
  refine ⟨⟨_, rfl⟩, ?_⟩
  repeat' (walk_at "st")
  refine call_eq (c_within hK) rfl ?_
  repeat' (walk_at "st")
  refine call_eq (c_bcodes hK (x := x) (s := s) (e := e) g (by lia) he (Nat.le_trans hl (by decide))) rfl ?_
  repeat' (walk_at "st")
  refine call_eq (k_piece hK (nx := nx + 1) (E_nx (h1 _ (Nat.lt_succ_self _)) (Nat.le_succ_of_le hlo) (Nat.lt_succ_of_lt hn.rw))) rfl ?_
  repeat' (walk_at "st")
  refine call_eq (c_ismod hK) rfl ?_
  repeat' (walk_at "st")
  refine call_eq (c_noteD hK (cs := (x.drop s).take (e - s)) hne2 (Nat.le_trans hlc (by decide)) hr) rfl ?_
  walk_at "sts"
  exact ⟨_, _, E_less (t := t.goes (s + 1 : Nat) ((x.drop s).take (e - s))) hex, Nat.le_refl _, rfl, rfl, rfl⟩
structure Cr where
  pt : Int
  zv : Int
  tk : Int
  ck : Int
  sv : Int
  gs : Int
  ge : Int
  cells : List Int
  rows : List Row
  noted : Option Int
noncomputable def TS.wc (t : TS) (a : Cr) : TS := { t with pt := a.pt, zv := a.zv, tk := a.tk, ck := a.ck, sv := a.sv, gs := a.gs, ge := a.ge, cells := a.cells, rows := a.rows, noted := a.noted }
noncomputable def TS.cr (t : TS) : Cr := ⟨t.pt, t.zv, t.tk, t.ck, t.sv, t.gs, t.ge, t.cells, t.rows, t.noted⟩
structure Pv where
  x : List Int
  rows : List Row
  noted : Option Int
  tk : Int
  sv : Int
structure Is (c : Cr) (p : Pv) : Prop where
  gap : GapOk c.gs c.ge c.cells p.x
  zv : c.zv = (p.x.length : Int) + 1
  pt1 : 1 ≤ c.pt
  pt2 : c.pt ≤ c.zv
  len : c.cells.length ≤ 2 ^ 12
  rows : c.rows = p.rows
  noted : c.noted = p.noted
  tk : c.tk = p.tk
  sv : c.sv = p.sv
noncomputable def Pv.m (p : Pv) : Bool := decide (p.sv < p.tk)
noncomputable def Pv.comes (p : Pv) (s : Nat) (y : List Int) : Pv := ⟨p.x.take s ++ y ++ p.x.drop s, noteI (noteS p.rows p.noted p.m p.sv) (s + 1 : Nat) y.length, noteT p.noted p.m p.sv, p.tk, p.sv⟩
noncomputable def Pv.goes (p : Pv) (s e : Nat) (f : Bool) : Pv := ⟨p.x.take s ++ p.x.drop e, noteS p.rows p.noted p.m p.sv ++ [.del (s + 1 : Nat) ((p.x.drop s).take (e - s)) f], noteT p.noted p.m p.sv, p.tk, p.sv⟩
noncomputable def Pv.tick (p : Pv) : Pv := { p with tk := p.tk + 1 }
theorem slice_len {x : List Int} {s e : Nat} (hs : s < e) (he : e ≤ x.length) : (((x.drop s).take (e - s)).length : Int) = e - s := by
  simp only [List.length_take, List.length_drop]; lia
theorem goes_len {x : List Int} {s e : Nat} (hs : s < e) (he : e ≤ x.length) : ((x.take s ++ x.drop e).length : Int) = x.length - (e - s) := by
  simp only [List.length_append, List.length_take, List.length_drop]; lia
theorem comes_len {x y : List Int} {s : Nat} (hs : s ≤ x.length) : (x.take s ++ y ++ x.drop s).length = x.length + y.length := by
  simp only [List.length_append, List.length_take, List.length_drop]; lia
theorem gap_size {gs ge : Int} {cs x : List Int} (g : GapOk gs ge cs x) : (cs.length : Int) - ge + gs = x.length := by
  obtain ⟨A, G, B, g1, g2, g3, rfl⟩ := g
  subst g1
  simp only [List.length_append]; lia
theorem put_room {k : Int} {n : Nat} {y : List Int} (h : k = n) (hx : n ≤ 1000) (hw : y.length ≤ 1000) : k + ((iV y).length : Nat) ≤ 4194304 := by
  rw [iV_len]; lia
theorem put_at {zv : Int} {n s : Nat} (h : zv = (n : Int) + 1) (hs : s ≤ n) : 1 ≤ ((s + 1 : Nat) : Int) ∧ ((s + 1 : Nat) : Int) ≤ zv := by lia
theorem put_is {zv : Int} {x y cs cs' : List Int} {s : Nat} (h : zv = (x.length : Int) + 1) (hs : s ≤ x.length) (hl : cs.length ≤ 2 ^ 12) (hx : x.length ≤ 1000) (hw : y.length ≤ 1000) (hc : cs'.length ≤ max cs.length (x.length + y.length + 8)) :
    zv + (y.length : Nat) = ((x.take s ++ y ++ x.drop s).length : Int) + 1 ∧ 1 ≤ ((s + 1 : Nat) : Int) + ((iV y).length : Nat) ∧ ((s + 1 : Nat) : Int) + ((iV y).length : Nat) ≤ zv + (y.length : Nat) ∧ cs'.length ≤ 2 ^ 12 := by
  rw [comes_len hs, iV_len]; lia
theorem pred_succ (s : Nat) : ((s + 1 : Nat) : Int) - 1 = s := by lia
theorem pt_goes {s e n : Nat} {pt zv : Int} (hs : s < e) (he : e ≤ n) (h0 : zv = (n : Int) + 1) (h1 : 1 ≤ pt) (h2 : pt ≤ zv) (m : Int) (hm : m = if pt - ((e + 1 : Nat) - (s + 1 : Nat) : Int) > (s + 1 : Nat) then pt - ((e + 1 : Nat) - (s + 1 : Nat)) else (s + 1 : Nat)) (h : pt > (s + 1 : Nat)) :
    1 ≤ m ∧ m ≤ zv - ((e + 1 : Nat) - (s + 1 : Nat)) := by
  subst hm
  split <;> lia
theorem pt_stays {s e n : Nat} {pt zv : Int} (hs : s < e) (he : e ≤ n) (h0 : zv = (n : Int) + 1) (h : ¬ pt > (s + 1 : Nat)) : pt ≤ zv - ((e + 1 : Nat) - (s + 1 : Nat)) := by lia
theorem zv_goes {zv : Int} {x : List Int} {s e : Nat} (hs : s < e) (he : e ≤ x.length) (h0 : zv = (x.length : Int) + 1) : zv - ((e + 1 : Nat) - (s + 1 : Nat)) = ((x.take s ++ x.drop e).length : Int) + 1 := by
  rw [goes_len hs he]; lia
theorem wc_out {t : TS} {s g1 g2 z m : Int} {cs c : List Int} : (((t.goes s cs).sGap g1 g2 c).sZv z).sPt m = t.wc ⟨m, z, t.tk, t.ck, t.sv, g1, g2, c, (t.goes s cs).rows, (t.goes s cs).noted⟩ := by
  induction t; rfl
theorem wc_out0 {t : TS} {s g1 g2 z : Int} {cs c : List Int} : ((t.goes s cs).sGap g1 g2 c).sZv z = t.wc ⟨t.pt, z, t.tk, t.ck, t.sv, g1, g2, c, (t.goes s cs).rows, (t.goes s cs).noted⟩ := by
  induction t; rfl
theorem is_out {t : TS} {p : Pv} (I : Is t.cr p) {s e : Nat} (hs : s < e) (he : e ≤ p.x.length) {pt g1 g2 : Int} {cs : List Int} (r : GiR t.cells.length (p.x.take s ++ p.x.drop e) (g1, g2, cs)) (q1 : 1 ≤ pt) (q2 : pt ≤ t.zv - ((e + 1 : Nat) - (s + 1 : Nat))) :
    Is ⟨pt, t.zv - ((e + 1 : Nat) - (s + 1 : Nat)), t.tk, t.ck, t.sv, g1, g2, cs, (t.goes (s + 1 : Nat) ((p.x.drop s).take (e - s))).rows, (t.goes (s + 1 : Nat) ((p.x.drop s).take (e - s))).noted⟩ (p.goes s e (t.pt == (s + 1 : Nat) + ((p.x.drop s).take (e - s)).length)) where
  gap := r.ok
  zv := zv_goes hs he I.zv
  pt1 := q1
  pt2 := q2
  len := Nat.le_trans r.len I.len
  rows := by
    have e1 : t.rows = p.rows := I.rows
    have e2 : t.noted = p.noted := I.noted
    have e3 : t.tk = p.tk := I.tk
    have e4 : t.sv = p.sv := I.sv
    simp only [TS.goes, Pv.goes, Pv.m, e1, e2, e3, e4]
  noted := by
    have e2 : t.noted = p.noted := I.noted
    have e3 : t.tk = p.tk := I.tk
    have e4 : t.sv = p.sv := I.sv
    simp only [TS.goes, Pv.goes, Pv.m, e2, e3, e4]
  tk := I.tk
  sv := I.sv
set_option tactic.hygienic true in
theorem c_textout {c} (hK : KOk c) {t nx} {p : Pv} (hn : Nx t nx) (I : Is t.cr p) {s e : Nat} (hs : s < e) (he : e ≤ p.x.length) (hx : p.x.length ≤ 1000) (hr : p.rows.length ≤ 2 ^ 23) :
    FC c 38 6 (.ref 83) [.ins 751 6, .int (s + 1 : Nat), .int (e + 1 : Nat)] (E true t) nx (fun b o' nx' => ∃ a : Cr, b = .lst (iV ((p.x.drop s).take (e - s))) ∧ o' = E true (t.wc a) ∧ nx' = nx + 1 ∧ Is a (p.goes s e (t.pt == (s + 1 : Nat) + ((p.x.drop s).take (e - s)).length))) (fun _ _ => False) := by
  refine FC_K 60 hK (.cons (g_max hK) .nil) ["buffer", "start", "end"] [] rfl (by kernel_rfl) .nil (by walk_at "binds") (by decide +kernel) (by decide +kernel) rfl rfl rfl ?_
  intro yd QR hQX hQR
  have hl2 : t.cells.length ≤ 2 ^ 18 := Nat.le_trans I.len (by decide)
  have h1 := c_textgoes hK hn I.gap hs he (Nat.le_trans hx (by decide)) hl2 (by rw [show t.rows = p.rows from I.rows]; exact hr)
  have h2 := c_gdelete hK (un := true) (t := t.goes (s + 1 : Nat) ((p.x.drop s).take (e - s))) (nx := nx + 1) (x := p.x) (s := s) (e := e) I.gap (Nat.le_of_lt hs) he hl2
  have hi := fun pt g1 g2 cs r => is_out I hs he (pt := pt) (g1 := g1) (g2 := g2) (cs := cs) r
  have hp := fun m hm h => pt_goes hs he I.zv I.pt1 I.pt2 m hm h
  have hp0 := fun h => pt_stays (pt := t.pt) hs he I.zv h
  have hp1 : 1 ≤ t.pt := I.pt1
  repeat' (walk_at "st")
  refine call_eq h1 rfl ?_
  walk_at "sts"
  rw [pred_succ, pred_succ]
  refine call_of3 h2 rfl fun a r => ?_
  walk_at "stsq"
  · rename_i h
    obtain ⟨q1, q2⟩ := hp _ rfl (of_decide_eq_true h)
    exact useQ hQR ⟨_, rfl, congrArg (E true) wc_out, rfl, hi _ _ _ _ r q1 q2⟩
  · rename_i h
    exact useQ hQR ⟨_, rfl, congrArg (E true) wc_out0, rfl, hi _ _ _ _ r hp1 (hp0 (of_decide_eq_false h))⟩

theorem wc_in {t : TS} {s k q : Int} {a : Int × Int × List Int} : (((t.comes s k).txIn s k a).sPt q).beh = t.wc ⟨q, t.zv + k, t.tk + 1, t.tk + 1, t.sv, a.1, a.2.1, a.2.2, (t.comes s k).rows, (t.comes s k).noted⟩ := by
  induction t; rfl
theorem is_in {t : TS} {p : Pv} (I : Is t.cr p) {s : Nat} {y : List Int} (hs : s ≤ p.x.length) (hw : y.length ≤ 1000) (hx : p.x.length ≤ 1000) {a : Int × Int × List Int} (r : GiR (max t.cells.length (p.x.length + y.length + 8)) (p.x.take s ++ y ++ p.x.drop s) a) :
    Is ⟨(s + 1 : Nat) + ((iV y).length : Nat), t.zv + (y.length : Nat), t.tk + 1, t.tk + 1, t.sv, a.1, a.2.1, a.2.2, (t.comes (s + 1 : Nat) y.length).rows, (t.comes (s + 1 : Nat) y.length).noted⟩ (p.comes s y).tick := by
  have e1 : t.rows = p.rows := I.rows
  have e2 : t.noted = p.noted := I.noted
  have e3 : t.tk = p.tk := I.tk
  have e4 : t.sv = p.sv := I.sv
  obtain ⟨j1, j2, j3, j4⟩ := put_is (y := y) I.zv hs I.len hx hw r.len
  exact ⟨r.ok, j1, j2, j3, j4, by simp only [TS.comes, Pv.comes, Pv.tick, Pv.m, e1, e2, e3, e4], by simp only [TS.comes, Pv.comes, Pv.tick, Pv.m, e2, e3, e4], by show t.tk + 1 = p.tk + 1; rw [e3], e4⟩
set_option tactic.hygienic true in
theorem c_putin {c} (hK : KOk c) {t nx} {p : Pv} (I : Is t.cr p) {s : Nat} {y : List Int} {bm : Bool} (hs : s ≤ p.x.length) (hy : y ≠ []) (hw : y.length ≤ 1000) (hx : p.x.length ≤ 1000) (hr : p.rows.length ≤ 2 ^ 23) :
    FC c 38 6 (.ref 111) [.ins 751 6, .int (s + 1 : Nat), .lst (iV y), .bool bm, .bool true] (E true t) nx (fun b o' nx' => ∃ a : Cr, b = .none ∧ o' = E true (t.wc a) ∧ nx' = nx ∧ Is a (p.comes s y).tick) (fun _ _ => False) := by
  refine FC_K 60 hK (.cons (g_hung_in hK) (.cons (g_len hK) (.cons (g_need_room hK) (.cons (g_need_writable hK) (.cons (g_reached hK) (.cons (g_tell_ahead hK) (.cons (g_tell_behind hK) (.cons (g_text_in hK) .nil)))))))) ["buffer", "place", "codes", "before_markers", "is_point_behind"] [] rfl (by kernel_rfl) .nil (by walk_at "binds") (by decide +kernel) (by decide +kernel) rfl rfl rfl ?_
  intro yd QR hQX hQR
  have hl3 : t.cells.length ≤ 2 ^ 24 := Nat.le_trans I.len (by decide)
  have h0 := put_at I.zv hs
  have h1 := c_writable hK (un := true) (t := t) (nx := nx)
  have h2 := c_reached hK (un := true) (t := t) (nx := nx) (i := (s + 1 : Nat)) (j := (s + 1 : Nat)) h0.1 (Int.le_refl _) h0.2
  have hyz : (iV y).length ≠ 0 := fun q => hy (List.length_eq_zero_iff.mp (by rw [← iV_len]; exact q))
  have h3 := c_room hK (un := true) (t := t) (nx := nx) (i := ((iV y).length : Nat)) hl3 (put_room (gap_size I.gap) hx hw)
  have h4 := c_textin_true hK (t := t) (nx := nx) (x := p.x) I.gap hs hy (Nat.le_trans hw (by decide)) (Nat.le_trans hx (by decide)) (Nat.le_trans I.len (by decide)) (by rw [show t.rows = p.rows from I.rows]; exact hr)
  have hJ := fun a r => is_in (a := a) I hs hw hx r
  repeat' (walk_at "st")
  refine call_eq h1 rfl ?_
  repeat' (walk_at "st")
  refine call_eq h2 rfl ?_
  walk_at "sts"
  · rename_i h
    have h : (iV y).length = 0 := by simpa using h
    exact absurd h hyz
  refine call_eq h3 rfl ?_
  repeat' (walk_at "st")
  refine call_eq (c_tella hK) rfl ?_
  repeat' (walk_at "st")
  refine call_of3 h4 rfl fun a r => ?_
  repeat' (walk_at "st")
  refine call_eq (c_inserted hK) rfl ?_
  repeat' (walk_at "st")
  refine call_eq (c_hungi hK) rfl ?_
  repeat' (walk_at "st")
  refine call_eq (c_tellb hK) rfl ?_
  walk_at "stsq"
  exact useQ hQR ⟨_, rfl, congrArg (E true) wc_in, rfl, hJ a r⟩

theorem dflt112 {c : Cx} : ∃ m, (Mine.hx.heap_1_39 c.w.params).lookup 112 = some (tupO [.bool false] m) := ⟨_, rfl⟩
theorem c_insert {c} (hK : KOk c) {t nx} {p : Pv} (I : Is t.cr p) {s : Nat} {y : List Int} (hp : t.pt = ((s + 1 : Nat) : Int)) (hs : s ≤ p.x.length) (hy : y ≠ []) (hw : y.length ≤ 1000) (hx : p.x.length ≤ 1000) (hr : p.rows.length ≤ 2 ^ 23) :
    FC c 38 7 (.ref 119) [.ins 751 6, .lst (iV y)] (E true t) nx (fun b o' nx' => ∃ a : Cr, b = .none ∧ o' = E true (t.wc a) ∧ nx' = nx ∧ Is a (p.comes s y).tick) (fun _ _ => False) := by
  obtain ⟨m, e⟩ := dflt112 (c := c)
  refine FC_K 60 hK (.cons (g_put_in hK) .nil) ["buffer", "codes", "before_markers"] (dflt := [.bool false]) [.bool false] rfl (by kernel_rfl) (.cons .bool .nil) ?_ (by decide +kernel) (by decide +kernel) rfl rfl rfl ?_
  · intro s xs X hl
    obtain ⟨a, b, rfl⟩ := len2 hl
    exact binds_K X rfl e rfl rfl rfl
  intro yd QR hQX hQR
  walk_at "sts"
  rw [hp]
  refine call_of3 (c_putin hK I hs hy hw hx hr) rfl fun a J => ?_
  walk_at "sts"
  exact ⟨a, rfl, rfl, rfl, J⟩
theorem wc_beh {t : TS} {a : Cr} : (t.wc a).beh = t.wc { a with tk := a.tk + 1, ck := a.tk + 1 } := by
  induction t; rfl
set_option tactic.hygienic true in
theorem c_delete {c} (hK : KOk c) {t nx} {p : Pv} (hn : Nx t nx) (I : Is t.cr p) {s e : Nat} (hs : s < e) (he : e ≤ p.x.length) (hx : p.x.length ≤ 1000) (hr : p.rows.length ≤ 2 ^ 23) :
    FC c 38 7 (.ref 126) [.ins 751 6, .int (s + 1 : Nat), .int (e + 1 : Nat)] (E true t) nx (fun b o' nx' => ∃ a : Cr, b = .lst (iV ((p.x.drop s).take (e - s))) ∧ o' = E true (t.wc a) ∧ nx' = nx + 1 ∧ Is a (p.goes s e (t.pt == (s + 1 : Nat) + ((p.x.drop s).take (e - s)).length)).tick) (fun _ _ => False) := by
  refine FC_K 60 hK (.cons (g_hung_out hK) (.cons (g_need_writable hK) (.cons (g_reached hK) (.cons (g_tell_ahead hK) (.cons (g_tell_behind hK) (.cons (g_text_out hK) .nil)))))) ["buffer", "start", "end"] [] rfl (by kernel_rfl) .nil (by walk_at "binds") (by decide +kernel) (by decide +kernel) rfl rfl rfl ?_
  intro yd QR hQX hQR
  have h1 := (put_at (zv := t.zv) I.zv (Nat.le_trans (Nat.le_of_lt hs) he)).1
  have h2 := (put_at (zv := t.zv) I.zv he).2
  have h3 : ((s + 1 : Nat) : Int) ≤ (e + 1 : Nat) := Int.ofNat_le.mpr (Nat.succ_le_succ (Nat.le_of_lt hs))
  have h4 : ((s + 1 : Nat) : Int) ≠ (e + 1 : Nat) := fun q => Nat.ne_of_lt hs (Nat.succ.inj (Int.ofNat.inj q))
  repeat' (walk_at "st")
  refine call_eq (c_writable hK) rfl ?_
  repeat' (walk_at "st")
  refine call_eq (c_reached hK (t := t) (i := (s + 1 : Nat)) (j := (e + 1 : Nat)) h1 h3 h2) rfl ?_
  walk_at "sts"
  · rename_i h
    exact absurd (by simpa using h) h4
  refine call_eq (c_tella hK) rfl ?_
  repeat' (walk_at "st")
  refine call_of3 (c_textout hK hn I hs he hx hr) rfl fun a J => ?_
  repeat' (walk_at "st")
  refine call_eq (c_deleted hK) rfl ?_
  repeat' (walk_at "st")
  refine call_eq (c_hungo hK) rfl ?_
  repeat' (walk_at "st")
  refine call_eq (c_tellb hK) rfl ?_
  walk_at "sts"
  exact ⟨{ a with tk := a.tk + 1, ck := a.tk + 1 }, rfl, congrArg (E true) wc_beh, rfl, ⟨J.gap, J.zv, J.pt1, J.pt2, J.len, J.rows, J.noted, by show a.tk + 1 = _; rw [J.tk]; rfl, J.sv⟩⟩

structure Fr0 (t : TS) : Prop where
  gs : t.gs = 0
  ge : t.ge = 8
  cells : t.cells = List.replicate 8 0
  pt : t.pt = 1
  zv : t.zv = 1
theorem Fr0.gap {t : TS} (h : Fr0 t) : GapOk t.gs t.ge t.cells [] := ⟨[], List.replicate 8 0, [], by rw [h.cells]; rfl, by rw [h.gs]; rfl, by rw [h.ge]; rfl, rfl⟩
theorem Fr0.len {t : TS} (h : Fr0 t) {n : Nat} (l : 8 ≤ n) : t.cells.length ≤ n := by rw [h.cells]; exact l
theorem Fr0.is {t : TS} (h : Fr0 t) : Is t.cr ⟨[], t.rows, t.noted, t.tk, t.sv⟩ := ⟨h.gap, h.zv, by show 1 ≤ t.pt; rw [h.pt]; exact Int.le_refl _, by show t.pt ≤ t.zv; rw [h.pt, h.zv]; exact Int.le_refl _, h.len (by decide), rfl, rfl, rfl, rfl⟩
theorem wc_in0 {t : TS} {s k q : Int} {a : Int × Int × List Int} : ((t.txIn s k a).sPt q).beh = t.wc ⟨q, t.zv + k, t.tk + 1, t.tk + 1, t.sv, a.1, a.2.1, a.2.2, t.rows, t.noted⟩ := by
  induction t; rfl
theorem is_in0 {t : TS} (h : Fr0 t) {y : List Int} (hw : y.length ≤ 100) {a : Int × Int × List Int} (r : GiR (max t.cells.length (([] : List Int).length + y.length + 8)) (([] : List Int).take 0 ++ y ++ ([] : List Int).drop 0) a) :
    Is ⟨(0 + 1 : Nat) + ((iV y).length : Nat), t.zv + (y.length : Nat), t.tk + 1, t.tk + 1, t.sv, a.1, a.2.1, a.2.2, t.rows, t.noted⟩ ⟨y, t.rows, t.noted, t.tk + 1, t.sv⟩ := by
  obtain ⟨j1, j2, j3, j4⟩ := put_is (zv := t.zv) (y := y) (x := []) (cs := t.cells) (s := 0) (by rw [h.zv]; rfl) (Nat.le_refl _) (h.len (by decide)) (by decide) (by lia) r.len
  have e : ([] : List Int).take 0 ++ y ++ ([] : List Int).drop 0 = y := by simp
  rw [e] at j1
  exact ⟨e ▸ r.ok, j1, j2, j3, j4, rfl, rfl, rfl, rfl⟩
set_option tactic.hygienic true in
theorem c_putin0 {c} (hK : KOk c) {t} {y : List Int} (hf : Fr0 t) (hw : y.length ≤ 100) :
    FC c 38 6 (.ref 111) [.ins 751 6, .int (0 + 1 : Nat), .lst (iV y), .bool false, .bool true] (E false t) 11 (fun b o' nx' => ∃ a : Cr, b = .none ∧ o' = E false (t.wc a) ∧ nx' = 11 ∧ Is a ⟨y, t.rows, t.noted, a.tk, t.sv⟩) (fun _ _ => False) := by
  have h2 := c_reached hK (un := false) (t := t) (nx := 11) (i := (0 + 1 : Nat)) (j := (0 + 1 : Nat)) (Int.le_refl _) (Int.le_refl _) (by rw [hf.zv]; exact Int.le_refl _)
  have h3 := c_room hK (un := false) (t := t) (nx := 11) (i := ((iV y).length : Nat)) (hf.len (by decide)) (put_room (gap_size hf.gap) (by decide) (Nat.le_trans hw (by decide)))
  have h4 := c_textin_false hK (t := t) (nx := 11) (x := []) (y := y) (s := 0) hf.gap (Nat.le_refl _) (Nat.le_trans hw (by decide)) (Nat.zero_le _) (hf.len (by decide))
  refine FC_K 60 hK (.cons (g_hung_in hK) (.cons (g_len hK) (.cons (g_need_room hK) (.cons (g_need_writable hK) (.cons (g_reached hK) (.cons (g_tell_ahead hK) (.cons (g_tell_behind hK) (.cons (g_text_in hK) .nil)))))))) ["buffer", "place", "codes", "before_markers", "is_point_behind"] [] rfl (by kernel_rfl) .nil (by walk_at "binds") (by decide +kernel) (by decide +kernel) rfl rfl rfl ?_
  intro yd QR hQX hQR
  repeat' (walk_at "st")
  refine call_eq (c_writable hK) rfl ?_
  repeat' (walk_at "st")
  refine call_eq h2 rfl ?_
  walk_at "stsq"
  · rename_i h
    have h : (iV y).length = 0 := by simpa using h
    obtain rfl : y = [] := List.length_eq_zero_iff.mp (by rw [← iV_len]; exact h)
    exact useQ hQR ⟨t.cr, rfl, rfl, rfl, hf.is⟩
  refine call_eq h3 rfl ?_
  repeat' (walk_at "st")
  refine call_eq (c_tella hK) rfl ?_
  repeat' (walk_at "st")
  refine call_of3 h4 rfl fun a r => ?_
  repeat' (walk_at "st")
  refine call_eq (c_inserted hK) rfl ?_
  repeat' (walk_at "st")
  refine call_eq (c_hungi hK) rfl ?_
  repeat' (walk_at "st")
  refine call_eq (c_tellb hK) rfl ?_
  walk_at "stsq"
  exact useQ hQR ⟨_, rfl, congrArg (E false) wc_in0, rfl, is_in0 hf hw r⟩
theorem c_insert0 {c} (hK : KOk c) {t} {y : List Int} (hf : Fr0 t) (hw : y.length ≤ 100) :
    FC c 38 7 (.ref 119) [.ins 751 6, .lst (iV y)] (E false t) 11 (fun b o' nx' => ∃ a : Cr, b = .none ∧ o' = E false (t.wc a) ∧ nx' = 11 ∧ Is a ⟨y, t.rows, t.noted, a.tk, t.sv⟩) (fun _ _ => False) := by
  obtain ⟨m, e⟩ := dflt112 (c := c)
  refine FC_K 60 hK (.cons (g_put_in hK) .nil) ["buffer", "codes", "before_markers"] (dflt := [.bool false]) [.bool false] rfl (by kernel_rfl) (.cons .bool .nil) ?_ (by decide +kernel) (by decide +kernel) rfl rfl rfl ?_
  · intro s xs X hl
    obtain ⟨a, b, rfl⟩ := len2 hl
    exact binds_K X rfl e rfl rfl rfl
  intro yd QR hQX hQR
  walk_at "sts"
  rw [hf.pt]
  refine call_of3 (c_putin0 hK hf hw) rfl fun a J => ?_
  walk_at "sts"
  exact ⟨a, rfl, rfl, rfl, J⟩
theorem Is.goto {t : TS} {p : Pv} (I : Is t.cr p) {i : Int} (h1 : 1 ≤ i) (h2 : i ≤ t.zv) : Is (t.sPt i).cr p := ⟨I.gap, I.zv, h1, h2, I.len, I.rows, I.noted, I.tk, I.sv⟩
theorem c_piece {c} (hK : KOk c) {t nx} (hn : Nx t nx) {p : Pv} (I : Is t.cr p) {s : Nat} {y : List Int} (hp : t.pt = ((s + 1 : Nat) : Int)) (hs : s ≤ p.x.length) (hy : y ≠ []) (hw : y.length ≤ 1000) (hx : p.x.length ≤ 1000) (hr : p.rows.length ≤ 2 ^ 23) :
    FC c 38 8 (.ref 169) [.ins 751 6, .pie 770 (.lst (iV y)) (.lst [])] (E true t) nx (fun b o' nx' => ∃ a : Cr, b = .none ∧ o' = E true (t.wc a) ∧ nx' = nx + 1 ∧ Is a (p.comes s y).tick) (fun _ _ => False) := by
  have hne : true = true → rowsAt t ≠ nx := fun _ => Nat.ne_of_lt hn.rw
  have hlo := hn.lo
  refine FC_KC 60 hK (.cons (g_insert hK) (.cons (g_len hK) (.cons (g_list hK) .nil))) ["buffer", "piece"] rfl (by kernel_rfl) (fun xs hl => by obtain ⟨_, _, e⟩ := len2 hl; subst e; rfl) (by decide +kernel) (by decide +kernel) (by decide) rfl rfl rfl (E_more (x := .cell none) hlo hne) ?_
  intro yd QR cs hcs hQX hQR
  obtain ⟨a1, rfl⟩ := cs_one (x := "start") hcs
  have hm : E true (t.more nx (.cell none)) nx = some (.cell none) := E_more_at hlo hne
  have hex : ∀ (y : MO) (a : Cr), ∀ k x, (t.wc a).ex k = some x → (((t.more nx (.cell none)).more nx y).wc a).ex k = some x := fun y a k x e => by
    show upd (upd t.ex nx _) nx _ k = some x
    have hk : k ≠ nx := fun q => by
      have e : t.ex k = some x := e
      rw [q, hn.ex nx (Nat.le_refl _)] at e; cases e
    unfold upd; rw [if_neg hk, if_neg hk]; exact e
  repeat' (walk_at "st")
  refine put_as (E_more (t := t.more nx (.cell none)) hlo hne) ?_
  repeat' (walk_at "st")
  refine call_of3 (c_insert hK (t := (t.more nx (.cell none)).more nx (.cell (some (.int t.pt)))) (nx := nx + 1) (p := p) ⟨I.gap, I.zv, I.pt1, I.pt2, I.len, I.rows, I.noted, I.tk, I.sv⟩ hp hs hy hw hx hr) rfl fun a J => ?_
  walk_at "sts"
  refine ⟨_, _, E_less (t := t.wc a) (hex (.cell (some (.int t.pt))) a), Nat.le_refl _, a, rfl, rfl, rfl, J⟩
set_option tactic.hygienic true in
theorem c_visible {c} (hK : KOk c) {t nx} {i j : Int} (h1 : 1 ≤ i) (h2 : j ≤ t.zv) :
    FC c 38 1 (.ref 294) [.ins 751 6, .int i, .int j] (E true t) nx (fun b o' nx' => b = .none ∧ o' = E true t ∧ nx' = nx) (fun _ _ => False) := by
  refine FC_K 60 hK .nil ["buffer", "start", "end"] [] rfl (by kernel_rfl) .nil (by walk_at "binds") (by decide +kernel) (by decide +kernel) rfl rfl rfl ?_
  intro yd QR hQX hQR
  walk_at "sts"
  · rename_i h
    exact absurd h1 (Int.not_le.mpr (of_decide_eq_true h))
  · rename_i h
    exact absurd h2 (Int.not_le.mpr (of_decide_eq_true h))

theorem del_no {x : List Int} {s e : Nat} (hs : s < e) (he : e ≤ x.length) : (((s + 1 : Nat) : Int) == (s + 1 : Nat) + (((x.drop s).take (e - s)).length : Nat)) = false := by
  have := slice_len hs he
  rw [beq_eq_false_iff_ne]; lia
theorem c_undoins {c} (hK : KOk c) {t nx} {p : Pv} (hn : Nx t nx) (I : Is t.cr p) {s e : Nat} (hs : s < e) (he : e ≤ p.x.length) (hx : p.x.length ≤ 1000) (hr : p.rows.length ≤ 2 ^ 23) :
    FC c 38 8 (.ref 308) [.ins 751 6, .tup [.str "insert", .int (s + 1 : Nat), .int (e + 1 : Nat)]] (E true t) nx (fun b o' nx' => ∃ a : Cr, b = .none ∧ o' = E true (t.wc a) ∧ nx' = nx + 1 ∧ Is a (p.goes s e false).tick) (fun _ _ => False) := by
  refine FC_K 60 hK (.cons (g_delete hK) (.cons (g_need_visible hK) .nil)) ["buffer", "row"] [] rfl (by kernel_rfl) .nil (by walk_at "binds") (by decide +kernel) (by decide +kernel) rfl rfl rfl ?_
  intro yd QR hQX hQR
  have h1 := (put_at (zv := t.zv) I.zv (Nat.le_trans (Nat.le_of_lt hs) he))
  have h2 := (put_at (zv := t.zv) I.zv he).2
  have hf : ((t.sPt (s + 1 : Nat)).pt == (s + 1 : Nat) + (((p.x.drop s).take (e - s)).length : Nat)) = false := del_no hs he
  have hd := c_delete hK (t := t.sPt (s + 1 : Nat)) (nx := nx) ⟨hn.lo, hn.rw, hn.ex, hn.rx⟩ (I.goto h1.1 h1.2) hs he hx hr
  rw [hf] at hd
  repeat' (walk_at "st")
  refine call_eq (c_visible hK h1.1 h2) rfl ?_
  repeat' (walk_at "st")
  refine call_eq (c_goto hK h1.1 h1.2) rfl ?_
  repeat' (walk_at "st")
  refine call_of3 hd rfl fun a J => ?_
  walk_at "sts"
  exact ⟨a, rfl, rfl, rfl, J⟩

theorem c_undodel {c} (hK : KOk c) {t nx} {p : Pv} (hn : Nx t nx) (I : Is t.cr p) {s : Nat} {y : List Int} {f : Bool} (hs : s ≤ p.x.length) (hy : y ≠ []) (hw : y.length ≤ 1000) (hx : p.x.length ≤ 1000) (hr : p.rows.length ≤ 2 ^ 23) :
    FC c 38 9 (.ref 315) [.ins 751 6, .tup [.str "delete", .int (s + 1 : Nat), .pie 770 (.lst (iV y)) (.lst []), .bool f], .lst []] (E true t) nx (fun b o' nx' => ∃ a : Cr, b = .none ∧ o' = E true (t.wc a) ∧ nx' = nx + 1 ∧ Is a (p.comes s y).tick) (fun _ _ => False) := by
  refine FC_K 60 hK (.cons (g_insert_piece hK) (.cons (g_max hK) (.cons (g_min hK) (.cons (g_need_visible hK) .nil)))) ["buffer", "row", "marker_rows"] [] rfl (by kernel_rfl) .nil (by walk_at "binds") (by decide +kernel) (by decide +kernel) rfl rfl rfl ?_
  intro yd QR hQX hQR
  have h1 := (put_at (zv := t.zv) I.zv hs)
  repeat' (walk_at "st")
  refine call_eq (c_visible hK h1.1 h1.2) rfl ?_
  repeat' (walk_at "st")
  refine call_eq (c_goto hK h1.1 h1.2) rfl ?_
  repeat' (walk_at "st")
  refine call_of3 (c_piece hK (t := (t.sPt (s + 1 : Nat))) ⟨hn.lo, hn.rw, hn.ex, hn.rx⟩ (I.goto h1.1 h1.2) rfl hs hy hw hx hr) rfl fun a J => ?_
  have h3 : ((s + 1 : Nat) : Int) ≤ a.zv := by
    rw [J.zv]
    show _ ≤ ((p.x.take s ++ y ++ p.x.drop s).length : Int) + 1
    rw [comes_len hs]; lia
  walk_at "sts"
  · exact ⟨a, rfl, rfl, rfl, J⟩
  · refine call_eq (c_goto hK (t := ((t.sPt (s + 1 : Nat)) : TS).wc a) h1.1 h3) rfl ?_
    walk_at "sts"
    exact ⟨{ a with pt := (s + 1 : Nat) }, rfl, rfl, rfl, ⟨J.gap, J.zv, h1.1, h3, J.len, J.rows, J.noted, J.tk, J.sv⟩⟩

noncomputable def okR (x : List Int) : Row → Prop
  | .ins a b => ∃ s e : Nat, a = ((s + 1 : Nat) : Int) ∧ b = ((e + 1 : Nat) : Int) ∧ s < e ∧ e ≤ x.length
  | .del a cs _ => ∃ s : Nat, a = ((s + 1 : Nat) : Int) ∧ s ≤ x.length ∧ cs ≠ [] ∧ cs.length ≤ 1000
  | _ => True
noncomputable def Pv.exec (p : Pv) : Row → Pv
  | .ins a b => (p.goes (a - 1).toNat (b - 1).toNat false).tick
  | .del a cs _ => (p.comes (a - 1).toNat cs).tick
  | .unm k => if k = p.sv then { p with sv := p.tk, rows := p.rows.map (renR k p.tk) } else p
  | .bnd => p
theorem nat_pred (s : Nat) : (((s + 1 : Nat) : Int) - 1).toNat = s := by lia
theorem idx_pred (k : Nat) : ((k + 1 : Nat) : Int) - 1 = (k : Nat) := by lia
theorem idx_lo (k : Nat) : -(2 ^ 63) ≤ ((k : Nat) : Int) := by lia
theorem idx_hi {k n : Nat} (h : k < n) (hn : n ≤ 2 ^ 23) : ((k : Nat) : Int) < 2 ^ 63 := by lia
theorem at_row {l : List Row} {k : Nat} {r : Row} (h : l[k]? = some r) : atV (l.map rowV) ((k : Nat) : Int) = some (rowV r) := by rw [atV_nat, h]; rfl
theorem lt_row {l : List Row} {k : Nat} {r : Row} (h : l[k]? = some r) : k < l.length := (List.getElem?_eq_some_iff.mp h).1
set_option tactic.hygienic true in
theorem c_ahead {c} (hK : KOk c) {t nx} {k : Nat} (hk : k ≤ t.rows.length) (hr : t.rows.length ≤ 2 ^ 23) :
    FC c 38 1 (.ref 301) [.ref (rowsAt t), .int (k : Nat)] (E true t) nx (fun b o' nx' => b = .lst [] ∧ o' = E true t ∧ nx' = nx) (fun _ _ => False) := by
  refine FC_K 60 hK .nil ["rows", "at"] [] rfl (by kernel_rfl) .nil (by walk_at "binds") (by decide +kernel) (by decide +kernel) rfl rfl rfl ?_
  intro yd QR hQX hQR
  walk_at "sts"
  refine ⟨fun σ => σ = ⟨[("found", .lst []), ("at", .int (k : Nat)), ("rows", .ref (rowsAt t))], E true t, nx⟩, fun _ => 0, ⟨[("found", .lst []), ("at", .int (k : Nat)), ("rows", .ref (rowsAt t))], ⟨rfl, rfl, rfl, trivial⟩, rfl⟩, ?_⟩
  rintro σ1 rfl
  walk_at "sts"
  rename_i h
  have h : (k : Int) > 0 := of_decide_eq_true h
  obtain ⟨j, rfl⟩ : ∃ j, k = j + 1 := ⟨k - 1, by lia⟩
  rw [idx_pred]
  refine ⟨_, at_row (List.getElem?_eq_getElem (Nat.lt_of_succ_le hk)), ?_⟩
  generalize t.rows[j] = r
  induction r <;> walk_at "sts"

theorem exec_ins (p : Pv) (s e : Nat) : p.exec (.ins ((s + 1 : Nat) : Int) ((e + 1 : Nat) : Int)) = (p.goes s e false).tick := by
  show (p.goes (((s + 1 : Nat) : Int) - 1).toNat (((e + 1 : Nat) : Int) - 1).toNat false).tick = _
  rw [nat_pred, nat_pred]
theorem exec_del (p : Pv) (s : Nat) (y : List Int) (f : Bool) : p.exec (.del ((s + 1 : Nat) : Int) y f) = (p.comes s y).tick := by
  show (p.comes (((s + 1 : Nat) : Int) - 1).toNat y).tick = _
  rw [nat_pred]
theorem is_unm {t : TS} {p : Pv} {i : Int} (I : Is t.cr p) (h : i = t.sv) : Is ⟨t.pt, t.zv, t.tk, t.ck, t.tk, t.gs, t.ge, t.cells, t.rows.map (renR i t.tk), t.noted⟩ (p.exec (.unm i)) := by
  have e3 : t.tk = p.tk := I.tk
  have e5 : p.exec (.unm i) = { p with sv := p.tk, rows := p.rows.map (renR i p.tk) } := if_pos (h.trans I.sv)
  rw [e5]
  exact ⟨I.gap, I.zv, I.pt1, I.pt2, I.len, by show t.rows.map (renR i t.tk) = p.rows.map (renR i p.tk); rw [show t.rows = p.rows from I.rows, e3], I.noted, I.tk, e3⟩
theorem is_unm0 {t : TS} {p : Pv} {i : Int} (I : Is t.cr p) (h : ¬ i = t.sv) : Is t.cr (p.exec (.unm i)) := by
  have e5 : p.exec (.unm i) = p := if_neg (fun q => h (q.trans (show t.sv = p.sv from I.sv).symm))
  rw [e5]; exact I
theorem wc_unm {t : TS} {R : List Row} : (t.sSv t.tk).sRows R = t.wc ⟨t.pt, t.zv, t.tk, t.ck, t.tk, t.gs, t.ge, t.cells, R, t.noted⟩ := by
  induction t; rfl
theorem sub_nil (k : Nat) : V.int (((k : Nat) : Int) - (([] : List V).length : Nat)) = .int (k : Nat) := congrArg V.int (by simp)
set_option tactic.hygienic true in
theorem c_undorow {c} (hK : KOk c) {t nx} {p : Pv} (hn : Nx t nx) (I : Is t.cr p) {k : Nat} {r : Row} (hk : p.rows[k]? = some r) (ok : okR p.x r) (hx : p.x.length ≤ 1000) (hr : p.rows.length ≤ 2 ^ 22) :
    FC c 38 10 (.ref 322) [.ins 751 6, .ref (rowsAt t), .int (k + 1 : Nat)] (E true t) nx (fun b o' nx' => ∃ a : Cr × Nat, b = .int (k : Nat) ∧ o' = E true (t.wc a.1) ∧ nx' = a.2 ∧ nx ≤ a.2 ∧ Is a.1 (p.exec r)) (fun _ _ => False) := by
  refine FC_K 60 hK (.cons (g_len hK) (.cons (g_markers_ahead hK) (.cons (g_need_visible hK) (.cons (g_undo_delete hK) (.cons (g_undo_insert hK) .nil))))) ["buffer", "rows", "at"] [] rfl (by kernel_rfl) .nil (by walk_at "binds") (by decide +kernel) (by decide +kernel) rfl rfl rfl ?_
  intro yd QR hQX hQR
  have e1 : t.rows = p.rows := I.rows
  have hk1 : t.rows[k]? = some r := by rw [e1]; exact hk
  have hr1 : t.rows.length ≤ 2 ^ 22 := by rw [e1]; exact hr
  have hr3 : p.rows.length ≤ 2 ^ 23 := Nat.le_trans hr (by decide)
  have hr2 : t.rows.length ≤ 2 ^ 23 := Nat.le_trans hr1 (by decide)
  have hlt : k < t.rows.length := lt_row hk1
  have ek : V.int (((k + 1 : Nat) : Int) - 1) = .int (k : Nat) := congrArg V.int (idx_pred k)
  walk_at "sts"
  rw [idx_pred]
  refine ⟨_, at_row hk1, ?_⟩
  induction r with
  | bnd =>
    walk_at "stsq"
    exact useQ hQR ⟨(t.cr, nx), ek, rfl, rfl, Nat.le_refl _, I⟩
  | unm i =>
    walk_at "stsq"
    · rename_i h
      have h : i = t.sv := by simpa using h
      refine call_eq (c_setmod hK) rfl ?_
      repeat' (walk_at "stq")
      refine call_eq (c_renew hK (t := t.sSv t.tk) (i := i) (j := t.tk) (Nat.le_trans hr2 (by decide))) rfl ?_
      walk_at "stsq"
      exact useQ hQR ⟨(_, nx), ek, congrArg (E true) wc_unm, rfl, Nat.le_refl _, is_unm I h⟩
    · rename_i h
      exact useQ hQR ⟨(t.cr, nx), ek, rfl, rfl, Nat.le_refl _, is_unm0 I (by simpa using h)⟩
  | ins a b =>
    obtain ⟨s, e, rfl, rfl, hs, he⟩ := ok
    have hu := c_undoins hK hn I hs he hx hr3
    rw [← exec_ins] at hu
    repeat' (walk_at "stq")
    refine call_of3 hu rfl fun a J => ?_
    walk_at "stsq"
    exact useQ hQR ⟨(a, nx + 1), ek, rfl, rfl, Nat.le_succ _, J⟩
  | del a cs f =>
    obtain ⟨s, rfl, hs, hc, hcl⟩ := ok
    have hu := c_undodel hK (f := f) hn I hs hc hcl hx hr3
    rw [← exec_del p s cs f] at hu
    have ha := c_ahead hK (nx := nx) (Nat.le_of_lt hlt) hr2
    walk_at "stsq"
    rw [idx_pred]
    refine call_eq ha rfl ?_
    repeat' (walk_at "stq")
    refine call_of3 hu rfl fun a J => ?_
    walk_at "stsq"
    exact useQ hQR ⟨(a, nx + 1), sub_nil k, rfl, rfl, Nat.le_succ _, J⟩

noncomputable def above (l : List Row) : Nat → Nat
  | 0 => 0
  | k + 1 => match l[k]? with
    | some .bnd => above l k
    | _ => k + 1
theorem above_bnd {l : List Row} {k : Nat} (h : l[k]? = some .bnd) : above l (k + 1) = above l k := by simp [above, h]
theorem above_not {l : List Row} {k : Nat} {r : Row} (h : l[k]? = some r) (hr : r ≠ .bnd) : above l (k + 1) = k + 1 := by
  unfold above; rw [h]; induction r <;> first | rfl | exact absurd rfl hr
theorem above_le (l : List Row) : ∀ k, above l k ≤ k
  | 0 => Nat.le_refl _
  | k + 1 => by
    unfold above
    split
    · exact Nat.le_succ_of_le (above_le l k)
    · exact Nat.le_refl _
noncomputable def atOf (σ : St) : Nat := match σ.m.lookup ("at" : Str) with
  | some v => (match v with | .int i => i.toNat | _ => 0)
  | none => 0
theorem pos_succ {j : Nat} (h : decide ((j : Int) > 0) = true) : ∃ i, j = i + 1 := ⟨j - 1, by have := of_decide_eq_true h; lia⟩
theorem not_pos {j : Nat} (h : decide ((j : Int) > 0) = false) : j = 0 := by have := of_decide_eq_false h; lia
set_option tactic.hygienic true in
theorem c_above {c} (hK : KOk c) {t nx} {k : Nat} (hk : k ≤ t.rows.length) (hr : t.rows.length ≤ 2 ^ 23) :
    FC c 38 1 (.ref 329) [.ref (rowsAt t), .int (k : Nat)] (E true t) nx (fun b o' nx' => b = .int (above t.rows k : Nat) ∧ o' = E true t ∧ nx' = nx) (fun _ _ => False) := by
  refine FC_K 60 hK (.cons (g_BOUNDARY hK) .nil) ["rows", "at"] [] rfl (by kernel_rfl) .nil (by walk_at "binds") (by decide +kernel) (by decide +kernel) rfl rfl rfl ?_
  intro yd QR hQX hQR
  walk_at "sts"
  refine ⟨fun σ => ∃ j : Nat, j ≤ k ∧ above t.rows j = above t.rows k ∧ σ = ⟨[("at", .int (j : Nat)), ("rows", .ref (rowsAt t))], E true t, nx⟩, atOf, ⟨[("at", .int (k : Nat)), ("rows", .ref (rowsAt t))], ⟨rfl, rfl, trivial⟩, k, Nat.le_refl _, rfl, rfl⟩, ?_⟩
  rintro σ1 ⟨j, hj, ha, rfl⟩
  walk_at "sts"
  · rename_i h
    obtain ⟨i, rfl⟩ := pos_succ h
    have hi : i < t.rows.length := Nat.lt_of_lt_of_le hj hk
    have e0 := List.getElem?_eq_getElem hi
    rw [idx_pred]
    refine ⟨_, at_row e0, ?_⟩
    generalize t.rows[i] = r at e0 ⊢
    induction r <;> walk_at "sts"
    · rw [idx_pred]
      exact ⟨[("at", .int (i : Nat)), ("rows", .ref (rowsAt t))], ⟨rfl, rfl, trivial⟩, ⟨i, Nat.le_of_succ_le hj, by rw [← ha, above_bnd e0], rfl⟩, Nat.lt_succ_self _⟩
    all_goals exact ⟨by rw [← ha, above_not e0 (by intro q; cases q)]; rfl, rfl, rfl⟩
  · rename_i h
    obtain rfl := not_pos h
    exact ⟨by rw [← ha]; rfl, rfl, rfl⟩

noncomputable def runs (p : Pv) : Nat → Pv × Nat
  | 0 => (p, 0)
  | k + 1 => match p.rows[k]? with
    | none => (p, k + 1)
    | some r => match r with
      | .bnd => (p, k + 1)
      | r => runs (p.exec r) k
noncomputable def RunOk (p : Pv) : Nat → Prop
  | 0 => True
  | k + 1 => match p.rows[k]? with
    | none => False
    | some r => match r with
      | .bnd => True
      | r => okR p.x r ∧ p.x.length ≤ 1000 ∧ p.rows.length ≤ 2 ^ 22 ∧ RunOk (p.exec r) k
theorem runs_bnd {p : Pv} {k : Nat} (h : p.rows[k]? = some .bnd) : runs p (k + 1) = (p, k + 1) := by simp [runs, h]
theorem runs_not {p : Pv} {k : Nat} {r : Row} (h : p.rows[k]? = some r) (hr : r ≠ .bnd) : runs p (k + 1) = runs (p.exec r) k := by
  rw [runs, h]; induction r <;> first | exact absurd rfl hr | rfl
theorem runOk_at {p : Pv} {k : Nat} (h : RunOk p (k + 1)) : ∃ r, p.rows[k]? = some r := by
  unfold RunOk at h
  cases e : p.rows[k]? with
  | none => rw [e] at h; exact False.elim h
  | some r => exact ⟨r, rfl⟩
theorem runOk_not {p : Pv} {k : Nat} {r : Row} (e : p.rows[k]? = some r) (hr : r ≠ .bnd) (h : RunOk p (k + 1)) : okR p.x r ∧ p.x.length ≤ 1000 ∧ p.rows.length ≤ 2 ^ 22 ∧ RunOk (p.exec r) k := by
  rw [RunOk, e] at h
  induction r <;> first | exact absurd rfl hr | exact h
theorem runOk_le {p : Pv} {j : Nat} (h : RunOk p j) (hr : p.rows.length ≤ 2 ^ 23) : j ≤ 2 ^ 23 := by
  induction j with
  | zero => exact Nat.zero_le _
  | succ k => obtain ⟨r, e⟩ := runOk_at h; exact Nat.le_trans (lt_row e) hr
theorem Nx.up {t : TS} {nx n : Nat} (h : Nx t nx) (l : nx ≤ n) : Nx t n := ⟨Nat.le_trans h.lo l, Nat.lt_of_lt_of_le h.rw l, fun k hk => h.ex k (Nat.le_trans l hk), h.rx⟩
theorem Nx.wc {t : TS} {nx : Nat} (h : Nx t nx) (a : Cr) : Nx (t.wc a) nx := ⟨h.lo, h.rw, h.ex, h.rx⟩
theorem noteI_len (l : List Row) (s m : Int) : (noteI l s m).length ≤ l.length + 1 := by
  rcases rows_cases l with rfl | ⟨l', r, rfl⟩
  · simp [noteI]
  · rw [noteI_app]
    induction r <;> simp
    split <;> simp
theorem exec_rows (p : Pv) (r : Row) : (p.exec r).rows.length ≤ p.rows.length + 2 := by
  induction r with
  | bnd => exact Nat.le_add_right _ _
  | unm k =>
    show (if k = p.sv then _ else p : Pv).rows.length ≤ _
    split
    · show (p.rows.map _).length ≤ _; rw [List.length_map]; exact Nat.le_add_right _ _
    · exact Nat.le_add_right _ _
  | ins a b =>
    show (noteS p.rows p.noted p.m p.sv ++ [_]).length ≤ _
    have := noteS_len p.rows p.noted p.m p.sv
    rw [List.length_append]; exact Nat.succ_le_succ this
  | del a cs f => exact Nat.le_trans (noteI_len _ _ _) (Nat.succ_le_succ (noteS_len p.rows p.noted p.m p.sv))
theorem len_small {l : List Row} {k : Nat} {r : Row} (h : l[k]? = some r) (hn : l.length ≤ 2 ^ 22) : k < 2 ^ 22 := Nat.lt_of_lt_of_le (lt_row h) hn
noncomputable def grL (t : TS) (j : Nat) : List (Str × V) := [("at", .int (j : Nat)), ("rows", .ref (rowsAt t)), ("buffer", .ins 751 6)]
inductive GrI (t : TS) (nx : Nat) (R : Pv × Nat) : St → Prop
  | mk (a : Cr) (n : Nat) (q : Pv) (j : Nat) (hn : nx ≤ n) (I : Is a q) (ok : RunOk q j) (hq : q.rows.length ≤ 2 ^ 23) (hr : runs q j = R) : GrI t nx R ⟨grL t j, E true (t.wc a), n⟩
theorem wc_wc {t : TS} {a b : Cr} : (t.wc a).wc b = t.wc b := by induction t; rfl
structure GrS (q : Pv) (i : Nat) (R : Pv × Nat) (r : Row) : Prop where
  at0 : q.rows[i]? = some r
  bnd : r = .bnd → R = (q, i + 1)
  ok : r ≠ .bnd → okR q.x r ∧ q.x.length ≤ 1000 ∧ q.rows.length ≤ 2 ^ 22 ∧ RunOk (q.exec r) i ∧ (q.exec r).rows.length ≤ 2 ^ 23 ∧ runs (q.exec r) i = R
theorem gr_step {q : Pv} {i : Nat} {R : Pv × Nat} (ok : RunOk q (i + 1)) (hr : runs q (i + 1) = R) : ∃ r, GrS q i R r := by
  obtain ⟨r, e⟩ := runOk_at ok
  refine ⟨r, e, fun z => ?_, fun z => ?_⟩
  · subst z; rw [← hr, runs_bnd e]
  · obtain ⟨h1, h2, h3, h4⟩ := runOk_not e z ok
    exact ⟨h1, h2, h3, h4, Nat.le_trans (exec_rows q r) (Nat.le_trans (Nat.add_le_add_right h3 2) (by decide)), by rw [← hr, runs_not e z]⟩
theorem gr_row {c} (hK : KOk c) {t : TS} {nx n i : Nat} {a : Cr} {q : Pv} {R : Pv × Nat} {r : Row} (hn : Nx t nx) (hnx : nx ≤ n) (J : Is a q) (S : GrS q i R r) (hb : r ≠ .bnd) :
    FC c 38 10 (.ref 322) [.ins 751 6, .ref (rowsAt t), .int (i + 1 : Nat)] (E true (t.wc a)) n (fun b o' nx' => ∃ a : Cr × Nat, b = .int (i : Nat) ∧ o' = E true (t.wc a.1) ∧ nx' = a.2 ∧ GrI t nx R ⟨grL t i, E true (t.wc a.1), a.2⟩) (fun _ _ => False) := by
  obtain ⟨h1, h2, h3, h4, h5, h6⟩ := S.ok hb
  refine (c_undorow hK (t := t.wc a) ((hn.up hnx).wc a) J S.at0 h1 h2 h3).imp (fun b o' nx' q => ?_) fun _ _ q => q
  obtain ⟨a', e1, e2, e3, l, I⟩ := q
  rw [wc_wc] at e2
  exact ⟨a', e1, e2, e3, .mk a'.1 a'.2 (q.exec r) i (Nat.le_trans hnx l) I h4 h5 h6⟩
set_option tactic.hygienic true in
theorem c_group {c} (hK : KOk c) {t nx} {p : Pv} (hn : Nx t nx) (I : Is t.cr p) {k : Nat} (hk : k ≤ p.rows.length) (hr : p.rows.length ≤ 2 ^ 23) (ok : RunOk p (above p.rows k)) :
    FC c 38 11 (.ref 336) [.ins 751 6, .ref (rowsAt t), .int (k : Nat)] (E true t) nx (fun b o' nx' => ∃ a : Cr × Nat, b = .int ((runs p (above p.rows k)).2 : Nat) ∧ o' = E true (t.wc a.1) ∧ nx' = a.2 ∧ nx ≤ a.2 ∧ Is a.1 (runs p (above p.rows k)).1) (fun _ _ => False) := by
  refine FC_K 60 hK (.cons (g_BOUNDARY hK) (.cons (g_above_boundaries hK) (.cons (g_undo_row hK) .nil))) ["buffer", "rows", "at"] [] rfl (by kernel_rfl) .nil (by walk_at "binds") (by decide +kernel) (by decide +kernel) rfl rfl rfl ?_
  intro yd QR hQX hQR
  have e1 : t.rows = p.rows := I.rows
  have ha := c_above hK (t := t) (nx := nx) (k := k) (by rw [e1]; exact hk) (by rw [e1]; exact hr)
  rw [e1] at ha
  generalize hR : runs p (above p.rows k) = R at hQR
  generalize above p.rows k = k0 at ok hR ha
  repeat' (walk_at "stq")
  refine call_eq ha rfl ?_
  walk_at "stsq"
  refine ⟨GrI t nx R, atOf, ⟨grL t k0, ⟨rfl, rfl, rfl, trivial⟩, .mk t.cr nx p k0 (Nat.le_refl _) I ok hr hR⟩, ?_⟩
  rintro σ1 (@⟨a, n, q, j, hnx, J, okq, hq, hru⟩)
  have hj := runOk_le okq hq
  walk_at "stsq"
  · rename_i h
    obtain ⟨i, rfl⟩ := pos_succ h
    obtain ⟨r, S⟩ := gr_step okq hru
    have hgo := gr_row hK hn hnx J S
    have e2 : atV ((t.wc a).rows.map rowV) (i : Nat) = some (rowV r) := at_row (by show a.rows[i]? = some r; rw [J.rows]; exact S.at0)
    rw [idx_pred]
    refine ⟨_, e2, ?_⟩
    induction r <;> walk_at "stsq"
    · exact useQ hQR ⟨(a, n), by rw [S.bnd rfl]; rfl, rfl, rfl, hnx, by rw [S.bnd rfl]; exact J⟩
    all_goals
      refine call_of3 (hgo (fun q => nomatch q)) rfl fun a' J' => ?_
      walk_at "stsq"
      exact ⟨grL t i, ⟨rfl, rfl, rfl, trivial⟩, J', Nat.lt_succ_self _⟩
  · rename_i h
    obtain rfl := not_pos h
    exact useQ hQR ⟨(a, n), by rw [← hru]; rfl, rfl, rfl, hnx, by rw [← hru]; exact J⟩

theorem FC.forget {c : Cx} {C : Addr} {n : Nat} {f : Value} {vs : List V} {o : Nat → Option MO} {nx : Nat} {Q Q' : V → (Nat → Option MO) → Nat → Prop} {QE : (Nat → Option MO) → Nat → Prop}
    (h : FC c C n f vs o nx Q QE) (k : ∀ b o' nx', Q b o' nx' → ∃ o'', (∀ j x, o'' j = some x → o' j = some x) ∧ Q' b o'' nx') : FC c C n f vs o nx Q' QE := fun A outer W s xs h1 h2 h3 h4 h5 h6 h7 =>
  codeAny_mono (h A outer W s xs h1 h2 h3 h4 h5 h6 h7) fun r s' q => by
    rcases r with e | (_ | _ | _ | v)
    · exact q
    · exact q.elim
    · exact q.elim
    · exact q.elim
    · obtain ⟨W', b, o', nx', l, rb, g, q⟩ := q
      obtain ⟨o'', hl, q⟩ := k _ _ _ q
      exact ⟨W', b, o'', nx', l, rb, g.forget hl (Nat.le_refl _), q⟩
noncomputable def TS.top (t : TS) : Nat := above t.rows t.rows.length
theorem c_trim {c} (hK : KOk c) {t nx} (hr : t.rows.length ≤ 2 ^ 23) :
    FC c 38 2 (.ref 364) [.ins 276 12] (E true t) nx (fun b o' nx' => b = .int (t.top : Nat) ∧ o' = E true t ∧ nx' = nx) (fun _ _ => False) := by
  refine FC_K 60 hK (.cons (g_above_boundaries hK) (.cons (g_len hK) .nil)) ["history"] [] rfl (by kernel_rfl) .nil (by walk_at "binds") (by decide +kernel) (by decide +kernel) rfl rfl rfl ?_
  intro yd QR hQX hQR
  walk_at "sts"
  rw [List.length_map]
  refine call_eq (c_above hK (t := t) (Nat.le_refl _) hr) rfl ?_
  walk_at "sts"
  rw [Int.zero_add]
  exact ⟨rfl, rfl, rfl⟩

theorem c_last {c} (hK : KOk c) {t nx} (hr : t.rows.length ≤ 2 ^ 23) :
    FC c 38 3 (.ref 371) [.ins 353 14, .ins 276 12] (E true t) nx (fun b o' nx' => b = .bool (t.eq (t.top : Nat)).isSome ∧ o' = E true t ∧ nx' = nx) (fun _ _ => False) := by
  refine FC_K 60 hK (.cons (g_trimmed_count hK) .nil) ["undoing", "history"] [] rfl (by kernel_rfl) .nil (by walk_at "binds") (by decide +kernel) (by decide +kernel) rfl rfl rfl ?_
  intro yd QR hQX hQR
  repeat' (walk_at "st")
  refine call_eq (c_trim hK hr) rfl ?_
  walk_at "sts"
  rw [Bool.false_xor]
  refine ⟨?_, rfl, rfl⟩
  show V.bool ((t.eq _).map V.int).isSome = _
  rw [Option.isSome_map]

noncomputable def TS.rd (t : TS) (nx : Nat) : TS := { t with rid := nx - 18 }
theorem rd_at {t : TS} {nx : Nat} (h : 19 ≤ nx) : rowsAt (t.rd nx) = nx := by
  unfold rowsAt TS.rd
  obtain ⟨k, rfl⟩ : ∃ k, nx = k + 19 := ⟨nx - 19, by lia⟩
  show (match k + 19 - 18 with | 0 => 13 | n + 1 => n + 19) = k + 19
  rw [show k + 19 - 18 = k + 1 by lia]
theorem rd_less {t : TS} {nx : Nat} {r : List Row} (hx : t.ex (rowsAt t) = none) (h : 19 ≤ nx) {j : Nat} {x : MO} (e : E true ((t.rd nx).sRows r) j = some x) :
    upd (upd (E true t) nx (.list (r.map rowV))) 12 (.ns (setF "rows" (.ref nx) (ulF t))) j = some x := by
  have hat : rowsAt ((t.rd nx).sRows r) = nx := rd_at (t := t) h
  unfold upd
  by_cases h12 : j = 12
  · subst h12
    rw [if_pos rfl, ← e]
    show _ = some (MO.ns (ulF ((t.rd nx).sRows r)))
    unfold ulF; rw [hat]; rfl
  rw [if_neg h12]
  by_cases hn : j = nx
  · subst hn
    rw [if_pos rfl, ← e]
    have := E_rows ((t.rd j).sRows r)
    rw [hat] at this
    exact this.symm
  rw [if_neg hn]
  have ht : tab true ((t.rd nx).sRows r) = (tab true t).set 12 (some (.ns (ulF ((t.rd nx).sRows r)))) := rfl
  unfold E at e ⊢
  rw [hat, ht, List.getElem?_set, if_neg (Ne.symm h12)] at e
  have e2 : (if true = true ∧ j = nx then some (MO.list (r.map rowV)) else t.ex j) = t.ex j := if_neg (fun q => hn q.2)
  have key : t.ex j = some x → (if true = true ∧ j = rowsAt t then some (MO.list (t.rows.map rowV)) else t.ex j) = some x := fun q => by
    rw [if_neg (fun z => by rw [z.2, hx] at q; cases q)]; exact q
  cases q : (tab true t)[j]? with
  | none => rw [q] at e; exact key (e2.symm.trans e)
  | some y =>
    rw [q] at e
    induction y with
    | some y => exact e
    | none => exact key (e2.symm.trans e)
theorem pick_map (l : List Row) (a b : Option Int) : pickV (l.map rowV) a b = (pickV l a b).map rowV := by
  unfold pickV; simp
theorem pick_to {α : Type} (l : List α) (n : Nat) : pickV l none (some (n : Int)) = l.take n := by
  unfold pickV kms_lo kms_hi
  dsimp only
  rw [if_neg (by lia), Int.toNat_natCast, List.drop_zero, Nat.sub_zero]
  rcases Nat.le_total n l.length with h | h
  · rw [Nat.min_eq_left h]
  · rw [Nat.min_eq_right h, List.take_of_length_le (Nat.le_refl _), List.take_of_length_le h]
theorem pick_from {α : Type} (l : List α) (n : Nat) : pickV l (some (n : Int)) none = l.drop n := by
  unfold pickV kms_lo kms_hi
  dsimp only
  rw [if_neg (by lia), Int.toNat_natCast]
  rcases Nat.le_total n l.length with h | h
  · rw [Nat.min_eq_left h, List.take_of_length_le (by simp)]
  · rw [Nat.min_eq_right h, List.drop_of_length_le (Nat.le_refl _), List.drop_of_length_le h]; simp
theorem c_drop0 {c} (hK : KOk c) {t nx} {n : Nat} (hn : 19 ≤ nx) (hr : t.rows.length ≤ 2 ^ 23) :
    FC c 38 1 (.ref 376) [.ins 276 12, .int (n : Nat)] (E true t) nx (fun b o' nx' => b = .none ∧ nx' = nx + 1 ∧ o' = upd (upd (E true t) nx (.list (t.rows.map rowV))) 12 (.ns (setF "rows" (.ref nx) (ulF t)))) (fun _ _ => False) := by
  refine FC_K 60 hK .nil ["history", "first"] [] rfl (by kernel_rfl) .nil (by walk_at "binds") (by decide +kernel) (by decide +kernel) rfl rfl rfl ?_
  intro yd QR hQX hQR
  walk_at "sts"
  rw [Int.sub_zero, pick_map, pick_map, pick_to, pick_from]
  refine ⟨by rw [List.length_map, List.length_drop]; exact Nat.le_trans (Nat.sub_le _ _) (Nat.le_trans hr (by decide)), fun v => v, fun _ => true, ⟨fun C v hv => ?_, fun C v hv _ => ?_⟩, ?_⟩
  · obtain ⟨r, _, rfl⟩ := List.mem_map.mp hv
    induction r <;> walk_at "sts"
  · walk_at "sts"
  have e1 : (((t.rows.drop n).map rowV).filter fun _ => true).map (fun v => v) = (t.rows.drop n).map rowV := by
    rw [List.map_id'', List.filter_eq_self.mpr (fun _ _ => rfl)]; exact fun _ => rfl
  have e2 : (t.rows.take n).map rowV ++ (t.rows.drop n).map rowV = t.rows.map rowV := by
    rw [← List.map_append, List.take_append_drop]
  rw [e1]
  left
  walk_at "sts"
  rw [e2]
  have hm : upd (E true t) nx (.list (t.rows.map rowV)) 12 = some (.ns (ulF t)) := by
    unfold upd; rw [if_neg (fun q => by lia)]; rfl
  refine ⟨by rw [← List.length_append, e2, List.length_map]; exact Nat.le_trans hr (by decide), Or.inr (put_as rfl ?_)⟩
  repeat' (walk_at "st")
  refine put_as rfl ?_
  walk_at "sts"

theorem c_drop {c} (hK : KOk c) {t nx} {n : Nat} (hx : t.ex (rowsAt t) = none) (hn : 19 ≤ nx) (hr : t.rows.length ≤ 2 ^ 23) :
    FC c 38 1 (.ref 376) [.ins 276 12, .int (n : Nat)] (E true t) nx (fun b o' nx' => b = .none ∧ o' = E true (t.rd nx) ∧ nx' = nx + 1) (fun _ _ => False) :=
  (c_drop0 hK (n := n) hn hr).forget fun b o' nx' hp_ => by obtain ⟨e1, e2, e3⟩ := hp_; exact ⟨E true (t.rd nx), fun j x e => by rw [e3]; exact rd_less (r := t.rows) hx hn e, e1, rfl, e2⟩
noncomputable def strKey (e : DictEntry) : Bool := match e.key with | .str _ _ => true | _ => false
theorem strKeys_of {es : Array DictEntry} (h : es.all strKey = true) : StrKeys es := fun x hx => by
  have := Array.all_eq_true'.mp h x hx
  unfold strKey at this
  cases e : x.key with
  | str n t => exact ⟨n, t, rfl⟩
  | _ => rw [e] at this; cases this
theorem excNs_at (P : Params) : ExNs (Mine.hx.heap_1_39 P) 37 35 := by refine ⟨_, _, _, _, _, rfl, strKeys_of (by kernel_rfl), by kernel_rfl, by kernel_rfl, by kernel_rfl, by kernel_rfl⟩
theorem sigX {c : Cx} (hK : KOk c) : ExC c.K 38 37 35 where
  obj := by rw [hK]; exact ⟨_, _, _, _, _, _, _, _, _, _, _, _, _, rfl⟩
  ns := by rw [hK]; exact excNs_at _
  fn := by rw [hK]; exact ⟨_, rfl, rfl⟩
theorem noSym : typeLookup (.type "Exception") "symbol" = pure none := by rw [typeLookup_type, builtinLookup_eq_fast]; kernel_rfl
theorem noData : typeLookup (.type "Exception") "data" = pure none := by rw [typeLookup_type, builtinLookup_eq_fast]; kernel_rfl
theorem keep38 (P : Params) : keepIn (Mine.hx.heap_1_39 P) (.ref 38) = true := by kernel_rfl
theorem sig38 (P : Params) : nsIn (Mine.hx.heap_1_39 P) mainGlobals "LispSignal" = some (some (.ref 38)) := by kernel_rfl
theorem L_raise {c : Cx} (hK : KOk c) {k : SP} {y : Dy} {σ : St} {QF : Fl → St → Prop}
    {np cpos pos q1 q2 q3 : Pos} {k1 k2 : Nat} {msg : Str} (hC : k.C = 38) (hx : k.scope.names.lookup ("LispSignal" : Str) = some .globalImplicit) (h : y.QE σ.o σ.nx) :
    exD (mkP k c y) FlR (exec (.Raise (some (.Call (.Name "LispSignal" np) [.Constant (.str "user-error") k1 q1, .List [.Constant (.str msg) k2 q2] q3] [] cpos)) none pos) (mkP k c y).z.env) σ QF := fun hP => by
  refine S_raise (z := fnZ c k.C y.A k.qual k.scope y.L k.f k.cdv y.outer y.QE) (QE := y.QE) hP.ok (sigX hK) (by rw [hK]; rfl) (by rw [hK]; kernel_rfl) (fun s x y u _ => .of_eq rfl) (by decide) rfl rfl rfl rfl rfl rfl noSym noData (by rw [hK]; exact keep38 _) (fun W σ e s p f q => ⟨W, σ, .none, .rfl', ⟨p.g, p.f, p.k⟩, (by rw [hC]; exact f), .inl rfl, q⟩)
    (by rw [hK]; exact sig38 _) hx (by decide) ?_ rfl
  exact A_cons (R_str (A_cons (R_list (A_cons (R_str (A_nil ⟨(by decide : 1 ≤ 2 ^ 24), A_nil ⟨_, rfl, h⟩⟩)) rfl)) rfl)) rfl
set_option tactic.hygienic true in
theorem c_aboveL {c} (hK : KOk c) {t nx} {l : List Row} {k : Nat} (hk : k ≤ l.length) (hr : l.length ≤ 2 ^ 23) :
    FC c 38 1 (.ref 329) [.lst (l.map rowV), .int (k : Nat)] (E true t) nx (fun b o' nx' => b = .int (above l k : Nat) ∧ o' = E true t ∧ nx' = nx) (fun _ _ => False) := by
  refine FC_K 60 hK (.cons (g_BOUNDARY hK) .nil) ["rows", "at"] [] rfl (by kernel_rfl) .nil (by walk_at "binds") (by decide +kernel) (by decide +kernel) rfl rfl rfl ?_
  intro yd QR hQX hQR
  walk_at "sts"
  refine ⟨fun σ => ∃ j : Nat, j ≤ k ∧ above l j = above l k ∧ σ = ⟨[("at", .int (j : Nat)), ("rows", .lst (l.map rowV))], E true t, nx⟩, atOf, ⟨[("at", .int (k : Nat)), ("rows", .lst (l.map rowV))], ⟨rfl, rfl, trivial⟩, k, Nat.le_refl _, rfl, rfl⟩, ?_⟩
  rintro σ1 ⟨j, hj, ha, rfl⟩
  walk_at "sts"
  · rename_i h
    obtain ⟨i, rfl⟩ := pos_succ h
    have hi : i < l.length := Nat.lt_of_lt_of_le hj hk
    have e0 := List.getElem?_eq_getElem hi
    rw [idx_pred]
    refine ⟨_, at_row e0, ?_⟩
    generalize l[i] = r at e0 ⊢
    induction r <;> walk_at "sts"
    · rw [idx_pred]
      exact ⟨[("at", .int (i : Nat)), ("rows", .lst (l.map rowV))], ⟨rfl, rfl, trivial⟩, ⟨i, Nat.le_of_succ_le hj, by rw [← ha, above_bnd e0], rfl⟩, Nat.lt_succ_self _⟩
    all_goals exact ⟨by rw [← ha, above_not e0 (by intro q; cases q)]; rfl, rfl, rfl⟩
  · rename_i h
    obtain rfl := not_pos h
    exact ⟨by rw [← ha]; rfl, rfl, rfl⟩

theorem max_nat (n : Nat) : (if ((n : Nat) : Int) - 0 > 0 then ((n : Nat) : Int) - 0 else 0) = (n : Nat) := by split <;> lia
set_option tactic.hygienic true in
theorem c_elder {c} (hK : KOk c) {t nx} {n : Nat} (hr : t.rows.length ≤ 2 ^ 23) (h0 : above (t.rows.take n) (t.rows.take n).length ≠ 0) :
    FC c 38 2 (.ref 383) [.ins 276 12, .int (n : Nat)] (E true t) nx (fun b o' nx' => b = .lst ((t.rows.take n).map rowV) ∧ o' = E true t ∧ nx' = nx) (fun _ _ => False) := by
  refine FC_K 60 hK (.cons (g_above_boundaries hK) (.cons (g_len hK) (.cons (g_max hK) .nil))) ["history", "count"] [] rfl (by kernel_rfl) .nil (by walk_at "binds") (by decide +kernel) (by decide +kernel) rfl rfl rfl ?_
  intro yd QR hQX hQR
  have hl : (t.rows.take n).length ≤ 2 ^ 23 := Nat.le_trans (by rw [List.length_take]; exact Nat.min_le_right _ _) hr
  walk_at "sts"
  rw [max_nat, pick_map, pick_to]
  refine ⟨by rw [List.length_map]; exact Nat.le_trans hl (by decide), ?_⟩
  rw [List.length_map]
  repeat' (walk_at "st")
  refine call_eq (c_aboveL hK (l := t.rows.take n) (Nat.le_refl _) hl) rfl ?_
  walk_at "sts"
  rename_i h
  exact absurd (by simpa using h) h0

set_option tactic.hygienic true in
theorem x_elder {c} (hK : KOk c) {t nx} {n : Nat} (hr : t.rows.length ≤ 2 ^ 23) (h0 : above (t.rows.take n) (t.rows.take n).length = 0) :
    FC c 38 2 (.ref 383) [.ins 276 12, .int (n : Nat)] (E true t) nx (fun b o' nx' => False) (fun o' nx' => o' = E true t ∧ nx' = nx) := by
  refine FC_K 60 hK (.cons (g_above_boundaries hK) (.cons (g_len hK) (.cons (g_max hK) .nil))) ["history", "count"] [] rfl (by kernel_rfl) .nil (by walk_at "binds") (by decide +kernel) (by decide +kernel) rfl rfl rfl ?_
  intro yd QR hQX hQR
  have hl : (t.rows.take n).length ≤ 2 ^ 23 := Nat.le_trans (by rw [List.length_take]; exact Nat.min_le_right _ _) hr
  walk_at "sts"
  rw [max_nat, pick_map, pick_to]
  refine ⟨by rw [List.length_map]; exact Nat.le_trans hl (by decide), ?_⟩
  rw [List.length_map]
  repeat' (walk_at "st")
  refine call_eq (c_aboveL hK (l := t.rows.take n) (Nat.le_refl _) hl) rfl ?_
  walk_at "sts"
  · exact L_raise hK rfl rfl (useX hQX ⟨rfl, rfl⟩)
  · rename_i h
    rw [h0] at h; cases h

noncomputable def useP (QR : Fl → St → Prop) (v : Bool) (o : Nat → Option MO) (nx : Nat) : Prop := ∀ L, QR (.ret (.bool v)) ⟨L, o, nx⟩
inductive Skip (m : Int → Option Int) : Int → Int → Prop
  | stop {i} : m i = none → Skip m i i
  | step {i j k} : m i = some j → Skip m j k → Skip m i k
theorem Skip.some_inv {m : Int → Option Int} {i j k : Int} (h : Skip m i k) (e : m i = some j) : Skip m j k := by
  cases h with
  | stop q => rw [q] at e; cases e
  | step q h => rw [q] at e; cases e; exact h
theorem Skip.none_inv {m : Int → Option Int} {i k : Int} (h : Skip m i k) (e : m i = none) : i = k := by
  cases h with
  | stop q => rfl
  | step q h => rw [q] at e; cases e
noncomputable def ctOf (σ : St) : Nat := match σ.m.lookup ("count" : Str) with
  | some v => (match v with | .int i => i.toNat | _ => 0)
  | none => 0
theorem getD_eqV (m : Int → Option Int) (i d : Int) : (eqV m i).getD (.int d) = .int ((m i).getD d) := by
  unfold eqV; cases m i <;> rfl
theorem get_some {m : Int → Option Int} {i : Int} (h : (true ^^ ((m i).getD (-1) == -1)) = true) : ∃ j, m i = some j := by
  cases e : m i with
  | none => rw [e] at h; cases h
  | some j => exact ⟨j, rfl⟩
theorem get_none {m : Int → Option Int} {i : Int} (hd : ∀ a b, m a = some b → 0 ≤ b ∧ b < a) (h : (true ^^ ((m i).getD (-1) == -1)) = false) : m i = none := by
  cases e : m i with
  | none => rfl
  | some j =>
    rw [e] at h
    have : j = -1 := by simpa using h
    have := (hd i j e).1
    lia
set_option tactic.hygienic true in
theorem c_skip {c} (hK : KOk c) {t nx} {i k : Int} (hS : Skip t.eq i k) (hd : ∀ a b, t.eq a = some b → 0 ≤ b ∧ b < a) :
    FC c 38 1 (.ref 390) [.ins 353 14, .int i] (E true t) nx (fun b o' nx' => b = .int k ∧ o' = E true t ∧ nx' = nx) (fun _ _ => False) := by
  refine FC_K 60 hK (.cons (g_IN_REGION hK) .nil) ["undoing", "count"] [] rfl (by kernel_rfl) .nil (by walk_at "binds") (by decide +kernel) (by decide +kernel) rfl rfl rfl ?_
  intro yd QR hQX hQR
  walk_at "sts"
  refine ⟨fun σ => ∃ j, Skip t.eq j k ∧ σ = ⟨[("count", .int j), ("undoing", .ins 353 14)], E true t, nx⟩, ctOf, ⟨[("count", .int i), ("undoing", .ins 353 14)], ⟨rfl, rfl, trivial⟩, i, hS, rfl⟩, ?_⟩
  rintro σ1 ⟨j, hj, rfl⟩
  walk_at "sts"
  rw [getD_eqV]
  walk_at "sts"
  · rename_i h
    obtain ⟨a, e⟩ := get_some h
    refine ⟨.int a, by show (t.eq j).map V.int = _; rw [e]; rfl, ?_⟩
    walk_at "sts"
    refine ⟨[("count", .int a), ("undoing", .ins 353 14)], ⟨rfl, rfl, trivial⟩, ⟨a, hj.some_inv e, rfl⟩, ?_⟩
    obtain ⟨h1, h2⟩ := hd _ _ e
    show a.toNat < j.toNat
    lia
  · rename_i h
    obtain rfl := hj.none_inv (get_none hd h)
    exact ⟨rfl, rfl, rfl⟩

theorem oV_none {p : Option Int} (h : (oV p).isNone = true) : p = none := by cases p <;> first | rfl | cases h
theorem oV_some {p : Option Int} (h : (oV p).isNone = false) : ∃ i, p = some i := by
  cases p with
  | none => cases h
  | some i => exact ⟨i, rfl⟩
noncomputable def TS.inRow (t : TS) (ch : Bool) : Bool := match ch with
  | false => false
  | true => match t.pend with
    | none => false
    | some p => decide (p ≤ 0) || (some (t.top : Int) == t.idle) || (t.eq (t.top : Nat)).isSome
theorem inRow_none {t : TS} (h : t.pend = none) : false = t.inRow true := by unfold TS.inRow; rw [h]
theorem inRow_le {t : TS} {p : Int} (hp : t.pend = some p) (h : decide (p ≤ 0) = true) : true = t.inRow true := by unfold TS.inRow; rw [hp]; dsimp only; rw [h]; rfl
theorem inRow_idle {t : TS} {p : Int} (hp : t.pend = some p) (h : some (t.top : Int) = t.idle) : true = t.inRow true := by
  unfold TS.inRow; rw [hp, ← h]; simp
theorem inRow_last {t : TS} {p : Int} (hp : t.pend = some p) (h : decide (p ≤ 0) = false) (h2 : some (t.top : Int) ≠ t.idle) : (t.eq (t.top : Nat)).isSome = t.inRow true := by
  unfold TS.inRow; rw [hp]; dsimp only; rw [h, beq_eq_false_iff_ne.mpr h2]; rfl
set_option tactic.hygienic true in
theorem c_inrow {c} (hK : KOk c) {t nx} {ch : Bool} (hr : t.rows.length ≤ 2 ^ 23) :
    FC c 38 4 (.ref 397) [.ins 353 14, .ins 276 12, .bool ch] (E true t) nx (fun b o' nx' => b = .bool (t.inRow ch) ∧ o' = E true t ∧ nx' = nx) (fun _ _ => False) := by
  refine FC_K 60 hK (.cons (g_last_was_undo hK) (.cons (g_trimmed_count hK) .nil)) ["undoing", "history", "is_chained"] [] rfl (by kernel_rfl) .nil (by walk_at "binds") (by decide +kernel) (by decide +kernel) rfl rfl rfl ?_
  intro yd QR hQX hQR
  have h1 := c_trim hK (nx := nx) hr
  have h2 := c_last hK (nx := nx) hr
  cases ch
  · walk_at "sts"
  have e1 : ∀ v, v = t.inRow true → useP QR v (E true t) nx := fun v q L => useQ hQR ⟨congrArg V.bool q, rfl, rfl⟩
  walk_at "stsq"
  · rename_i h
    exact e1 _ (inRow_none (oV_none h)) _
  rename_i h0
  obtain ⟨p, hp⟩ := oV_some h0
  rw [hp]
  walk_at "stsq"
  · rename_i h
    exact e1 _ (inRow_le hp h) _
  rename_i h
  refine call_eq h1 rfl ?_
  walk_at "stsq"
  cases hi : t.idle with
  | none =>
    repeat' (walk_at "stq")
    refine call_eq h2 rfl ?_
    walk_at "stsq"
    exact e1 _ (inRow_last hp h (by rw [hi]; exact fun q => nomatch q)) _
  | some q =>
    walk_at "stsq"
    · rename_i h2
      exact e1 _ (inRow_idle hp (by rw [hi]; simpa using h2)) _
    · rename_i h3
      refine call_eq h2 rfl ?_
      walk_at "stsq"
      exact e1 _ (inRow_last hp h (by rw [hi]; intro z; cases z; simp at h3)) _

noncomputable def TS.begun (t : TS) (ch : Bool) : TS := if (t.sRows (bndS t.rows)).inRow ch then t.sRows (bndS t.rows) else (t.sRows (bndS t.rows)).sPend (some (((t.sRows (bndS t.rows)).top : Nat) : Int))
theorem bndS_len (l : List Row) : (bndS l).length ≤ l.length + 1 := by
  unfold bndS; split <;> simp
theorem begun_in {t : TS} {ch : Bool} (h : (t.sRows (bndS t.rows)).inRow ch = true) : t.sRows (bndS t.rows) = t.begun ch := (if_pos h).symm
theorem begun_out {t : TS} {ch : Bool} (h : (t.sRows (bndS t.rows)).inRow ch = false) : (t.sRows (bndS t.rows)).sPend (some (((t.sRows (bndS t.rows)).top : Nat) : Int)) = t.begun ch := (if_neg (by rw [h]; decide)).symm
set_option tactic.hygienic true in
theorem c_begin {c} (hK : KOk c) {t nx} {ch : Bool} (hr : t.rows.length ≤ 2 ^ 22) :
    FC c 38 5 (.ref 404) [.ins 353 14, .ins 276 12, .bool ch] (E true t) nx (fun b o' nx' => b = .none ∧ o' = E true (t.begun ch) ∧ nx' = nx) (fun _ _ => False) := by
  refine FC_K 60 hK (.cons (g_is_in_row hK) (.cons (g_trimmed_count hK) .nil)) ["undoing", "history", "is_chained"] [] rfl (by kernel_rfl) .nil (by walk_at "binds") (by decide +kernel) (by decide +kernel) rfl rfl rfl ?_
  intro yd QR hQX hQR
  have hr2 : (bndS t.rows).length ≤ 2 ^ 23 := Nat.le_trans (bndS_len _) (Nat.le_trans (Nat.add_le_add_right hr 1) (by decide))
  have h1 := c_boundary hK (t := t) (nx := nx) (Nat.le_trans hr (by decide))
  have h2 := c_inrow hK (t := t.sRows (bndS t.rows)) (nx := nx) (ch := ch) hr2
  have h3 := c_trim hK (t := t.sRows (bndS t.rows)) (nx := nx) hr2
  have e1 := begun_in (t := t) (ch := ch)
  have e2 := begun_out (t := t) (ch := ch)
  generalize t.sRows (bndS t.rows) = T at h1 h2 h3 e1 e2
  repeat' (walk_at "stq")
  refine call_eq h1 rfl ?_
  repeat' (walk_at "stq")
  refine call_eq h2 rfl ?_
  walk_at "stsq"
  · rename_i h
    exact useQ hQR ⟨rfl, congrArg (E true) (e1 h), rfl⟩
  · rename_i h
    refine call_eq h3 rfl ?_
    walk_at "stsq"
    exact useQ hQR ⟨rfl, congrArg (E true) (e2 h), rfl⟩

theorem E_eq {t : TS} {i j : Int} : upd (E true t) 15 (.imap (updI (eqV t.eq) i (some (.int j))) (t.eqn + 1)) = E true ((t.sEq (fun b => if b = i then some j else t.eq b)).sEqn (t.eqn + 1)) := by
  have : updI (eqV t.eq) i (some (.int j)) = eqV (fun b => if b = i then some j else t.eq b) := by
    funext b
    show (if b = i then some (V.int j) else (t.eq b).map V.int) = Option.map V.int (if b = i then some j else t.eq b)
    split <;> rfl
  rw [this]
  exact E_upd rfl (by decide) rfl rfl
noncomputable def TS.ended (t : TS) (nx n : Nat) (k : Int) : TS := if t.top ≤ n then ((t.rd nx).sIdle (some (t.top : Nat))).sRows (bndS t.rows) else ((((t.rd nx).sIdle none).sEq (fun b => if b = (t.top : Nat) then some k else t.eq b)).sEqn (t.eqn + 1)).sRows (bndS t.rows)
theorem ended_le {t : TS} {nx n : Nat} {k : Int} (h : t.top ≤ n) : ((t.rd nx).sIdle (some (t.top : Nat))).sRows (bndS t.rows) = t.ended nx n k := (if_pos h).symm
theorem ended_gt {t : TS} {nx n : Nat} {k : Int} (h : ¬ t.top ≤ n) : ((((t.rd nx).sIdle none).sEq (fun b => if b = (t.top : Nat) then some k else t.eq b)).sEqn (t.eqn + 1)).sRows (bndS t.rows) = t.ended nx n k := (if_neg h).symm
set_option tactic.hygienic true in
theorem c_end {c} (hK : KOk c) {t nx} {n : Nat} {k : Int} (hx : t.ex (rowsAt t) = none) (hn : 19 ≤ nx) (hr : t.rows.length ≤ 2 ^ 22) (he : t.eqn ≤ 1000) :
    FC c 38 3 (.ref 411) [.ins 353 14, .ins 276 12, .int (n : Nat), .int k] (E true t) nx (fun b o' nx' => b = .none ∧ o' = E true (t.ended nx n k) ∧ nx' = nx + 1) (fun _ _ => False) := by
  refine FC_K 60 hK (.cons (g_drop_points hK) (.cons (g_trimmed_count hK) .nil)) ["undoing", "history", "first", "back_to"] [] rfl (by kernel_rfl) .nil (by walk_at "binds") (by decide +kernel) (by decide +kernel) rfl rfl rfl ?_
  intro yd QR hQX hQR
  have hr2 : t.rows.length ≤ 2 ^ 23 := Nat.le_trans hr (by decide)
  have h1 := c_drop hK (n := n) hx hn hr2
  have h2 := c_trim hK (t := t.rd nx) (nx := nx + 1) hr2
  have h3 := c_boundary hK (t := (t.rd nx).sIdle (some (t.top : Nat))) (nx := nx + 1) (Nat.le_trans hr (by decide))
  have h4 := c_boundary hK (t := (((t.rd nx).sIdle none).sEq (fun b => if b = (t.top : Nat) then some k else t.eq b)).sEqn (t.eqn + 1)) (nx := nx + 1) (Nat.le_trans hr (by decide))
  have e1 := ended_le (t := t) (nx := nx) (n := n) (k := k)
  have e2 := ended_gt (t := t) (nx := nx) (n := n) (k := k)
  have e3 := E_eq (t := (t.rd nx).sIdle none) (i := (t.top : Nat)) (j := k)
  have he : t.eqn ≤ 2 ^ 24 := Nat.le_trans he (by decide)
  repeat' (walk_at "stq")
  refine call_eq h1 rfl ?_
  repeat' (walk_at "stq")
  refine call_eq h2 rfl ?_
  walk_at "stsq"
  · rename_i h1 h2
    exact absurd (of_decide_eq_true h1) (Int.not_le.mpr (of_decide_eq_true h2))
  · rename_i h h2
    refine call_eq h3 rfl ?_
    walk_at "stsq"
    exact useQ hQR ⟨rfl, congrArg (E true) (e1 (Int.ofNat_le.mp (of_decide_eq_true h))), rfl⟩
  · rename_i h h2
    refine put_as e3 ?_
    repeat' (walk_at "stq")
    refine call_eq h4 rfl ?_
    walk_at "stsq"
    exact useQ hQR ⟨rfl, congrArg (E true) (e2 fun q => of_decide_eq_false h (Int.ofNat_le.mpr q)), rfl⟩
  · rename_i h h2
    exact absurd (Int.not_le.mp (of_decide_eq_false h)) (of_decide_eq_false h2)

theorem above_take (l : List Row) (n : Nat) : ∀ k, k ≤ n → above (l.take n) k = above l k
  | 0, _ => rfl
  | k + 1, h => by
    have e : (l.take n)[k]? = l[k]? := List.getElem?_take_of_lt h
    unfold above
    rw [e, above_take l n k (Nat.le_of_succ_le h)]
theorem call_qx {c : Cx} {C : Addr} {m n : Nat} {f : Value} {vs : List V} {o o1 : Nat → Option MO} {nx n1 : Nat} {v : V} {P : Prop} {K : V → (Nat → Option MO) → Nat → Prop} {QE1 QE : (Nat → Option MO) → Nat → Prop}
    (fc : FC c C m f vs o nx (fun b o' nx' => P ∧ b = v ∧ o' = o1 ∧ nx' = n1) QE1) (hm : Nat.ble m n = true) (h : P → K v o1 n1) (hx : ∀ o' nx', QE1 o' nx' → QE o' nx') :
    CallIs c C n f vs o nx K QE :=
  ⟨m, _, _, fc, Nat.le_of_ble_eq_true hm, fun b o' nx' hp_ => by obtain ⟨p, e1, e2, e3⟩ := hp_; rw [e1, e2, e3]; exact h p, hx⟩
theorem call_of3x {c : Cx} {C : Addr} {m n : Nat} {f : Value} {vs : List V} {o : Nat → Option MO} {nx : Nat} {α : Type} {fb : α → V} {fo : α → Nat → Option MO} {fn : α → Nat} {R : α → Prop} {K : V → (Nat → Option MO) → Nat → Prop} {QE1 QE : (Nat → Option MO) → Nat → Prop}
    (fc : FC c C m f vs o nx (fun b o' nx' => ∃ a, b = fb a ∧ o' = fo a ∧ nx' = fn a ∧ R a) QE1) (hm : Nat.ble m n = true) (h : ∀ a, R a → K (fb a) (fo a) (fn a)) (hx : ∀ o' nx', QE1 o' nx' → QE o' nx') :
    CallIs c C n f vs o nx K QE :=
  ⟨m, _, _, fc, Nat.le_of_ble_eq_true hm, fun b o' nx' hp_ => by obtain ⟨a, e1, e2, e3, r⟩ := hp_; rw [e1, e2, e3]; exact h a r, hx⟩
theorem c_elder2 {c} (hK : KOk c) {t nx} {n : Nat} (hr : t.rows.length ≤ 2 ^ 23) :
    FC c 38 2 (.ref 383) [.ins 276 12, .int (n : Nat)] (E true t) nx (fun b o' nx' => above (t.rows.take n) (t.rows.take n).length ≠ 0 ∧ b = .lst ((t.rows.take n).map rowV) ∧ o' = E true t ∧ nx' = nx) (fun o' nx' => above (t.rows.take n) (t.rows.take n).length = 0 ∧ o' = E true t ∧ nx' = nx) := by
  by_cases h : above (t.rows.take n) (t.rows.take n).length = 0
  · exact (x_elder hK hr h).imp (fun _ _ _ q => q.elim) fun _ _ q => ⟨h, q⟩
  · exact (c_elder hK hr h).imp (fun _ _ _ q => ⟨h, q⟩) fun _ _ q => q.elim
noncomputable def turns (p : Pv) : Nat → Nat → Pv × Nat
  | 0, j => (p, j)
  | c + 1, j => if j = 0 then (p, 0) else turns (runs p (above p.rows j)).1 c (above (runs p (above p.rows j)).1.rows (runs p (above p.rows j)).2)
noncomputable def TurnsOk (p : Pv) : Nat → Nat → Prop
  | 0, _ => True
  | c + 1, j => j = 0 ∨ (RunOk p (above p.rows j) ∧ j ≤ p.rows.length ∧ p.rows.length ≤ 2 ^ 22 ∧ (runs p (above p.rows j)).2 ≤ (runs p (above p.rows j)).1.rows.length ∧ (runs p (above p.rows j)).1.rows.length ≤ 2 ^ 22 ∧
      TurnsOk (runs p (above p.rows j)).1 c (above (runs p (above p.rows j)).1.rows (runs p (above p.rows j)).2))
theorem turns_zero (p : Pv) : ∀ c, turns p c 0 = (p, 0)
  | 0 => rfl
  | c + 1 => if_pos rfl
noncomputable def turnOf (σ : St) : Nat := match σ.m.lookup ("turn" : Str) with
  | some v => (match v with | .int i => i.toNat | _ => 0)
  | none => 0
noncomputable def wordOf (t : TS) (p0 : Int) (ps : Bool) : Str := match (t.eq p0).isSome, ps with
  | true, false => "Redo"
  | _, _ => "Undo"
theorem word_t {t : TS} {p0 : Int} : wordOf t p0 true = "Undo" := by unfold wordOf; cases (t.eq p0).isSome <;> rfl
theorem word_f {t : TS} {p0 : Int} (h : (false ^^ (eqV t.eq p0).isSome) = true) : wordOf t p0 false = "Redo" := by
  have h : (t.eq p0).isSome = true := by simpa [eqV] using h
  unfold wordOf; rw [h]
theorem word_n {t : TS} {p0 : Int} {ps : Bool} (h : (false ^^ (eqV t.eq p0).isSome) = false) : wordOf t p0 ps = "Undo" := by
  have h : (t.eq p0).isSome = false := by simpa [eqV] using h
  unfold wordOf; rw [h]
noncomputable def fsOf (t : TS) (p0 : Int) (n f cnt : Nat) (ps : Bool) (k j : Nat) : List (Str × V) :=
  [("turn", .int (k : Nat)), ("at", .int (j : Nat)), ("rows", .ref (rowsAt t)), ("first", .int (f : Nat)), ("many", .int (n : Nat)), ("start", .int (n : Nat)), ("word", .str (wordOf t p0 ps)), ("passes_undos", .bool ps), ("count", .int (cnt : Nat)), ("history", .ins 276 12), ("buffer", .ins 751 6), ("undoing", .ins 353 14)]
noncomputable def moL (t : TS) (p0 : Int) (cnt : Nat) (ps : Bool) : List (Str × V) := [("word", .str (wordOf t p0 ps)), ("passes_undos", .bool ps), ("count", .int (cnt : Nat)), ("history", .ins 276 12), ("buffer", .ins 751 6), ("undoing", .ins 353 14)]
noncomputable def MoM (t : TS) (p0 : Int) (cnt nx : Nat) (ps : Bool) (σ : St) : Prop := σ = ⟨moL t p0 cnt ps, E true (t.sPend (some p0)), nx⟩
noncomputable def MoN (t : TS) (p0 : Int) (cnt nx n : Nat) (ps : Bool) (σ : St) : Prop := σ = ⟨("start", .int (n : Nat)) :: moL t p0 cnt ps, E true (t.sPend (some p0)), nx⟩
inductive MoI (t : TS) (nx : Nat) (p0 : Int) (n f cnt : Nat) (ps : Bool) (R : Pv × Nat) : St → Prop
  | mk (a : Cr) (n1 : Nat) (q : Pv) (j k : Nat) (hnx : nx ≤ n1) (hk : k ≤ cnt) (J : Is a q) (ok : TurnsOk q (cnt - k) j) (hq : turns q (cnt - k) j = R) : MoI t nx p0 n f cnt ps R ⟨fsOf t p0 n f cnt ps k j, E true ((t.sPend (some p0)).wc a), n1⟩
theorem pend_wc {t : TS} {p0 q0 : Int} {a : Cr} : (((t.sPend (some p0)).wc a).sPend (some q0)) = (t.wc a).sPend (some q0) := by induction t; rfl
structure MoE (R : Pv × Nat) (q : Pv) (n j : Nat) : Prop where
  eq : (q, j) = R
  at0 : ((n : Nat) : Int) - (n : Nat) + (j : Nat) = (R.2 : Nat)
theorem mo_fin {q : Pv} {n k cnt j : Nat} {R : Pv × Nat} (hq : turns q (cnt - k) j = R) (h : cnt - k = 0 ∨ j = 0) : MoE R q n j := by
  have e : (q, j) = R := by
    rw [← hq]
    rcases h with h | rfl
    · rw [h]; rfl
    · exact (turns_zero q _).symm
  exact ⟨e, by rw [← e]; lia⟩
theorem mo_end {c} (hK : KOk c) {t : TS} {nx n1 n j f : Nat} {p0 : Int} {a : Cr} {q : Pv} {R : Pv × Nat} (hn : Nx t nx) (hnx : nx ≤ n1) (J : Is a q) (hR : MoE R q n j) (hrt : R.1.rows.length ≤ 2 ^ 22) (he : t.eqn ≤ 1000) :
    FC c 38 3 (.ref 411) [.ins 353 14, .ins 276 12, .int (f : Nat), .int ((n : Nat) - (n : Nat) + (j : Nat))] (E true (((t.sPend (some p0)).wc a).sPend (some ((n : Nat) - (n : Nat) + (j : Nat))))) n1
      (fun b o' nx' => b = .none ∧ o' = E true (((t.wc a).sPend (some (R.2 : Nat))).ended n1 f (R.2 : Nat)) ∧ nx' = n1 + 1) (fun _ _ => False) := by
  rw [hR.at0, pend_wc]
  exact c_end hK (t := (t.wc a).sPend (some (R.2 : Nat))) hn.rx (Nat.le_trans hn.lo hnx) (by show a.rows.length ≤ _; rw [J.rows, show q = R.1 by rw [← hR.eq]]; exact hrt) he
structure MoS (q : Pv) (i d : Nat) (R : Pv × Nat) : Prop where
  run : RunOk q (above q.rows (i + 1))
  le : i + 1 ≤ q.rows.length
  len : q.rows.length ≤ 2 ^ 22
  le2 : (runs q (above q.rows (i + 1))).2 ≤ (runs q (above q.rows (i + 1))).1.rows.length
  len2 : (runs q (above q.rows (i + 1))).1.rows.length ≤ 2 ^ 22
  ok : TurnsOk (runs q (above q.rows (i + 1))).1 d (above (runs q (above q.rows (i + 1))).1.rows (runs q (above q.rows (i + 1))).2)
  eq : turns (runs q (above q.rows (i + 1))).1 d (above (runs q (above q.rows (i + 1))).1.rows (runs q (above q.rows (i + 1))).2) = R
theorem mo_step {q : Pv} {k cnt i : Nat} {R : Pv × Nat} (ok : TurnsOk q (cnt - k) (i + 1)) (hq : turns q (cnt - k) (i + 1) = R) (h : k < cnt) : MoS q i (cnt - (k + 1)) R := by
  obtain ⟨d, hd⟩ : ∃ d, cnt - k = d + 1 := ⟨cnt - k - 1, by lia⟩
  rw [hd] at ok hq
  obtain ⟨o1, o2, o3, o4, o5, o6⟩ := ok.resolve_left (Nat.succ_ne_zero _)
  rw [show cnt - (k + 1) = d by lia]
  exact ⟨o1, o2, o3, o4, o5, o6, by rw [← hq]; exact (if_neg (Nat.succ_ne_zero i)).symm⟩
theorem mo_group {c} (hK : KOk c) {t : TS} {nx n1 i d : Nat} {a : Cr} {q : Pv} {R : Pv × Nat} (hn : Nx t nx) (hnx : nx ≤ n1) (J : Is a q) (S : MoS q i d R) :
    FC c 38 11 (.ref 336) [.ins 751 6, .ref (rowsAt t), .int (i + 1 : Nat)] (E true (t.wc a)) n1 (fun b o' nx' => ∃ a' : Cr × Nat, b = .int ((runs q (above q.rows (i + 1))).2 : Nat) ∧ o' = E true (t.wc a'.1) ∧ nx' = a'.2 ∧ n1 ≤ a'.2 ∧ Is a'.1 (runs q (above q.rows (i + 1))).1) (fun _ _ => False) :=
  (c_group hK (t := t.wc a) (nx := n1) (p := q) (k := i + 1) ((hn.up hnx).wc a) J S.le (Nat.le_trans S.len (by decide)) S.run).imp (fun b o' nx' hp_ => by obtain ⟨a', e1, e2, e3⟩ := hp_; exact ⟨a', e1, by rw [e2, wc_wc], e3⟩) fun _ _ q => q
theorem mo_above {c} (hK : KOk c) {t : TS} {nx i d : Nat} {a : Cr} {q : Pv} {R : Pv × Nat} (J : Is a (runs q (above q.rows (i + 1))).1) (S : MoS q i d R) :
    FC c 38 1 (.ref 329) [.ref (rowsAt t), .int ((runs q (above q.rows (i + 1))).2 : Nat)] (E true (t.wc a)) nx (fun b o' nx' => b = .int (above (runs q (above q.rows (i + 1))).1.rows (runs q (above q.rows (i + 1))).2 : Nat) ∧ o' = E true (t.wc a) ∧ nx' = nx) (fun _ _ => False) := by
  have h := c_above hK (t := t.wc a) (nx := nx) (k := (runs q (above q.rows (i + 1))).2) (by show _ ≤ a.rows.length; rw [J.rows]; exact S.le2) (by show a.rows.length ≤ _; rw [J.rows]; exact Nat.le_trans S.len2 (by decide))
  rw [show (t.wc a).rows = (runs q (above q.rows (i + 1))).1.rows from J.rows] at h
  exact h
theorem mo_take {t : TS} {p : Pv} {n : Nat} (I : Is t.cr p) (hnr : n ≤ p.rows.length) : ((t.rows.take n).map rowV).length = n ∧ above (t.rows.take n) (t.rows.take n).length = above p.rows n := by
  have e1 : t.rows = p.rows := I.rows
  have htk : (t.rows.take n).length = n := by rw [List.length_take, e1]; exact Nat.min_eq_left hnr
  exact ⟨by rw [List.length_map]; exact htk, by rw [htk, above_take _ _ _ (Nat.le_refl _), e1]⟩
set_option tactic.hygienic true in
theorem c_more {c} (hK : KOk c) {t nx} {p : Pv} {p0 : Int} {n cnt : Nat} {ps : Bool} (hn : Nx t nx) (I : Is t.cr p) (hS : match ps with | true => Skip t.eq p0 (n : Nat) | false => p0 = (n : Nat)) (hd : ∀ a b, t.eq a = some b → 0 ≤ b ∧ b < a) (hnr : n ≤ p.rows.length) (hr : p.rows.length ≤ 2 ^ 22) (ok : TurnsOk p cnt n) (hrt : (turns p cnt n).1.rows.length ≤ 2 ^ 22) (he : t.eqn ≤ 1000) :
    FC c 38 12 (.ref 418) [.ins 353 14, .ins 751 6, .ins 276 12, .int (cnt : Nat), .bool ps] (E true (t.sPend (some p0))) nx (fun b o' nx' => ∃ a : Cr × Nat, b = .str (wordOf t p0 ps) ∧ o' = E true (((t.wc a.1).sPend (some ((turns p cnt n).2 : Nat))).ended a.2 p.rows.length ((turns p cnt n).2 : Nat)) ∧ nx' = a.2 + 1 ∧ above p.rows n ≠ 0 ∧ nx ≤ a.2 ∧ Is a.1 (turns p cnt n).1) (fun o' nx' => above p.rows n = 0 ∧ o' = E true (t.sPend (some p0)) ∧ nx' = nx) := by
  refine FC_K 60 hK (.cons (g_above_boundaries hK) (.cons (g_elder_rows hK) (.cons (g_end_undo hK) (.cons (g_len hK) (.cons (g_skipped_undos hK) (.cons (g_undo_group hK) .nil)))))) ["undoing", "buffer", "history", "count", "passes_undos"] [] rfl (by kernel_rfl) .nil (by walk_at "binds") (by decide +kernel) (by decide +kernel) rfl rfl rfl ?_
  intro yd QR hQX hQR
  have e1 : t.rows.length = p.rows.length := congrArg List.length (show t.rows = p.rows from I.rows)
  have hr2 : t.rows.length ≤ 2 ^ 23 := by rw [e1]; exact Nat.le_trans hr (by decide)
  obtain ⟨htk, hab⟩ := mo_take (t := t) I hnr
  have hel := c_elder2 hK (t := t.sPend (some p0)) (nx := nx) (n := n) hr2
  have hcn := c_count hK (t := t.sPend (some p0)) (nx := nx) (Nat.le_trans hr2 (by decide))
  have hsk := fun h => c_skip hK (t := t.sPend (some p0)) (nx := nx) (i := p0) (k := (n : Nat)) h hd
  have hn24 : ((t.rows.take n).map rowV).length ≤ 2 ^ 24 := by rw [htk]; exact Nat.le_trans hnr (Nat.le_trans hr (by decide))
  generalize hR : turns p cnt n = R at hQR hrt
  rw [← e1] at hQR
  repeat' (walk_at "stj")
  first | refine IfOr.two (MoM t p0 cnt nx ps) ?_ ?_ | refine AsgOr.two (MoM t p0 cnt nx ps) ?_ ?_
  · walk_at "stjs"
    · exact ⟨moL t p0 cnt true, ⟨by rw [word_t]; rfl, rfl, rfl, rfl, rfl, rfl, trivial⟩, rfl⟩
    · rename_i h
      exact ⟨moL t p0 cnt false, ⟨by rw [word_f (t := t) (p0 := p0) h]; rfl, rfl, rfl, rfl, rfl, rfl, trivial⟩, rfl⟩
    · rename_i h
      exact ⟨moL t p0 cnt ps, ⟨by rw [word_n (t := t) (p0 := p0) h]; rfl, rfl, rfl, rfl, rfl, rfl, trivial⟩, rfl⟩
  rintro σ1 rfl
  repeat' (walk_at "stj")
  first | refine IfOr.two (MoN t p0 cnt nx n ps) ?_ ?_ | refine AsgOr.two (MoN t p0 cnt nx n ps) ?_ ?_
  · walk_at "stjs"
    · refine call_eq (hsk hS) rfl ?_
      walk_at "stjs"
      exact ⟨("start", .int (n : Nat)) :: moL t p0 cnt true, ⟨rfl, rfl, rfl, rfl, rfl, rfl, rfl, trivial⟩, rfl⟩
    · obtain rfl := hS
      exact ⟨("start", .int (n : Nat)) :: moL t (n : Nat) cnt false, ⟨rfl, rfl, rfl, rfl, rfl, rfl, rfl, trivial⟩, rfl⟩
  rintro σ1 rfl
  walk_at "stjs"
  refine call_qx hel rfl (fun h0 => ?_) (fun o' nx' q => useX hQX ⟨hab ▸ q.1, q.2⟩)
  have h0 : above p.rows n ≠ 0 := hab ▸ h0
  refine ⟨hn24, ?_⟩
  rw [show (((t.sPend (some p0)).rows.take n).map rowV).length = n from htk]
  repeat' (walk_at "stj")
  refine call_eq hcn rfl ?_
  walk_at "stjs"
  refine ⟨MoI t nx p0 n t.rows.length cnt ps R, fun σ => cnt - turnOf σ, ⟨fsOf t p0 n t.rows.length cnt ps 0 n, ⟨rfl, rfl, rfl, rfl, rfl, rfl, rfl, rfl, rfl, rfl, rfl, rfl, trivial⟩, .mk t.cr nx p n 0 (Nat.le_refl _) (Nat.zero_le _) I ok hR⟩, ?_⟩
  rintro σ1 (@⟨a, n1, q, j, k, hnx, hk, J, okq, hq⟩)
  have hE := fun h => mo_end hK (f := t.rows.length) (p0 := p0) hn hnx J (mo_fin (n := n) hq h) hrt he
  have hF := fun h => (mo_fin (n := n) hq h).eq
  walk_at "stjs"
  · rename_i h1 h2
    have h1 : k < cnt := Int.ofNat_lt.mp (of_decide_eq_true h1)
    obtain ⟨i, rfl⟩ := pos_succ h2
    have S := mo_step okq hq h1
    have hg := mo_group hK (t := t.sPend (some p0)) ⟨hn.lo, hn.rw, hn.ex, hn.rx⟩ hnx J S
    have ha := fun a n J => mo_above hK (t := t.sPend (some p0)) (nx := n) (a := a) J S
    refine call_of3 hg rfl fun a' J' => ?_
    repeat' (walk_at "stj")
    refine call_eq (ha a'.1 a'.2 J'.2) rfl ?_
    walk_at "stjs"
    refine ⟨fsOf t p0 n t.rows.length cnt ps (k + 1) (above (runs q (above q.rows (i + 1))).1.rows (runs q (above q.rows (i + 1))).2), ⟨rfl, rfl, rfl, rfl, rfl, rfl, rfl, rfl, rfl, rfl, rfl, rfl, trivial⟩, .mk a'.1 a'.2 _ _ (k + 1) (Nat.le_trans hnx J'.1) h1 J'.2 S.ok S.eq, Nat.sub_lt_sub_left h1 (Nat.lt_succ_self k)⟩
  · rename_i h2
    refine call_eq (hE (.inr (not_pos h2))) rfl ?_
    walk_at "stjs"
    exact ⟨(a, n1), rfl, rfl, rfl, h0, hnx, by rw [← hF (.inr (not_pos h2))]; exact J⟩
  · rename_i h1
    have h1 : cnt - k = 0 := Nat.sub_eq_zero_of_le (Int.ofNat_le.mp (Int.not_lt.mp (of_decide_eq_false h1)))
    refine call_eq (hE (.inl h1)) rfl ?_
    walk_at "stjs"
    exact ⟨(a, n1), rfl, rfl, rfl, h0, hnx, by rw [← hF (.inl h1)]; exact J⟩

theorem pend_eta {t : TS} {p0 : Int} (h : t.pend = some p0) : (t.sPend (some p0)) = t := by induction t; cases h; rfl
theorem c_undo {c} (hK : KOk c) {t nx} {p : Pv} {p0 : Int} {n cnt : Nat} {ch : Bool} (hp : (t.begun ch).pend = some p0) (hn : Nx (t.begun ch) nx) (I : Is (t.begun ch).cr p) (hS : p0 = (n : Nat)) (hd : ∀ a b, (t.begun ch).eq a = some b → 0 ≤ b ∧ b < a) (hnr : n ≤ p.rows.length) (hr : p.rows.length ≤ 2 ^ 22) (ok : TurnsOk p cnt n) (hrt : (turns p cnt n).1.rows.length ≤ 2 ^ 22) (he : (t.begun ch).eqn ≤ 1000) (hr0 : t.rows.length ≤ 2 ^ 22) :
    FC c 38 13 (.ref 425) [.ins 353 14, .ins 751 6, .int (cnt : Nat), .bool ch] (E true t) nx (fun b o' nx' => ∃ a : Cr × Nat, b = .str (wordOf (t.begun ch) p0 false) ∧ o' = E true (((((t.begun ch).wc a.1).sPend (some ((turns p cnt n).2 : Nat))) : TS).ended a.2 p.rows.length ((turns p cnt n).2 : Nat)) ∧ nx' = a.2 + 1 ∧ above p.rows n ≠ 0 ∧ nx ≤ a.2 ∧ Is a.1 (turns p cnt n).1) (fun o' nx' => above p.rows n = 0 ∧ o' = E true (t.begun ch) ∧ nx' = nx) := by
  refine FC_K 60 hK (.cons (g_begin_undo hK) (.cons (g_undo_more hK) .nil)) ["undoing", "buffer", "count", "is_chained"] [] rfl (by kernel_rfl) .nil (by walk_at "binds") (by decide +kernel) (by decide +kernel) rfl rfl rfl ?_
  intro yd QR hQX hQR
  have hm := c_more hK (ps := false) hn I hS hd hnr hr ok hrt he
  rw [pend_eta hp] at hm
  repeat' (walk_at "st")
  refine call_eq (c_begin hK (ch := ch) hr0) rfl ?_
  have hch : (t.begun ch).cr = (t.begun ch).cr := rfl
  walk_at "sts"
  refine call_of3x hm rfl (fun a J => ?_) fun o' nx' q => useX hQX q
  walk_at "sts"
  exact ⟨a, rfl, rfl, rfl, J⟩

theorem c_only {c} (hK : KOk c) {t nx} {p : Pv} {p0 : Int} {n cnt : Nat} {ch : Bool} (hp : (t.begun ch).pend = some p0) (hn : Nx (t.begun ch) nx) (I : Is (t.begun ch).cr p) (hS : Skip (t.begun ch).eq p0 (n : Nat)) (hd : ∀ a b, (t.begun ch).eq a = some b → 0 ≤ b ∧ b < a) (hnr : n ≤ p.rows.length) (hr : p.rows.length ≤ 2 ^ 22) (ok : TurnsOk p cnt n) (hrt : (turns p cnt n).1.rows.length ≤ 2 ^ 22) (he : (t.begun ch).eqn ≤ 1000) (hr0 : t.rows.length ≤ 2 ^ 22) :
    FC c 38 13 (.ref 432) [.ins 353 14, .ins 751 6, .int (cnt : Nat), .bool ch] (E true t) nx (fun b o' nx' => ∃ a : Cr × Nat, b = .str (wordOf (t.begun ch) p0 true) ∧ o' = E true (((((t.begun ch).wc a.1).sPend (some ((turns p cnt n).2 : Nat))) : TS).ended a.2 p.rows.length ((turns p cnt n).2 : Nat)) ∧ nx' = a.2 + 1 ∧ above p.rows n ≠ 0 ∧ nx ≤ a.2 ∧ Is a.1 (turns p cnt n).1) (fun o' nx' => above p.rows n = 0 ∧ o' = E true (t.begun ch) ∧ nx' = nx) := by
  refine FC_K 60 hK (.cons (g_begin_undo hK) (.cons (g_undo_more hK) .nil)) ["undoing", "buffer", "count", "is_chained"] [] rfl (by kernel_rfl) .nil (by walk_at "binds") (by decide +kernel) (by decide +kernel) rfl rfl rfl ?_
  intro yd QR hQX hQR
  have hm := c_more hK (ps := true) hn I hS hd hnr hr ok hrt he
  rw [pend_eta hp] at hm
  repeat' (walk_at "st")
  refine call_eq (c_begin hK (ch := ch) hr0) rfl ?_
  walk_at "sts"
  refine call_of3x hm rfl (fun a J => ?_) fun o' nx' q => useX hQX q
  walk_at "sts"
  exact ⟨a, rfl, rfl, rfl, J⟩

theorem E_pendo {t : TS} {v : Option Int} : upd (E true t) 14 (.ns (setF "pending" (oV v) (ugF t))) = E true (t.sPend v) := E_upd rfl (by decide) rfl rfl
theorem getD_none (m : Int → Option Int) (i : Int) : (eqV m i).getD .none = oV (m i) := by
  unfold eqV oV; cases m i <;> rfl
set_option tactic.hygienic true in
theorem c_goon {c} (hK : KOk c) {t nx} (hd : ∀ a b, t.eq a = some b → 0 ≤ b ∧ b < a) (hr : t.rows.length ≤ 2 ^ 23) :
    FC c 38 3 (.ref 439) [.ins 353 14, .ins 276 12] (E true t) nx (fun b o' nx' => b = .none ∧ o' = E true (t.sPend (t.eq (t.top : Nat))) ∧ nx' = nx) (fun _ _ => False) := by
  refine FC_K 60 hK (.cons (g_IN_REGION hK) (.cons (g_trimmed_count hK) .nil)) ["undoing", "history"] [] rfl (by kernel_rfl) .nil (by walk_at "binds") (by decide +kernel) (by decide +kernel) rfl rfl rfl ?_
  intro yd QR hQX hQR
  repeat' (walk_at "st")
  refine call_eq (c_trim hK hr) rfl ?_
  have hd0 := hd (t.top : Nat)
  walk_at "stsq"
  rw [getD_none]
  refine put_as E_pendo ?_
  generalize t.eq (t.top : Nat) = v at hQR hd0 ⊢
  walk_at "stsq"
  induction v with
  | none =>
    walk_at "stsq"
    exact useQ hQR ⟨rfl, rfl, rfl⟩
  | some j =>
    walk_at "stsq"
    · rename_i h
      have : j = -1 := by simpa using h
      have := (hd0 _ rfl).1
      lia
    · exact useQ hQR ⟨rfl, rfl, rfl⟩

noncomputable def Pv.topN (p : Pv) : Nat := above p.rows p.rows.length
noncomputable def Pv.bnd (p : Pv) : Pv := { p with rows := bndS p.rows }
noncomputable def redoR (p : Pv) : Pv × Nat := runs p.bnd (above p.bnd.rows p.topN)
noncomputable def redoP (p : Pv) : Pv := { (redoR p).1 with rows := (redoR p).1.rows.take (redoR p).2, noted := p.noted }
noncomputable def redoM (p : Pv) (m : Int → Option Int) : Int → Option Int := fun x => if x = (p.topN : Nat) then none else m x
noncomputable def redos (g : Bool) : Nat → Pv → (Int → Option Int) → Option Int → Bool × Pv × (Int → Option Int) × Option Int
  | 0, p, m, d => (true, p, m, d)
  | k + 1, p, m, d => match m (p.topN : Nat) with
    | none => (false, p, m, d)
    | some _ => match g with
      | true => redos g k (redoP p) (redoM p m) (redoM p m ((redoP p).topN : Nat))
      | false => redos g k p m (m (p.topN : Nat))
noncomputable def RedosOk (g : Bool) : Nat → Pv → (Int → Option Int) → Prop
  | 0, p, m => True
  | k + 1, p, m => p.rows.length ≤ 2 ^ 22 ∧ ((m (p.topN : Nat)).isSome = true → match g with
      | true => RunOk p.bnd (above p.bnd.rows p.topN) ∧ (redoR p).2 ≤ (redoR p).1.rows.length ∧ (redoR p).1.rows.length ≤ 2 ^ 22 ∧ RedosOk g k (redoP p) (redoM p m)
      | false => RedosOk g k p m)
theorem redoM_ok {p : Pv} {m : Int → Option Int} (hd : ∀ a b, m a = some b → 0 ≤ b ∧ b < a) : ∀ a b, redoM p m a = some b → 0 ≤ b ∧ b < a := fun a b e => by
  unfold redoM at e
  split at e
  · cases e
  · exact hd a b e
theorem redos_none {g : Bool} {k : Nat} {p : Pv} {m : Int → Option Int} {d : Option Int} (h : m (p.topN : Nat) = none) : redos g (k + 1) p m d = (false, p, m, d) := by
  rw [redos.eq_def]; dsimp only; rw [h]
theorem redos_true {k : Nat} {p : Pv} {m : Int → Option Int} {d : Option Int} {j : Int} (h : m (p.topN : Nat) = some j) : redos true (k + 1) p m d = redos true k (redoP p) (redoM p m) (redoM p m ((redoP p).topN : Nat)) := by
  rw [redos.eq_def]; dsimp only; rw [h]
theorem redos_false {k : Nat} {p : Pv} {m : Int → Option Int} {d : Option Int} {j : Int} (h : m (p.topN : Nat) = some j) : redos false (k + 1) p m d = redos false k p m (m (p.topN : Nat)) := by
  rw [redos.eq_def]; dsimp only; rw [h]
noncomputable def TS.red (t : TS) (a : Cr) (r : Nat) (m : Int → Option Int) (d : Option Int) : TS := { t.wc a with rid := r, eq := m, pend := d }
theorem E_pope {t : TS} {i : Int} : upd (E true t) 15 (.imap (updI (eqV t.eq) i none) t.eqn) = E true (t.sEq (fun b => if b = i then none else t.eq b)) := by
  have : updI (eqV t.eq) i none = eqV (fun b => if b = i then none else t.eq b) := by
    funext b
    show (if b = i then none else (t.eq b).map V.int) = Option.map V.int (if b = i then none else t.eq b)
    split <;> rfl
  rw [this]
  exact E_upd rfl (by decide) rfl rfl
theorem redless {t : TS} {nx : Nat} {r : List Row} {v : Option Int} (hx : t.ex (rowsAt t) = none) (h : 19 ≤ nx) {j : Nat} {x : MO} (e : E true (((t.rd nx).sRows r).sNoted v) j = some x) :
    upd (upd (upd (E true t) nx (.list (r.map rowV))) 12 (.ns (setF "rows" (.ref nx) (ulF t)))) 12 (.ns (setF "noted_tick" (oV v) (setF "rows" (.ref nx) (ulF t)))) j = some x := by
  by_cases h12 : j = 12
  · subst h12
    unfold upd
    rw [if_pos rfl, ← e]
    have hat : rowsAt (((t.rd nx).sRows r).sNoted v) = nx := rd_at (t := t) h
    show _ = some (MO.ns (ulF (((t.rd nx).sRows r).sNoted v)))
    unfold ulF; rw [hat]; rfl
  · have e2 : E true ((t.rd nx).sRows r) j = some x := by
      rw [← e]
      have hat : tab true (((t.rd nx).sRows r).sNoted v) = (tab true ((t.rd nx).sRows r)).set 12 (some (.ns (ulF (((t.rd nx).sRows r).sNoted v)))) := rfl
      unfold E
      rw [hat, List.getElem?_set, if_neg (Ne.symm h12)]
      rfl
    have := rd_less (r := r) hx h e2
    unfold upd at this ⊢
    rw [if_neg h12] at this ⊢
    rw [if_neg h12]
    exact this
noncomputable def Cr.bnd (a : Cr) : Cr := { a with rows := bndS a.rows }
theorem bndS_le (l : List Row) : l.length ≤ (bndS l).length := by
  unfold bndS; split <;> simp
theorem max_one (n : Nat) : (if ((n : Nat) : Int) > 1 then ((n : Nat) : Int) else 1) = ((max 1 n : Nat) : Int) := by split <;> lia
noncomputable def reL (cnt : Nat) : List (Str × V) := [("own", .ins 276 12), ("count", .int (cnt : Nat)), ("buffer", .ins 751 6), ("undoing", .ins 353 14)]
noncomputable def reL2 (q : Pv) (i cnt : Nat) : List (Str × V) := ("behind", .int (q.topN : Nat)) :: ("turn", .int (i : Nat)) :: reL cnt
inductive ReI (t : TS) (nx cnt : Nat) (R : Bool × Pv × (Int → Option Int) × Option Int) (i : Nat) : St → Prop
  | mk (a : Cr) (r n1 : Nat) (q : Pv) (m : Int → Option Int) (d : Option Int) (hnx : nx ≤ n1) (J : Is a q) (N : Nx (t.red a r m d) n1) (hm : ∀ a b, m a = some b → 0 ≤ b ∧ b < a) (ok : RedosOk (decide (0 < cnt)) (max 1 cnt - i) q m)
      (hq : redos (decide (0 < cnt)) (max 1 cnt - i) q m d = R) : ReI t nx cnt R i ⟨reL cnt, E true (t.red a r m d), n1⟩
inductive ReJ (t : TS) (n1 cnt i : Nat) (q : Pv) (m : Int → Option Int) (d : Option Int) : St → Prop
  | mk (a : Cr) (n : Nat) (hn : n1 ≤ n) (J : Is a (redoP q)) : ReJ t n1 cnt i q m d ⟨reL2 q i cnt, E true (t.red a (n - 18) (redoM q m) d), n + 1⟩
theorem red_rows {t : TS} {a : Cr} {r : Nat} {m : Int → Option Int} {d : Option Int} : (t.red a r m d).sRows (bndS (t.red a r m d).rows) = t.red a.bnd r m d := by unfold TS.sRows TS.red TS.wc Cr.bnd; rfl
theorem red_wc {t : TS} {a b : Cr} {r : Nat} {m : Int → Option Int} {d : Option Int} : (t.red a r m d).wc b = t.red b r m d := by induction t; rfl
theorem red_pend {t : TS} {a : Cr} {r : Nat} {m : Int → Option Int} {d e : Option Int} : (t.red a r m d).sPend e = t.red a r m e := by induction t; rfl
section
variable {c : Cx} {t : TS} {a : Cr} {r n1 : Nat} {q : Pv} {m : Int → Option Int} {d : Option Int}
theorem re_top (J : Is a q) : (t.red a r m d).top = q.topN := by show above a.rows a.rows.length = _; rw [J.rows]; rfl
theorem re_len (J : Is a q) {n : Nat} (h : q.rows.length ≤ 2 ^ 22) (hn : 2 ^ 22 ≤ n) : (t.red a r m d).rows.length ≤ n := by show a.rows.length ≤ n; rw [J.rows]; exact Nat.le_trans h hn
theorem re_trim (hK : KOk c) (J : Is a q) (h : q.rows.length ≤ 2 ^ 22) : FC c 38 2 (.ref 364) [.ins 276 12] (E true (t.red a r m d)) n1 (fun b o' nx' => b = .int (q.topN : Nat) ∧ o' = E true (t.red a r m d) ∧ nx' = n1) (fun _ _ => False) := by
  have := c_trim hK (t := t.red a r m d) (nx := n1) (re_len J h (by decide))
  rw [re_top J] at this; exact this
theorem re_bnd (hK : KOk c) (J : Is a q) (h : q.rows.length ≤ 2 ^ 22) : FC c 38 2 (.ref 217) [.ins 276 12] (E true (t.red a r m d)) n1 (fun b o' nx' => b = .none ∧ o' = E true (t.red a.bnd r m d) ∧ nx' = n1) (fun _ _ => False) := by
  have := c_boundary hK (t := t.red a r m d) (nx := n1) (re_len J h (by decide))
  rw [red_rows] at this; exact this
theorem re_group (hK : KOk c) (N : Nx (t.red a r m d) n1) (J : Is a q) (h : q.rows.length ≤ 2 ^ 22) (ok : RunOk q.bnd (above q.bnd.rows q.topN)) : FC c 38 11 (.ref 336) [.ins 751 6, .ref (rowsAt (t.red a.bnd r m d)), .int (q.topN : Nat)] (E true (t.red a.bnd r m d)) n1
    (fun b o' nx' => ∃ a' : Cr × Nat, b = .int ((redoR q).2 : Nat) ∧ o' = E true (t.red a'.1 r m d) ∧ nx' = a'.2 ∧ n1 ≤ a'.2 ∧ Is a'.1 (redoR q).1) (fun _ _ => False) :=
  (c_group hK (t := t.red a.bnd r m d) (nx := n1) (p := q.bnd) (k := q.topN) ⟨N.lo, N.rw, N.ex, N.rx⟩ ⟨J.gap, J.zv, J.pt1, J.pt2, J.len, by show bndS a.rows = bndS q.rows; rw [J.rows], J.noted, J.tk, J.sv⟩
    (Nat.le_trans (above_le _ _) (bndS_le _)) (Nat.le_trans (bndS_len _) (Nat.le_trans (Nat.add_le_add_right h 1) (by decide))) ok).imp (fun b o' nx' hp_ => by obtain ⟨a', e1, e2, e3⟩ := hp_; exact ⟨a', e1, by rw [e2, red_wc], e3⟩) fun _ _ q => q
theorem re_goon (hK : KOk c) (J : Is a q) (h : q.rows.length ≤ 2 ^ 22) (hm : ∀ a b, m a = some b → 0 ≤ b ∧ b < a) : FC c 38 3 (.ref 439) [.ins 353 14, .ins 276 12] (E true (t.red a r m d)) n1 (fun b o' nx' => b = .none ∧ o' = E true (t.red a r m (m (q.topN : Nat))) ∧ nx' = n1) (fun _ _ => False) := by
  have := c_goon hK (t := t.red a r m d) (nx := n1) hm (re_len J h (by decide))
  rw [re_top J, red_pend] at this; exact this
theorem re_none (h : (true ^^ (eqV m (q.topN : Nat)).isSome) = true) : m (q.topN : Nat) = none := by
  have h : (eqV m (q.topN : Nat)).isSome = false := by simpa using h
  cases e : m (q.topN : Nat) with
  | none => rfl
  | some j => rw [eqV, e] at h; cases h
theorem re_some (h : (m (q.topN : Nat)) ≠ none) : ∃ j, m (q.topN : Nat) = some j ∧ eqV m (q.topN : Nat) = some (.int j) := by
  cases e : m (q.topN : Nat) with
  | none => exact absurd e h
  | some j => exact ⟨j, rfl, by rw [eqV, e]; rfl⟩
structure ReS (g : Bool) (k : Nat) (q : Pv) (m : Int → Option Int) (d : Option Int) (R : Bool × Pv × (Int → Option Int) × Option Int) : Prop where
  run : g = true → RunOk q.bnd (above q.bnd.rows q.topN) ∧ (redoR q).1.rows.length ≤ 2 ^ 22 ∧ (redoP q).rows.length ≤ 2 ^ 22 ∧ RedosOk g k (redoP q) (redoM q m) ∧ redos g k (redoP q) (redoM q m) (redoM q m ((redoP q).topN : Nat)) = R
  not : g = false → RedosOk g k q m ∧ redos g k q m (m (q.topN : Nat)) = R
theorem re_step {g : Bool} {k : Nat} {R : Bool × Pv × (Int → Option Int) × Option Int} {j : Int} (ej : m (q.topN : Nat) = some j) (ok : RedosOk g (k + 1) q m) (hq : redos g (k + 1) q m d = R) : ReS g k q m d R := by
  have okq := ok.2 (by rw [ej]; rfl)
  induction g with
  | true =>
    rw [redos_true ej] at hq
    obtain ⟨o1, o2, o3, o4⟩ := okq
    exact ⟨fun _ => ⟨o1, o3, Nat.le_trans (by show ((redoR q).1.rows.take _).length ≤ _; rw [List.length_take]; exact Nat.min_le_right _ _) o3, o4, hq⟩, fun q => nomatch q⟩
  | false =>
    rw [redos_false ej] at hq
    exact ⟨fun q => (nomatch q), fun _ => ⟨okq, hq⟩⟩
theorem re_pop : upd (E true (t.red a r m d)) 15 (.imap (updI (eqV m) (q.topN : Nat) none) t.eqn) = E true (t.red a r (redoM q m) d) :=
  (E_pope (t := t.red a r m d)).trans (congrArg (E true) (by unfold TS.sEq TS.red TS.wc redoM; rfl))
theorem re_cut {b : Cr} {n : Nat} (N : Nx (t.red a r m d) n1) (hn : n1 ≤ n) (J : Is a q) (J' : Is b (redoR q).1) : ∀ j x, E true (t.red ⟨b.pt, b.zv, b.tk, b.ck, b.sv, b.gs, b.ge, b.cells, (redoR q).1.rows.take (redoR q).2, a.noted⟩ (n - 18) (redoM q m) d) j = some x →
    upd (upd (upd (E true (t.red b r (redoM q m) d)) n (.list (((redoR q).1.rows.take (redoR q).2).map rowV))) 12 (.ns (setF "rows" (.ref n) (ulF (t.red b r (redoM q m) d))))) 12 (.ns (setF "noted_tick" (oV a.noted) (setF "rows" (.ref n) (ulF (t.red b r (redoM q m) d))))) j = some x := fun j x e =>
  redless (t := t.red b r (redoM q m) d) (r := (redoR q).1.rows.take (redoR q).2) (v := a.noted) N.rx (Nat.le_trans N.lo hn) (by rw [← e]; congr 1)
theorem re_is {b : Cr} (J : Is a q) (J' : Is b (redoR q).1) : Is ⟨b.pt, b.zv, b.tk, b.ck, b.sv, b.gs, b.ge, b.cells, (redoR q).1.rows.take (redoR q).2, a.noted⟩ (redoP q) := ⟨J'.gap, J'.zv, J'.pt1, J'.pt2, J'.len, rfl, J.noted, J'.tk, J'.sv⟩
theorem re_nx {b : Cr} {n : Nat} {m' : Int → Option Int} {d' : Option Int} (N : Nx (t.red a r m d) n1) (hn : n1 ≤ n) : Nx (t.red b (n - 18) m' d') (n + 1) := by
  have hat : rowsAt (t.red b (n - 18) m' d') = n := rd_at (t := t) (Nat.le_trans N.lo hn)
  refine ⟨Nat.le_trans N.lo (Nat.le_succ_of_le hn), by rw [hat]; exact Nat.lt_succ_self _, fun k hk => N.ex k (Nat.le_trans (Nat.le_succ_of_le hn) hk), ?_⟩
  show t.ex (rowsAt (t.red b (n - 18) m' d')) = none
  rw [hat]; exact N.ex _ hn
end
set_option tactic.hygienic true in
theorem c_redo {c} (hK : KOk c) {t nx} {p : Pv} {cnt : Nat} (hn : Nx t nx) (I : Is t.cr p) (hc : cnt ≤ 100) (hd : ∀ a b, t.eq a = some b → 0 ≤ b ∧ b < a) (ok : RedosOk (decide (0 < cnt)) (max 1 cnt) p t.eq) (he : t.eqn ≤ 1000) (hr0 : t.rows.length ≤ 2 ^ 22) :
    FC c 38 13 (.ref 446) [.ins 353 14, .ins 751 6, .int (cnt : Nat)] (E true t) nx (fun b o' nx' => ∃ a : Cr × Nat × Nat, b = .str "Redo" ∧ o' = E true (t.red a.1 a.2.1 (redos (decide (0 < cnt)) (max 1 cnt) p t.eq t.pend).2.2.1 (redos (decide (0 < cnt)) (max 1 cnt) p t.eq t.pend).2.2.2) ∧ nx' = a.2.2 ∧ (redos (decide (0 < cnt)) (max 1 cnt) p t.eq t.pend).1 = true ∧ nx ≤ a.2.2 ∧ Is a.1 (redos (decide (0 < cnt)) (max 1 cnt) p t.eq t.pend).2.1 ∧ Nx (t.red a.1 a.2.1 (redos (decide (0 < cnt)) (max 1 cnt) p t.eq t.pend).2.2.1 (redos (decide (0 < cnt)) (max 1 cnt) p t.eq t.pend).2.2.2) a.2.2) (fun o' nx' => ∃ a : Cr × Nat × Nat, o' = E true (t.red a.1 a.2.1 (redos (decide (0 < cnt)) (max 1 cnt) p t.eq t.pend).2.2.1 (redos (decide (0 < cnt)) (max 1 cnt) p t.eq t.pend).2.2.2) ∧ nx' = a.2.2 ∧ (redos (decide (0 < cnt)) (max 1 cnt) p t.eq t.pend).1 = false ∧ nx ≤ a.2.2 ∧ Is a.1 (redos (decide (0 < cnt)) (max 1 cnt) p t.eq t.pend).2.1 ∧ Nx (t.red a.1 a.2.1 (redos (decide (0 < cnt)) (max 1 cnt) p t.eq t.pend).2.2.1 (redos (decide (0 < cnt)) (max 1 cnt) p t.eq t.pend).2.2.2) a.2.2) := by
  refine FC_K 60 hK (.cons (g_go_on_behind_redo hK) (.cons (g_max hK) (.cons (g_range hK) (.cons (g_trimmed_count hK) (.cons (g_undo_group hK) .nil))))) ["undoing", "buffer", "count"] [] rfl (by kernel_rfl) .nil (by walk_at "binds") (by decide +kernel) (by decide +kernel) rfl rfl rfl ?_
  intro yd QR hQX hQR
  generalize hR : redos (decide (0 < cnt)) (max 1 cnt) p t.eq t.pend = R at hQR hQX
  walk_at "stjs"
  refine ⟨max 1 cnt, max_one cnt, by lia, ReI t nx cnt R, ⟨reL cnt, ⟨rfl, rfl, rfl, rfl, trivial⟩, .mk t.cr t.rid nx p t.eq t.pend (Nat.le_refl _) I hn hd ok hR⟩, ?_, ?_⟩
  · rintro i σ2 hi (@⟨a, r, n1, q, m, d, hnx, J, N, hm, okq, hq⟩)
    obtain ⟨k, hk, hk2⟩ : ∃ k, max 1 cnt - i = k + 1 ∧ max 1 cnt - (i + 1) = k := ⟨max 1 cnt - i - 1, by lia, by lia⟩
    rw [hk] at okq hq
    have hql := okq.1
    have htr := re_trim (t := t) (r := r) (n1 := n1) (m := m) (d := d) hK J hql
    repeat' (walk_at "stj")
    refine call_eq htr rfl ?_
    repeat' (walk_at "stj")
    first | refine IfOr.one ?_ | refine AsgOr.one ?_ | refine Or.inl ?_
    walk_at "stjs"
    · rename_i h
      rw [redos_none (re_none (m := m) h)] at hq
      subst hq
      exact L_raise hK rfl rfl (useX hQX ⟨(a, r, n1), rfl, rfl, rfl, hnx, J, N⟩)
    rename_i h
    obtain ⟨j, ej, ejV⟩ := re_some (q := q) (m := m) (fun z => by rw [show (t.red a r m d).eq = m from rfl, eqV, z] at h; cases h)
    have S := re_step ej okq hq
    rw [← hk2] at S
    by_cases hg : 0 < cnt
    · obtain ⟨s1, s2, s3, s4, s5⟩ := S.run (decide_eq_true hg)
      have hbd := re_bnd (t := t) (r := r) (n1 := n1) (m := m) (d := d) hK J hql
      have hgr := re_group hK N J hql s1
      have hgo := fun a2 n2 J2 => re_goon (t := t) (a := a2) (r := n2 - 18) (n1 := n2 + 1) (d := d) hK J2 s3 (redoM_ok (p := q) hm)
      have hit : decide ((i : Int) < (cnt : Nat)) ≠ false := fun z => of_decide_eq_false z (by lia)
      have he24 : t.eqn ≤ 2 ^ 24 := Nat.le_trans he (by decide)
      first | refine IfOr.two (ReJ t n1 cnt i q m d) ?_ ?_ | refine AsgOr.two (ReJ t n1 cnt i q m d) ?_ ?_
      · walk_at "sts"
        · refine call_eq hbd rfl ?_
          walk_at "sts"
          rw [Int.sub_zero]
          refine call_of3 hgr rfl fun a' J' => ?_
          obtain ⟨a', n'⟩ := a'
          obtain ⟨hn', J'⟩ := J'
          have hcut := re_cut N hn' J J'
          have hm12 : upd (E true (t.red a' r (redoM q m) d)) n' (.list (((redoR q).1.rows.take (redoR q).2).map rowV)) 12 = some (.ns (ulF (t.red a' r (redoM q m) d))) := by
            have := N.lo
            unfold upd; rw [if_neg (fun q => by lia)]; rfl
          have e1 : (t.red a' r (redoM q m) d).rows = (redoR q).1.rows := J'.rows
          have hl24 : (((redoR q).1.rows.take (redoR q).2).map rowV).length ≤ 2 ^ 24 := by rw [List.length_map]; exact Nat.le_trans s3 (by decide)
          walk_at "sts"
          refine ⟨.int j, ejV, put_as re_pop ?_⟩
          generalize hT : t.red a' r (redoM q m) d = T at hm12 e1 hcut ⊢
          walk_at "stjs"
          rw [pick_map, pick_to, e1]
          refine Or.inr (put_as rfl ?_)
          repeat' (walk_at "st")
          refine put_as rfl ?_
          repeat' (walk_at "st")
          refine put_as rfl ?_
          walk_at "sts"
          exact ⟨reL2 q i cnt, _, n' + 1, ⟨rfl, rfl, rfl, rfl, rfl, rfl, trivial⟩, hcut, Nat.le_refl _, .mk _ n' hn' (re_is J J')⟩
        · rename_i h
          exact absurd h hit
      · rintro σ1 (@⟨a2, n2, hn2, J2⟩)
        repeat' (walk_at "st")
        refine call_eq (hgo a2 n2 J2) rfl ?_
        walk_at "sts"
        exact ⟨reL cnt, ⟨rfl, rfl, rfl, rfl, trivial⟩, .mk a2 (n2 - 18) (n2 + 1) _ _ _ (Nat.le_trans hnx (Nat.le_succ_of_le hn2)) J2 (re_nx N hn2) (redoM_ok hm) s4 s5⟩
    · obtain ⟨s4, s5⟩ := S.not (decide_eq_false hg)
      have hgo := re_goon (t := t) (r := r) (n1 := n1) (d := d) hK J hql hm
      have hit : decide ((i : Int) < (cnt : Nat)) ≠ true := fun z => hg (by have := of_decide_eq_true z; lia)
      have N2 : Nx (t.red a r m (m (q.topN : Nat))) n1 := ⟨N.lo, N.rw, N.ex, N.rx⟩
      first | refine IfOr.one ?_ | refine AsgOr.one ?_ | refine Or.inl ?_
      walk_at "sts"
      · rename_i h
        exact absurd h hit
      refine call_eq hgo rfl ?_
      walk_at "sts"
      exact ⟨reL cnt, ⟨rfl, rfl, rfl, rfl, trivial⟩, .mk a r n1 q m _ hnx J N2 hm s4 s5⟩
  · rintro σ2 (@⟨a, r, n1, q, m, d, hnx, J, N, hm, okq, hq⟩)
    rw [Nat.sub_self] at hq
    subst hq
    walk_at "sts"
    exact ⟨(a, r, n1), rfl, rfl, rfl, rfl, hnx, J, N⟩

noncomputable def un (s : Int) : Row → Row
  | .unm _ => .unm s
  | r => r
noncomputable def und (y : List Int) : Row → List Int
  | .ins a b => y.take (a - 1).toNat ++ y.drop (b - 1).toNat
  | .del a cs _ => y.take (a - 1).toNat ++ cs ++ y.drop (a - 1).toNat
  | _ => y
noncomputable def isTx : Row → Bool
  | .ins _ _ => true
  | .del _ _ _ => true
  | _ => false
noncomputable def hdU : List Row → Bool
  | .unm _ :: _ => true
  | _ => false
inductive Bk (N : Nat) (x : List Int) : List Row → List Int → Prop
  | nil : x.length ≤ N → Bk N x [] x
  | snoc {S r y} : r ≠ .bnd → okR y r → y.length ≤ N → Bk N x S (und y r) → Bk N x (S ++ [r]) y
theorem snoc_inj {α : Type} {a b : List α} {x y : α} (h : a ++ [x] = b ++ [y]) : a = b ∧ x = y := by
  have := List.append_inj' h rfl
  exact ⟨this.1, List.head_eq_of_cons_eq this.2⟩
theorem Bk.inv {N : Nat} {x y : List Int} {S : List Row} {r : Row} (h : Bk N x (S ++ [r]) y) : r ≠ .bnd ∧ okR y r ∧ y.length ≤ N ∧ Bk N x S (und y r) := by
  generalize e : S ++ [r] = T at h
  induction h with
  | nil => induction S <;> cases e
  | snoc h1 h2 h3 h4 => obtain ⟨rfl, rfl⟩ := snoc_inj e; exact ⟨h1, h2, h3, h4⟩
theorem Bk.nil_inv {N : Nat} {x y : List Int} (h : Bk N x [] y) : y = x := by
  generalize e : ([] : List Row) = T at h
  induction h with
  | nil => rfl
  | snoc => exact absurd e (by simp)
theorem Bk.len {N : Nat} {x y : List Int} {S : List Row} (h : Bk N x S y) : y.length ≤ N := by
  induction h with
  | nil h => exact h
  | snoc _ _ h _ => exact h
theorem Bk.mono {N M : Nat} {x y : List Int} {S : List Row} (h : Bk N x S y) (l : N ≤ M) : Bk M x S y := by
  induction h with
  | nil h => exact .nil (Nat.le_trans h l)
  | snoc h1 h2 h3 _ ih => exact .snoc h1 h2 (Nat.le_trans h3 l) ih
theorem okR_un {s : Int} {y : List Int} {r : Row} (h : okR y r) : okR y (un s r) := by induction r <;> exact h

structure Ng (N : Nat) (T : List Row) (y x : List Int) (m : Bool) : Prop where
  bk : Bk N x T y
  tx : ∃ S r, T = S ++ [r] ∧ isTx r = true
  hd : hdU T = !m
theorem hdU_app {T S : List Row} (h : T ≠ []) : hdU (T ++ S) = hdU T := by
  induction T with
  | nil => exact absurd rfl h
  | cons r T => induction r <;> rfl

structure Ab (p : Pv) (x : List Int) (K : List Row) (m : Bool) : Prop where
  tx : p.x = x
  ro : p.rows = K.map (un p.sv)
  mo : p.m = m
  tk : p.sv ≤ p.tk
  nt : ∀ t, p.noted = some t → t ≤ p.sv ∧ (m = false → t < p.sv)
noncomputable def nS (m : Bool) (K : List Row) : List Row := match m with
  | true => K
  | false => K ++ [.unm 0]
theorem noteS_ab {p : Pv} {x : List Int} {K : List Row} {m : Bool} (a : Ab p x K m) : noteS p.rows p.noted p.m p.sv = (nS m K).map (un p.sv) := by
  unfold noteS nS
  rw [a.mo, a.ro]
  induction m with
  | true => exact if_neg fun q => nomatch q.1
  | false =>
    rw [if_pos ⟨rfl, fun q => absurd ((a.nt _ q).2 rfl) (Int.lt_irrefl _)⟩, List.map_append]; rfl
theorem noteI_un (s : Int) (K : List Row) (a m : Int) : noteI (K.map (un s)) a m = (noteI K a m).map (un s) := by
  rcases rows_cases K with rfl | ⟨K', r, rfl⟩
  · rfl
  · rw [List.map_append, List.map_singleton, noteI_app, noteI_app]
    induction r with
    | ins b c =>
      show (if c = a then _ else _) = List.map (un s) (if c = a then _ else _)
      split <;> simp [un]
    | _ => simp [un]
theorem noteT_nt {p : Pv} {x : List Int} {K : List Row} {m : Bool} (a : Ab p x K m) : ∀ t, noteT p.noted p.m p.sv = some t → t ≤ p.sv := fun t e => by
  unfold noteT at e
  split at e
  · obtain rfl := Option.some.inj e; exact Int.le_refl _
  · exact (a.nt t e).1
theorem tick_m {s t : Int} (h : s ≤ t) : decide (s < t + 1) = true := decide_eq_true (Int.lt_add_one_of_le h)
theorem goes_ab {p : Pv} {x : List Int} {K : List Row} {m : Bool} (a : Ab p x K m) (s e : Nat) (f : Bool) :
    Ab (p.goes s e f).tick (x.take s ++ x.drop e) (nS m K ++ [.del (s + 1 : Nat) ((x.drop s).take (e - s)) f]) true where
  tx := by rw [← a.tx]; rfl
  ro := by
    show noteS p.rows p.noted p.m p.sv ++ [Row.del (s + 1 : Nat) ((p.x.drop s).take (e - s)) f] = _
    rw [noteS_ab a, a.tx, List.map_append]; rfl
  mo := tick_m a.tk
  tk := Int.le_of_lt (Int.lt_add_one_of_le a.tk)
  nt := fun t e => ⟨noteT_nt a t e, fun q => nomatch q⟩
theorem comes_ab {p : Pv} {x : List Int} {K : List Row} {m : Bool} (a : Ab p x K m) (s : Nat) (w : List Int) :
    Ab (p.comes s w).tick (x.take s ++ w ++ x.drop s) (noteI (nS m K) (s + 1 : Nat) w.length) true where
  tx := by rw [← a.tx]; rfl
  ro := by
    show noteI (noteS p.rows p.noted p.m p.sv) (s + 1 : Nat) w.length = _
    rw [noteS_ab a, noteI_un]; rfl
  mo := tick_m a.tk
  tk := Int.le_of_lt (Int.lt_add_one_of_le a.tk)
  nt := fun t e => ⟨noteT_nt a t e, fun q => nomatch q⟩
theorem renR_un (s t : Int) (r : Row) : renR s t (un s r) = un t r := by
  induction r with
  | unm k => exact if_pos rfl
  | _ => rfl
theorem unm_ab {p : Pv} {x : List Int} {K : List Row} {m : Bool} (a : Ab p x K m) : Ab (p.exec (.unm p.sv)) x K false := by
  have e : p.exec (.unm p.sv) = { p with sv := p.tk, rows := p.rows.map (renR p.sv p.tk) } := if_pos rfl
  rw [e]
  refine ⟨a.tx, ?_, decide_eq_false (Int.lt_irrefl _), Int.le_refl _, fun t q => ?_⟩
  · show p.rows.map (renR p.sv p.tk) = _
    rw [a.ro, List.map_map]
    exact List.map_congr_left fun r _ => renR_un _ _ r
  · obtain ⟨h1, h2⟩ := a.nt t q
    have hm := a.mo
    induction m with
    | false => have := h2 rfl; have := a.tk; exact ⟨by show t ≤ p.tk; lia, fun _ => by show t < p.tk; lia⟩
    | true => have : p.sv < p.tk := of_decide_eq_true hm; exact ⟨by show t ≤ p.tk; lia, fun _ => by show t < p.tk; lia⟩

theorem take_mid {y : List Int} {s e : Nat} (h : s ≤ e) : y.take s ++ (y.drop s).take (e - s) ++ y.drop e = y := by
  rw [List.append_assoc]
  have : (y.drop s).take (e - s) ++ y.drop e = y.drop s := by
    have h2 : y.drop e = (y.drop s).drop (e - s) := by rw [List.drop_drop]; congr 1; lia
    rw [h2, List.take_append_drop]
  rw [this, List.take_append_drop]
theorem inv_del {y : List Int} {s e : Nat} {f : Bool} (h : s < e) (he : e ≤ y.length) (hN : y.length ≤ 1000) :
    okR (y.take s ++ y.drop e) (.del (s + 1 : Nat) ((y.drop s).take (e - s)) f) ∧ und (y.take s ++ y.drop e) (.del (s + 1 : Nat) ((y.drop s).take (e - s)) f) = y := by
  have hs : (y.take s).length = s := by rw [List.length_take]; lia
  have hl : ((y.drop s).take (e - s)).length = e - s := by rw [List.length_take, List.length_drop]; lia
  refine ⟨⟨s, rfl, by rw [List.length_append, hs]; lia, fun q => by rw [q] at hl; simp at hl; lia, by rw [hl]; lia⟩, ?_⟩
  show (y.take s ++ y.drop e).take _ ++ _ ++ (y.take s ++ y.drop e).drop _ = y
  rw [nat_pred, List.take_left' hs, List.drop_left' hs, take_mid (Nat.le_of_lt h)]
theorem inv_ins {y w : List Int} {s : Nat} {a : Nat} (ha : a ≤ s) (h : s ≤ y.length) (hw : w ≠ []) :
    okR (y.take s ++ w ++ y.drop s) (.ins (a + 1 : Nat) ((s + 1 : Nat) + (w.length : Int))) ∧ und (y.take s ++ w ++ y.drop s) (.ins (a + 1 : Nat) ((s + 1 : Nat) + (w.length : Int))) = und y (.ins (a + 1 : Nat) (s + 1 : Nat)) := by
  have hs : (y.take s).length = s := by rw [List.length_take]; lia
  have hw0 : 0 < w.length := List.length_pos_iff.mpr hw
  have e1 : ((s + 1 : Nat) : Int) + (w.length : Int) = ((s + w.length + 1 : Nat) : Int) := by lia
  rw [e1]
  refine ⟨⟨a, s + w.length, rfl, rfl, by lia, by simp only [List.length_append, hs]; lia⟩, ?_⟩
  show (y.take s ++ w ++ y.drop s).take _ ++ (y.take s ++ w ++ y.drop s).drop _ = y.take _ ++ y.drop _
  rw [nat_pred, nat_pred, nat_pred]
  have e2 : (y.take s ++ w ++ y.drop s).drop (s + w.length) = y.drop s := List.drop_left' (by rw [List.length_append, hs])
  have e3 : (y.take s ++ w ++ y.drop s).take a = y.take a := by
    rw [List.append_assoc, List.take_append_of_le_length (by lia), List.take_take, Nat.min_eq_left ha]
  rw [e2, e3]
theorem und_same {y : List Int} {s : Nat} : und y (.ins (s + 1 : Nat) (s + 1 : Nat)) = y := by
  show y.take _ ++ y.drop _ = y
  rw [List.take_append_drop]

noncomputable def EndB (D : List Row) : Prop := D = [] ∨ ∃ D', D = D' ++ [.bnd]
noncomputable def Ng0 (N : Nat) (T : List Row) (y x : List Int) (m0 m : Bool) : Prop := (T = [] ∧ y = x ∧ m = m0) ∨ Ng N T y x m0
theorem Ng0.bk {N : Nat} {T : List Row} {y x : List Int} {m0 m : Bool} (h : Ng0 N T y x m0 m) (hy : y.length ≤ N) : Bk N x T y := by
  rcases h with ⟨rfl, rfl, rfl⟩ | h
  · exact .nil hy
  · exact h.bk
theorem Bk.nS {N : Nat} {T : List Row} {y x : List Int} {m : Bool} (h : Bk N x T y) : Bk N x (nS m T) y := by
  induction m with
  | true => exact h
  | false => exact .snoc (fun q => nomatch q) trivial h.len h
theorem nS_app (D T : List Row) (m : Bool) : nS m (D ++ T) = D ++ nS m T := by
  induction m with
  | true => rfl
  | false => exact List.append_assoc ..
theorem hdU_nS {N : Nat} {T : List Row} {y x : List Int} {m0 m : Bool} (h : Ng0 N T y x m0 m) (r : Row) (hr : isTx r = true) : hdU (nS m T ++ [r]) = !m0 := by
  rcases h with ⟨rfl, rfl, rfl⟩ | h
  · induction m with
    | true => induction r <;> first | rfl | cases hr
    | false => rfl
  · have ht : T ≠ [] := by obtain ⟨S, r', rfl, _⟩ := h.tx; simp
    rw [← h.hd]
    induction m with
    | true => exact hdU_app ht
    | false => show hdU (T ++ [.unm 0] ++ [r]) = _; rw [List.append_assoc, hdU_app ht]
theorem nS_len (m : Bool) (T : List Row) : (nS m T).length ≤ T.length + 1 := by
  induction m with
  | true => exact Nat.le_succ _
  | false => simp [nS]
theorem noteI_end {D T : List Row} (hD : EndB D) (a m : Int) : noteI (D ++ T) a m = D ++ noteI T a m := by
  rcases rows_cases T with rfl | ⟨T', r, rfl⟩
  · rcases hD with rfl | ⟨D', rfl⟩
    · rfl
    · rw [List.append_nil, noteI_app]; rfl
  · rw [← List.append_assoc, noteI_app, noteI_app]
    induction r with
    | ins b c =>
      show (if c = a then _ else _) = D ++ (if c = a then _ else _)
      split <;> simp
    | _ => simp

inductive Tx (p : Pv) (y : List Int) : Pv → List Int → Prop
  | goes (s e : Nat) (f : Bool) : s < e → e ≤ y.length → Tx p y (p.goes s e f).tick (y.take s ++ y.drop e)
  | comes (s : Nat) (w : List Int) : s ≤ y.length → w ≠ [] → Tx p y (p.comes s w).tick (y.take s ++ w ++ y.drop s)
inductive Txd (N : Nat) (D T : List Row) (q : Pv) (y x : List Int) (m0 : Bool) : Prop
  | mk (T' : List Row) (a : Ab q y (D ++ T') true) (g : Ng N T' y x m0) (l : T'.length ≤ T.length + 2) : Txd N D T q y x m0
theorem tx_step {N : Nat} (hN : N ≤ 1000) {D T : List Row} (hD : EndB D) {p q : Pv} {y x y' : List Int} {m m0 : Bool} (a : Ab p y (D ++ T) m) (g : Ng0 N T y x m0 m) (hy : y.length ≤ N) (hy' : y'.length ≤ N) (h : Tx p y q y') : Txd N D T q y' x m0 := by
  induction h with
  | goes s e f h1 h2 =>
    have b := goes_ab a s e f
    rw [nS_app, List.append_assoc] at b
    obtain ⟨i1, i2⟩ := inv_del (f := f) h1 h2 (Nat.le_trans hy hN)
    refine ⟨_, b, ⟨.snoc (fun q => nomatch q) i1 hy' (by rw [i2]; exact (g.bk hy).nS), ⟨_, _, rfl, rfl⟩, hdU_nS g _ rfl⟩, ?_⟩
    rw [List.length_append]; exact Nat.succ_le_succ (nS_len m T)
  | comes s w h1 h2 =>
    have b := comes_ab a s w
    rw [nS_app, noteI_end hD] at b
    have new : ∀ S, Bk N x S y → Bk N x (S ++ [.ins (s + 1 : Nat) ((s + 1 : Nat) + (w.length : Int))]) (y.take s ++ w ++ y.drop s) := fun S hS => by
      obtain ⟨i1, i2⟩ := inv_ins (Nat.le_refl s) h1 h2
      exact .snoc (fun q => nomatch q) i1 hy' (by rw [i2, und_same]; exact hS)
    have plain : noteI (nS m T) (s + 1 : Nat) w.length = nS m T ++ [.ins (s + 1 : Nat) ((s + 1 : Nat) + (w.length : Int))] → Txd N D T (p.comes s w).tick (y.take s ++ w ++ y.drop s) x m0 := fun e => by
      rw [e] at b
      exact ⟨_, b, ⟨new _ (g.bk hy).nS, ⟨_, _, rfl, rfl⟩, hdU_nS g _ rfl⟩, by rw [List.length_append]; exact Nat.succ_le_succ (nS_len m T)⟩
    induction m with
    | false => exact plain (by show noteI (T ++ [.unm 0]) _ _ = _; rw [noteI_app]; rfl)
    | true =>
      rcases rows_cases T with rfl | ⟨T', r, rfl⟩
      · exact plain rfl
      induction r with
      | ins c d =>
        by_cases hd : d = ((s + 1 : Nat) : Int)
        · subst hd
          have e : noteI (nS true (T' ++ [.ins c (s + 1 : Nat)])) (s + 1 : Nat) w.length = T' ++ [.ins c ((s + 1 : Nat) + (w.length : Int))] := by
            show noteI (T' ++ [.ins c (s + 1 : Nat)]) _ _ = _
            rw [noteI_app]; exact if_pos rfl
          rw [e] at b
          rcases g with ⟨q, _⟩ | g
          · exact absurd q (by simp)
          refine hideG fun R_ k_ => ?_
          obtain ⟨_, ⟨k, e', rfl, q1, q2, q3⟩, _, k2⟩ := g.bk.inv
          refine k_ ?_
          clear k_
          obtain rfl : e' = s := by lia
          obtain ⟨i1, i2⟩ := inv_ins (a := k) (w := w) (Nat.le_of_lt q2) h1 h2
          refine ⟨_, b, ⟨.snoc (fun q => nomatch q) i1 hy' (by rw [i2]; exact k2), ⟨_, _, rfl, rfl⟩, ?_⟩, by simp⟩
          rw [← g.hd]
          cases T' with
          | nil => rfl
          | cons r T' => induction r <;> rfl
        · exact plain (by show noteI (T' ++ [.ins c d]) _ _ = _; rw [noteI_app]; exact if_neg hd)
      | bnd => exact plain (by show noteI (T' ++ [.bnd]) _ _ = _; rw [noteI_app]; rfl)
      | unm k => exact plain (by show noteI (T' ++ [.unm k]) _ _ = _; rw [noteI_app]; rfl)
      | del c cs f => exact plain (by show noteI (T' ++ [.del c cs f]) _ _ = _; rw [noteI_app]; rfl)
theorem exec_tx {p : Pv} {y : List Int} {r : Row} (hr : isTx r = true) (ok : okR y r) (hx : p.x = y) : Tx p y (p.exec r) (und y r) := by
  induction r with
  | ins a b =>
    obtain ⟨s, e, rfl, rfl, h1, h2⟩ := ok
    rw [exec_ins]
    have := Tx.goes (p := p) s e false h1 h2
    show Tx p y _ (y.take _ ++ y.drop _)
    rw [nat_pred, nat_pred]; exact this
  | del a cs f =>
    obtain ⟨s, rfl, h1, h2, h3⟩ := ok
    rw [exec_del]
    have := Tx.comes (p := p) s cs h1 h2
    show Tx p y _ (y.take _ ++ cs ++ y.drop _)
    rw [nat_pred]; exact this
  | _ => cases hr
noncomputable def flatB : List (List Row) → List Row
  | [] => []
  | S :: r => S ++ .bnd :: flatB r
theorem flatB_app : ∀ a b : List (List Row), flatB (a ++ b) = flatB a ++ flatB b
  | [], b => rfl
  | S :: a, b => by
    show S ++ .bnd :: flatB (a ++ b) = S ++ .bnd :: flatB a ++ flatB b
    rw [flatB_app a b, List.append_assoc]; rfl
theorem flatB_one (S : List Row) : flatB [S] = S ++ [.bnd] := rfl
theorem flatB_end (Ss : List (List Row)) : EndB (flatB Ss) := by
  rcases List.eq_nil_or_concat Ss with rfl | ⟨A, S, rfl⟩
  · exact .inl rfl
  · exact .inr ⟨flatB A ++ S, by rw [List.concat_eq_append, flatB_app, flatB_one, List.append_assoc]⟩
noncomputable def LastTx (S : List Row) : Prop := ∃ S' r, S = S' ++ [r] ∧ isTx r = true
structure Gd (N : Nat) (S : List Row) (y x : List Int) : Prop where
  bk : Bk N x S y
  tx : LastTx S
theorem Gd.mono {N M : Nat} {S : List Row} {y x : List Int} (h : Gd N S y x) (l : N ≤ M) : Gd M S y x := ⟨h.bk.mono l, h.tx⟩
theorem Ng.gd {N : Nat} {T : List Row} {y x : List Int} {m : Bool} (h : Ng N T y x m) : Gd N T y x := ⟨h.bk, h.tx⟩
theorem tx_nb {r : Row} (h : isTx r = true) : r ≠ .bnd := by intro q; subst q; cases h
theorem un_nb {s : Int} {r : Row} (h : r ≠ .bnd) : un s r ≠ .bnd := by induction r <;> first | exact absurd rfl h | exact (fun q => nomatch q)
theorem at_mid {B S C : List Row} {r : Row} (h : S = S' ++ [r]) : (B ++ S ++ C)[B.length + S'.length]? = some r := by
  subst h
  rw [List.append_assoc, List.append_assoc, List.getElem?_append_right (Nat.le_add_right _ _), Nat.add_sub_cancel_left, List.getElem?_append_right (Nat.le_refl _), Nat.sub_self]; rfl
theorem ab_at {p : Pv} {x : List Int} {K : List Row} {m : Bool} (a : Ab p x K m) {k : Nat} {r : Row} (h : K[k]? = some r) : p.rows[k]? = some (un p.sv r) := by
  rw [a.ro, List.getElem?_map, h]; rfl
theorem above_un (s : Int) (K : List Row) : ∀ k, above (K.map (un s)) k = above K k
  | 0 => rfl
  | k + 1 => by
    unfold above
    rw [List.getElem?_map, above_un s K k]
    cases K[k]? with
    | none => rfl
    | some r => induction r <;> rfl
inductive Ran (N : Nat) (D B : List Row) (x x0 : List Int) (m0 : Bool) (S T : List Row) (m : Bool) (p : Pv) (n : Nat) : Prop
  | mk (ok : RunOk p (B.length + n)) (q : Pv) (T' : List Row) (m' : Bool) (e : runs p (B.length + n) = (q, B.length)) (a : Ab q x (D ++ T') m') (g : Ng N T' x x0 m0) (l : T'.length ≤ T.length + 2 * n) (k1 : S = [] → m' = m) (k2 : S ≠ [] → m' = !hdU S) : Ran N D B x x0 m0 S T m p n
theorem ran_ok {p : Pv} {k : Nat} {r : Row} (h0 : p.rows[k]? = some r) (hr : r ≠ .bnd) (hok : okR p.x r ∧ p.x.length ≤ 1000 ∧ p.rows.length ≤ 2 ^ 22 ∧ RunOk (p.exec r) k) : RunOk p (k + 1) := by
  unfold RunOk
  rw [h0]
  induction r with
  | bnd => exact absurd rfl hr
  | _ => exact hok
theorem ran_m {S1 : List Row} {r : Row} {m1 m' : Bool} (k6 : S1 = [] → m' = m1) (k7 : S1 ≠ [] → m' = !hdU S1) (f1 : m1 = !hdU [r]) : m' = !hdU (S1 ++ [r]) := by
  induction S1 with
  | nil => rw [k6 rfl, f1]; rfl
  | cons r' S1 => rw [k7 (fun z => nomatch z)]; cases r' <;> rfl
theorem ran_zero {N : Nat} {D B : List Row} (hB : EndB B) {x x0 : List Int} {m0 : Bool} {C T : List Row} {p : Pv} {m : Bool} (e : D = B ++ [] ++ C) (a : Ab p x (D ++ T) m) (g : Ng N T x x0 m0) : Ran N D B x x0 m0 [] T m p 0 := by
  rcases hB with rfl | ⟨B', rfl⟩
  · exact ⟨trivial, p, T, m, rfl, a, g, Nat.le_refl _, fun _ => rfl, fun q => absurd rfl q⟩
  · have h0 : p.rows[B'.length]? = some .bnd := ab_at a (r := .bnd) (by
      rw [e, List.append_nil, List.append_assoc, List.append_assoc, List.getElem?_append_right (Nat.le_refl _), Nat.sub_self]; rfl)
    have h1 : (B' ++ [Row.bnd]).length + 0 = B'.length + 1 := List.length_append
    have h2 : RunOk p (B'.length + 1) := by unfold RunOk; rw [h0]; trivial
    exact ⟨h1 ▸ h2, p, T, m, by rw [h1, runs_bnd h0, ← h1]; rfl, a, g, Nat.le_refl _, fun _ => rfl, fun q => absurd rfl q⟩
theorem ran_succ {N : Nat} (hN : N ≤ 1000) {D B : List Row} {x x0 : List Int} {m0 : Bool} {n : Nat} {T T1 S1 : List Row} {p : Pv} {m m1 : Bool} {y : List Int} {r : Row} (h0 : p.rows[B.length + n]? = some (un p.sv r)) (hr : r ≠ .bnd) (ok : okR y r) (hy : y.length ≤ N) (a : Ab p y (D ++ T) m)
    (hb : D.length + T.length + 2 * (n + 1) ≤ 2 ^ 22) (l1 : T1.length ≤ T.length + 2) (f1 : m1 = !hdU [r]) (h : Ran N D B x x0 m0 S1 T1 m1 (p.exec (un p.sv r)) n) : Ran N D B x x0 m0 (S1 ++ [r]) T m p (n + 1) := by
  obtain ⟨k1, q, T', m', k2, k3, k4, k5, k6, k7⟩ := h
  have hlen : p.rows.length = D.length + T.length := by rw [a.ro, List.length_map, List.length_append]
  have hx := a.tx
  subst hx
  exact ⟨ran_ok h0 (un_nb hr) ⟨okR_un ok, Nat.le_trans hy hN, by rw [hlen]; exact Nat.le_trans (Nat.le_add_right _ _) hb, k1⟩, q, T', m', (runs_not h0 (un_nb hr)).trans k2, k3, k4, by lia, fun z => absurd z (List.append_ne_nil_of_right_ne_nil _ (fun z => nomatch z)), fun _ => ran_m k6 k7 f1⟩
theorem runs_go {N : Nat} (hN : N ≤ 1000) {D : List Row} (hD : EndB D) {B : List Row} (hB : EndB B) {x x0 : List Int} {m0 : Bool} (n : Nat) : ∀ (S C T : List Row) (p : Pv) (y : List Int) (m : Bool), S.length = n → D = B ++ S ++ C → Bk N x S y → Ab p y (D ++ T) m → Ng0 N T y x0 m0 m →
    (T = [] → LastTx S) → D.length + T.length + 2 * n ≤ 2 ^ 22 → Ran N D B x x0 m0 S T m p n := by
  induction n with
  | zero =>
    intro S C T p y m hn e hS a g hT hb
    obtain rfl := List.length_eq_zero_iff.mp hn
    obtain rfl := hS.nil_inv
    rcases g with ⟨q, _⟩ | g
    · obtain ⟨S', r, e, _⟩ := hT q; simp at e
    · exact ran_zero hB e a g
  | succ n ih =>
    intro S C T p y m hn e hS a g hT hb
    obtain ⟨S1, r, rfl⟩ : ∃ S1 r, S = S1 ++ [r] := (rows_cases S).resolve_left fun q => by rw [q] at hn; cases hn
    have hn1 : S1.length = n := by simpa using hn
    obtain ⟨hr, ok, hy, hS1⟩ := hS.inv
    have h0 : p.rows[B.length + n]? = some (un p.sv r) := ab_at a (by
      rw [e, List.append_assoc (B ++ _), ← hn1]; exact at_mid rfl)
    have key : ∀ T1 m1, Ab (p.exec (un p.sv r)) (und y r) (D ++ T1) m1 → Ng N T1 (und y r) x0 m0 → T1.length ≤ T.length + 2 → m1 = !hdU [r] → Ran N D B x x0 m0 (S1 ++ [r]) T m p (n + 1) := fun T1 m1 a1 g1 l1 f1 =>
      ran_succ hN h0 hr ok hy a hb l1 f1 (ih S1 (r :: C) T1 _ (und y r) m1 hn1 (by rw [e]; simp) hS1 a1 (.inr g1) (fun q => by subst q; obtain ⟨S', r', z, _⟩ := g1.tx; simp at z) (by lia))
    cases ht : isTx r with
    | true =>
      have hu : un p.sv r = r := by cases r <;> first | rfl | cases ht
      rw [hu] at key
      obtain ⟨T1, a1, g1, l1⟩ := tx_step hN hD a g hy hS1.len (exec_tx ht ok a.tx)
      exact key T1 true a1 g1 l1 (by induction r <;> first | rfl | cases ht)
    | false =>
      cases r with
      | unm j =>
        rcases g with ⟨q, _⟩ | g
        · obtain ⟨S', r', z, z2⟩ := hT q
          obtain ⟨_, rfl⟩ := snoc_inj z; exact nomatch z2
        · exact key T false (unm_ab a) g (Nat.le_add_right _ _) rfl
      | bnd => exact absurd rfl hr
      | _ => cases ht

noncomputable def posB (Ss : List (List Row)) (k : Nat) : Nat := (flatB (Ss.take k)).length - 1
theorem posB_zero (Ss : List (List Row)) : posB Ss 0 = 0 := rfl
theorem take_snoc {Ss : List (List Row)} {k : Nat} {S : List Row} (h : Ss[k]? = some S) : Ss.take (k + 1) = Ss.take k ++ [S] := by rw [List.take_add_one, h]; rfl
theorem posB_succ {Ss : List (List Row)} {k : Nat} {S : List Row} (h : Ss[k]? = some S) : posB Ss (k + 1) = (flatB (Ss.take k)).length + S.length := by
  unfold posB; rw [take_snoc h, flatB_app, flatB_one, ← List.append_assoc, List.length_append, List.length_append]; rfl
theorem flat_split {Ss : List (List Row)} {k : Nat} {S : List Row} (h : Ss[k]? = some S) : ∃ C, flatB Ss = flatB (Ss.take k) ++ S ++ C ∧ C = .bnd :: flatB (Ss.drop (k + 1)) := by
  refine ⟨_, ?_, rfl⟩
  have : Ss = Ss.take (k + 1) ++ Ss.drop (k + 1) := (List.take_append_drop _ _).symm
  conv => lhs; rw [this]
  rw [flatB_app, take_snoc h, flatB_app, flatB_one, List.append_assoc, List.append_assoc, List.append_assoc]; rfl
theorem above_in {L B S C : List Row} (e : L = B ++ S ++ C) (h : LastTx S) : above L (B.length + S.length) = B.length + S.length := by
  obtain ⟨S', r, rfl, hr⟩ := h
  have := above_not (l := L) (k := B.length + S'.length) (by rw [e]; exact at_mid rfl) (tx_nb hr)
  rw [List.length_append]; exact this
theorem above_end {L B S C : List Row} (e : L = B ++ S ++ .bnd :: C) (h : LastTx S) : above L (B.length + S.length + 1) = B.length + S.length := by
  rw [above_bnd (by rw [e, ← List.length_append, List.getElem?_append_right (Nat.le_refl _), Nat.sub_self]; rfl), above_in e h]
theorem above_pos {Ss : List (List Row)} (hG : ∀ (j : Nat) S, Ss[j]? = some S → LastTx S) (T : List Row) {k : Nat} (hk : k ≤ Ss.length) : above (flatB Ss ++ T) (posB Ss k) = posB Ss k ∧ above (flatB Ss ++ T) (flatB (Ss.take k)).length = posB Ss k := by
  induction k with
  | zero => exact ⟨rfl, rfl⟩
  | succ k =>
    have h := List.getElem?_eq_getElem (l := Ss) (Nat.lt_of_succ_le hk)
    refine hideG fun R_ k_ => ?_
    obtain ⟨C, e, eC⟩ := flat_split h
    refine k_ ?_
    clear k_
    have hx := hG _ _ h
    rw [posB_succ h, take_snoc h, flatB_app, flatB_one, ← List.append_assoc, List.length_append, List.length_append (as := flatB _), e, List.append_assoc]
    exact ⟨above_in rfl hx, above_end (by rw [eC]; rfl) hx⟩
theorem posB_le (Ss : List (List Row)) (k : Nat) : posB Ss k ≤ (flatB Ss).length := by
  have : flatB Ss = flatB (Ss.take k) ++ flatB (Ss.drop k) := by rw [← flatB_app, List.take_append_drop]
  rw [this, List.length_append]; unfold posB; lia
theorem flat_take_le (Ss : List (List Row)) (k : Nat) : (flatB (Ss.take k)).length ≤ (flatB Ss).length := by
  have : flatB Ss = flatB (Ss.take k) ++ flatB (Ss.drop k) := by rw [← flatB_app, List.take_append_drop]
  rw [this, List.length_append]; lia
theorem posB_eq_zero {Ss : List (List Row)} (hG : ∀ (j : Nat) S, Ss[j]? = some S → LastTx S) {k : Nat} (hk : k ≤ Ss.length) (h : posB Ss k = 0) : k = 0 := by
  induction k with
  | zero => rfl
  | succ k =>
    have h1 := List.getElem?_eq_getElem (l := Ss) (Nat.lt_of_succ_le hk)
    obtain ⟨S', r, e, _⟩ := hG _ _ h1
    rw [posB_succ h1, e, List.length_append] at h
    exact absurd h (by simp)
theorem posB_lt {Ss : List (List Row)} (hG : ∀ (j : Nat) S, Ss[j]? = some S → LastTx S) : ∀ {i k : Nat}, i < k → k ≤ Ss.length → posB Ss i < posB Ss k
  | i, k + 1, h, hk => by
    have h1 := List.getElem?_eq_getElem (l := Ss) (Nat.lt_of_succ_le hk)
    obtain ⟨S', r, e, _⟩ := hG _ _ h1
    have h2 : posB Ss k < posB Ss (k + 1) := by
      rw [posB_succ h1, e, List.length_append]
      unfold posB
      show _ < _ + (_ + 1)
      lia
    rcases Nat.lt_or_ge i k with h3 | h3
    · exact Nat.lt_trans (posB_lt hG h3 (Nat.le_of_succ_le hk)) h2
    · rw [Nat.le_antisymm (Nat.le_of_lt_succ h) h3]; exact h2
theorem posB_inj {Ss : List (List Row)} (hG : ∀ (j : Nat) S, Ss[j]? = some S → LastTx S) {i k : Nat} (hi : i ≤ Ss.length) (hk : k ≤ Ss.length) (h : posB Ss i = posB Ss k) : i = k := by
  rcases Nat.lt_trichotomy i k with q | q | q
  · exact absurd h (Nat.ne_of_lt (posB_lt hG q hk))
  · exact q
  · exact absurd h.symm (Nat.ne_of_lt (posB_lt hG q hi))
theorem posB_app {Ss Rs : List (List Row)} {k : Nat} (h : k ≤ Ss.length) : posB (Ss ++ Rs) k = posB Ss k := by unfold posB; rw [List.take_append_of_le_length h]

theorem run_grp {N : Nat} (hN : N ≤ 1000) {Ss : List (List Row)} (hG : ∀ (j : Nat) S, Ss[j]? = some S → LastTx S) {k : Nat} {S : List Row} (hk : Ss[k]? = some S) {x x0 y : List Int} {m m0 : Bool} {T : List Row} {p : Pv} (hS : Gd N S y x) (a : Ab p y (flatB Ss ++ T) m) (g : Ng0 N T y x0 m0 m)
    (hb : (flatB Ss).length + T.length + 2 * S.length ≤ 2 ^ 22) :
    above p.rows (posB Ss (k + 1)) = posB Ss (k + 1) ∧ RunOk p (posB Ss (k + 1)) ∧ ∃ q T', runs p (posB Ss (k + 1)) = (q, (flatB (Ss.take k)).length) ∧ Ab q x (flatB Ss ++ T') (!hdU S) ∧ Ng N T' x x0 m0 ∧ T'.length ≤ T.length + 2 * S.length := by
  have hk1 : k + 1 ≤ Ss.length := (List.getElem?_eq_some_iff.mp hk).1
  refine ⟨by rw [a.ro, above_un]; exact (above_pos hG T hk1).1, ?_⟩
  refine hideG fun R_ k_ => ?_
  obtain ⟨C, e, _⟩ := flat_split hk
  refine k_ ?_
  clear k_
  rw [posB_succ hk]
  obtain ⟨k1, q, T', m', k2, k3, k4, k5, k6, k7⟩ := runs_go hN (flatB_end Ss) (flatB_end (Ss.take k)) S.length S C T p y m rfl e hS.bk a g (fun _ => hS.tx) hb
  obtain ⟨S', r, rfl, _⟩ := hS.tx
  have := k7 (by simp)
  subst this
  exact ⟨k1, q, T', k2, k3, k4, k5⟩
theorem flat_len {Ss : List (List Row)} {k : Nat} {S : List Row} (h : Ss[k]? = some S) : (flatB (Ss.take (k + 1))).length = (flatB (Ss.take k)).length + S.length + 1 := by
  rw [take_snoc h, flatB_app, flatB_one, ← List.append_assoc, List.length_append, List.length_append]; rfl
inductive Turned (N : Nat) (Ss : List (List Row)) (X : Nat → List Int) (x0 : List Int) (m0 : Bool) (c k : Nat) (T : List Row) (p : Pv) (m : Bool) : Prop
  | mk (ok : TurnsOk p c (posB Ss k)) (q : Pv) (T' : List Row) (m' : Bool) (e : turns p c (posB Ss k) = (q, posB Ss (k - c))) (a : Ab q (X (k - c)) (flatB Ss ++ T') m') (g : Ng0 N T' (X (k - c)) x0 m0 m') (l : T'.length ≤ T.length + 2 * (flatB (Ss.take k)).length)
      (k1 : c = 0 ∨ k = 0 → q = p ∧ T' = T ∧ m' = m) (k2 : 0 < c → 0 < k → Ng N T' (X (k - c)) x0 m0 ∧ ∀ S, Ss[k - c]? = some S → m' = !hdU S) : Turned N Ss X x0 m0 c k T p m
theorem turned_k {N : Nat} {Ss : List (List Row)} {X : Nat → List Int} {x0 : List Int} {m0 : Bool} {c k : Nat} {T1 T' S : List Row} {q q' : Pv} {m' : Bool} (h : Ss[k]? = some S) (k4 : Ng N T1 (X k) x0 m0)
    (j6 : c = 0 ∨ k = 0 → q' = q ∧ T' = T1 ∧ m' = !hdU S) (j7 : 0 < c → 0 < k → Ng N T' (X (k - c)) x0 m0 ∧ ∀ S, Ss[k - c]? = some S → m' = !hdU S) : Ng N T' (X (k - c)) x0 m0 ∧ ∀ S, Ss[k - c]? = some S → m' = !hdU S := by
  rcases Nat.eq_zero_or_pos c with hc | hc
  · refine hideG fun R_ k_ => ?_
    obtain ⟨_, rfl, rfl⟩ := j6 (.inl hc)
    refine k_ ?_
    clear k_
    subst hc
    exact ⟨k4, fun S' e => by rw [Nat.sub_zero, h] at e; obtain rfl := Option.some.inj e; rfl⟩
  rcases Nat.eq_zero_or_pos k with hk0 | hk0
  · obtain ⟨_, rfl, rfl⟩ := j6 (.inr hk0)
    subst hk0
    rw [Nat.zero_sub]
    exact ⟨k4, fun S' e => by obtain rfl := Option.some.inj (h.symm.trans e); rfl⟩
  · exact j7 hc hk0
theorem turns_go {N : Nat} (hN : N ≤ 1000) {Ss : List (List Row)} {X : Nat → List Int} (hG : ∀ (j : Nat) S, Ss[j]? = some S → Gd N S (X (j + 1)) (X j)) {x0 : List Int} {m0 : Bool} (c : Nat) : ∀ (k : Nat) (T : List Row) (p : Pv) (m : Bool), k ≤ Ss.length → Ab p (X k) (flatB Ss ++ T) m → Ng0 N T (X k) x0 m0 m →
    (flatB Ss).length + T.length + 2 * (flatB (Ss.take k)).length ≤ 2 ^ 22 → Turned N Ss X x0 m0 c k T p m := by
  induction c with
  | zero => exact fun k T p m hk a g hb => ⟨trivial, p, T, m, rfl, a, g, Nat.le_add_right _ _, fun _ => ⟨rfl, rfl, rfl⟩, fun h => absurd h (Nat.lt_irrefl _)⟩
  | succ c ih =>
    intro k T p m hk a g hb
    induction k with
    | zero =>
      refine ⟨.inl rfl, p, T, m, ?_, ?_, ?_, Nat.le_add_right _ _, fun _ => ⟨rfl, rfl, rfl⟩, fun _ h => absurd h (Nat.lt_irrefl _)⟩
      · rw [posB_zero, turns_zero, Nat.zero_sub, posB_zero]
      · rw [Nat.zero_sub]; exact a
      · rw [Nat.zero_sub]; exact g
    | succ k =>
    have hL : ∀ (j : Nat) S, Ss[j]? = some S → LastTx S := fun j S h => (hG j S h).tx
    have h := List.getElem?_eq_getElem (l := Ss) (Nat.lt_of_succ_le hk)
    generalize Ss[k] = S at h
    rw [flat_len h] at hb
    refine hideG fun R_ k_ => ?_
    obtain ⟨k0, k1, q, T1, k2, k3, k4, k5⟩ := run_grp hN hL h (hG _ _ h) a g (by lia)
    refine k_ ?_
    clear k_
    have hab : above q.rows (flatB (Ss.take k)).length = posB Ss k := by rw [k3.ro, above_un]; exact (above_pos hL T1 (Nat.le_of_succ_le hk)).2
    obtain ⟨j1, q', T', m', j2, j3, j4, j5, j6, j7⟩ := ih k T1 q _ (Nat.le_of_succ_le hk) k3 (.inr k4) (by lia)
    have hnz : posB Ss (k + 1) ≠ 0 := fun z => absurd (posB_eq_zero hL hk z) (Nat.succ_ne_zero _)
    have hlen : p.rows.length = (flatB Ss).length + T.length := by rw [a.ro, List.length_map, List.length_append]
    have hlenq : q.rows.length = (flatB Ss).length + T1.length := by rw [k3.ro, List.length_map, List.length_append]
    have hpl := posB_le Ss (k + 1)
    have hfl := flat_take_le Ss k
    have es := Nat.succ_sub_succ k c
    refine ⟨.inr ?_, q', T', m', ?_, es ▸ j3, es ▸ j4, by rw [flat_len h]; lia, fun z => (z.elim (fun z => nomatch z) fun z => nomatch z), fun _ _ => es ▸ turned_k h k4 j6 j7⟩
    · rw [k0, k2]
      refine ⟨k1, by lia, by lia, by show (flatB (Ss.take k)).length ≤ q.rows.length; lia, by show q.rows.length ≤ _; lia, ?_⟩
      rw [hab]; exact j1
    · rw [turns, if_neg hnz, k0, k2, es]
      rw [hab]; exact j2
theorem Skip.det {m : Int → Option Int} {a r s : Int} (h : Skip m a r) (k : Skip m a s) : r = s := by
  induction h with
  | stop e => exact k.none_inv e
  | step e _ ih => exact ih (k.some_inv e)
noncomputable def Dn (m : Int → Option Int) (n : Nat) : Prop := ∀ a b, m a = some b → ∃ i j : Nat, a = i ∧ b = j ∧ j < i ∧ i ≤ n
theorem Dn.lt {m : Int → Option Int} {n : Nat} (h : Dn m n) : ∀ a b, m a = some b → 0 ≤ b ∧ b < a := fun a b e => by
  obtain ⟨i, j, rfl, rfl, h1, _⟩ := h a b e; lia
theorem Skip.ex {m : Int → Option Int} {n : Nat} (h : Dn m n) : ∀ k : Nat, ∃ r : Nat, Skip m k r ∧ r ≤ k := fun k => by
  induction k using Nat.strongRecOn with
  | _ k ih =>
    cases e : m (k : Nat) with
    | none => exact ⟨k, .stop e, Nat.le_refl _⟩
    | some b =>
      obtain ⟨i, j, h1, rfl, h2, _⟩ := h _ _ e
      obtain rfl : k = i := by lia
      obtain ⟨r, q, l⟩ := ih j h2
      exact ⟨r, .step e q, by lia⟩
theorem Skip.low {m m' : Int → Option Int} {n k : Nat} (h : Dn m n) (e : ∀ j : Nat, j ≤ k → m' j = m j) {r : Int} : ∀ {a : Int}, Skip m a r → ∀ j : Nat, a = j → j ≤ k → Skip m' a r := fun s => by
  induction s with
  | stop q => intro j ej hj; subst ej; exact .stop ((e j hj).trans q)
  | step q _ ih =>
    intro j ej hj
    subst ej
    obtain ⟨i, j', h1, rfl, h2, _⟩ := h _ _ q
    exact .step ((e j hj).trans q) (ih j' rfl (by lia))
theorem Skip.iff {m m' : Int → Option Int} {n n' k : Nat} (h : Dn m n) (h' : Dn m' n') (e : ∀ j : Nat, j ≤ k → m' j = m j) {j : Nat} (hj : j ≤ k) {r : Int} : Skip m' j r ↔ Skip m j r :=
  ⟨fun s => s.low h' (fun i hi => (e i hi).symm) j rfl hj, fun s => s.low h e j rfl hj⟩

noncomputable def txt (G : List (List Int)) (x : List Int) (j : Nat) : List Int := (G ++ [x]).getD j []
theorem txt_at {G : List (List Int)} {x : List Int} : txt G x G.length = x := by
  unfold txt; rw [List.getD_eq_getElem?_getD, List.getElem?_append_right (Nat.le_refl _), Nat.sub_self]; rfl
theorem txt_app {G : List (List Int)} {x y : List Int} {j : Nat} (h : j ≤ G.length) : txt (G ++ [x]) y j = txt G x j := by
  unfold txt
  rw [List.getD_eq_getElem?_getD, List.getD_eq_getElem?_getD, List.getElem?_append_left (by simp; lia)]
theorem txt_lt {G : List (List Int)} {x y : List Int} {j : Nat} (h : j < G.length) : txt G y j = txt G x j := by
  unfold txt
  rw [List.getD_eq_getElem?_getD, List.getD_eq_getElem?_getD, List.getElem?_append_left h, List.getElem?_append_left h]

structure Core (N L : Nat) (p : Pv) (G : List (List Int)) (leq eq : Int → Option Int) (Ss : List (List Row)) (K : List Row) (m : Bool) : Prop where
  ab : Ab p p.x K m
  kb : K = flatB Ss ∨ K ++ [.bnd] = flatB Ss
  len : G.length = Ss.length
  gd : ∀ (j : Nat) S, Ss[j]? = some S → Gd N S (txt G p.x (j + 1)) (txt G p.x j) ∧ (hdU S = true ↔ Skip leq j 0)
  ml : m = false ↔ Skip leq G.length 0
  dn : Dn leq G.length
  lx : ∀ i j : Nat, leq i = some (j : Int) → txt G p.x i = txt G p.x j
  eqr : ∀ a b, eq a = some b ↔ ∃ i j : Nat, leq i = some (j : Int) ∧ a = posB Ss i ∧ b = posB Ss j
  xl : p.x.length ≤ N
  bd : (flatB Ss).length + 1 ≤ L

section
variable {N L : Nat} {p : Pv} {G : List (List Int)} {leq eq : Int → Option Int} {Ss : List (List Row)} {K : List Row} {m : Bool}
theorem Core.lt (c : Core N L p G leq eq Ss K m) : ∀ (j : Nat) S, Ss[j]? = some S → LastTx S := fun j S h => (c.gd j S h).1.tx
theorem Core.mono {M J : Nat} (c : Core N L p G leq eq Ss K m) (h : N ≤ M) (h' : L ≤ J) : Core M J p G leq eq Ss K m :=
  ⟨c.ab, c.kb, c.len, fun j S e => ⟨(c.gd j S e).1.mono h, (c.gd j S e).2⟩, c.ml, c.dn, c.lx, c.eqr, Nat.le_trans c.xl h, Nat.le_trans c.bd h'⟩
theorem atB_bnd (l : List Row) : atB (l ++ [.bnd]) = true := by rw [atB_app]
theorem bndS_un (s : Int) (K : List Row) : bndS (K.map (un s)) = (bndS K).map (un s) := by
  rcases rows_cases K with rfl | ⟨K', r, rfl⟩
  · rfl
  · unfold bndS
    rw [List.map_append, List.map_singleton, atB_app, atB_app]
    induction r <;> simp [un]
theorem bndS_end {D : List Row} (h : EndB D) : bndS D = D := by
  rcases h with rfl | ⟨D', rfl⟩
  · rfl
  · unfold bndS; rw [if_pos (atB_bnd _)]
theorem bndS_tx {D : List Row} (h : LastTx D) : bndS D = D ++ [.bnd] := by
  obtain ⟨S, r, rfl, hr⟩ := h
  unfold bndS
  have : atB (S ++ [r]) = false := by rw [atB_app]; induction r <;> first | rfl | cases hr
  rw [this]; rfl
theorem flat_last {Ss : List (List Row)} {K : List Row} (h : K ++ [.bnd] = flatB Ss) : ∃ A S, Ss = A ++ [S] ∧ K = flatB A ++ S := by
  rcases List.eq_nil_or_concat Ss with rfl | ⟨A, S, rfl⟩
  · induction K <;> cases h
  · rw [List.concat_eq_append, flatB_app, flatB_one, ← List.append_assoc] at h
    exact ⟨A, S, List.concat_eq_append .., (snoc_inj h).1⟩
theorem LastTx.app {A S : List Row} (h : LastTx S) : LastTx (A ++ S) := by
  obtain ⟨S', r, rfl, hr⟩ := h; exact ⟨A ++ S', r, by rw [List.append_assoc], hr⟩
theorem Core.bndK (c : Core N L p G leq eq Ss K m) : bndS K = flatB Ss := by
  rcases c.kb with h | h
  · rw [h]; exact bndS_end (flatB_end Ss)
  · obtain ⟨A, S, rfl, rfl⟩ := flat_last h
    have : LastTx S := c.lt A.length S (by simp)
    rw [bndS_tx this.app, h]
theorem Ab.bnd {x : List Int} (a : Ab p x K m) : Ab p.bnd x (bndS K) m := ⟨a.tx, by show bndS p.rows = _; rw [a.ro, bndS_un]; rfl, a.mo, a.tk, a.nt⟩
theorem Core.bnd (c : Core N L p G leq eq Ss K m) : Core N L p.bnd G leq eq Ss (flatB Ss) m :=
  ⟨by have := c.ab.bnd; rw [c.bndK] at this; exact this, .inl rfl, c.len, c.gd, c.ml, c.dn, c.lx, c.eqr, c.xl, c.bd⟩
theorem Core.top (c : Core N L p G leq eq Ss K m) : p.topN = posB Ss G.length := by
  show above p.rows p.rows.length = _
  rw [c.ab.ro, List.length_map, above_un, c.len]
  rcases c.kb with h | h
  · rw [h]
    have := (above_pos c.lt [] (Nat.le_refl Ss.length)).2
    rw [List.append_nil, List.take_length] at this; exact this
  · obtain ⟨A, S, rfl, rfl⟩ := flat_last h
    have hS : (A ++ [S])[A.length]? = some S := by simp
    have := above_in (L := flatB A ++ S) (B := flatB A) (S := S) (C := []) (by simp) (c.lt _ _ hS)
    rw [List.length_append, this, List.length_append, List.length_singleton, posB_succ hS, List.take_left' rfl]
theorem Core.eqs (c : Core N L p G leq eq Ss K m) {i : Nat} (hi : i ≤ G.length) : eq (posB Ss i : Nat) = (leq i).map fun j => ((posB Ss j.toNat : Nat) : Int) := by
  cases e : leq i with
  | none =>
    cases q : eq (posB Ss i : Nat) with
    | none => rfl
    | some b =>
      refine hideG fun R_ k_ => ?_
      obtain ⟨i', j, h1, h2, h3⟩ := (c.eqr _ _).mp q
      refine k_ ?_
      clear k_
      refine hideG fun R_ k_ => ?_
      obtain ⟨i'', _, z, _, _, hl⟩ := c.dn _ _ h1
      refine k_ ?_
      clear k_
      have hl : i' ≤ G.length := by lia
      rw [c.len] at hi hl
      have := posB_inj c.lt hi hl (Int.ofNat_inj.mp h2)
      rw [this, h1] at e; cases e
  | some b =>
    obtain ⟨i', j, z, rfl, _, _⟩ := c.dn _ _ e
    exact (c.eqr _ _).mpr ⟨i, j, e, rfl, rfl⟩
theorem Core.nz (c : Core N L p G leq eq Ss K m) {k : Nat} (hk : k ≤ G.length) : posB Ss k = 0 ↔ k = 0 :=
  ⟨fun h => posB_eq_zero c.lt (by rw [← c.len]; exact hk) h, fun h => by rw [h]; rfl⟩
theorem Core.skip (c : Core N L p G leq eq Ss K m) {r : Int} : ∀ {a : Int}, Skip leq a r → ∀ j : Nat, a = j → j ≤ G.length → ∃ k : Nat, r = k ∧ Skip eq (posB Ss j : Nat) (posB Ss k : Nat) ∧ k ≤ j ∧ txt G p.x j = txt G p.x k := fun s => by
  induction s with
  | stop q => intro j ej hj; subst ej; exact ⟨j, rfl, .stop (by rw [c.eqs hj, q]; rfl), Nat.le_refl _, rfl⟩
  | step q _ ih =>
    intro j ej hj
    subst ej
    refine hideG fun R_ k_ => ?_
    obtain ⟨i, j', h1, rfl, h2, _⟩ := c.dn _ _ q
    refine k_ ?_
    clear k_
    refine hideG fun R_ k_ => ?_
    obtain ⟨k, e, s, l, ht⟩ := ih j' rfl (by lia)
    refine k_ ?_
    clear k_
    exact ⟨k, e, .step (by rw [c.eqs hj, q]; rfl) s, by lia, (c.lx _ _ q).trans ht⟩
end
theorem catch38 {c : Cx} (hK : KOk c) : ExCatch c.K 38 := by
  rw [hK]
  exact ⟨by kernel_rfl, by kernel_rfl, by kernel_rfl, by kernel_rfl⟩
theorem c_told {c} (hK : KOk c) {nx} {o : Nat → Option MO} {k m : Nat} {qual : Str} {params : Arguments} {body : Expr} {scope : Scope} {pm : Value} {ns : List Str} {hm} {ks : List Nat} {Q1 : V → (Nat → Option MO) → Nat → Prop} {QE1 : (Nat → Option MO) → Nat → Prop} (ho : o k = some (.clo (funP qual params body scope pm ns) hm ks)) (fl : FL c (Fly 38 .none) m k o nx Q1 QE1) (hmn : m ≤ 14) :
    FC c 38 15 (.ref 861) [.ref k] (o) nx (fun b o' nx' => Q1 b o' nx' ∨ (b = .str "refused" ∧ QE1 o' nx')) (fun _ _ => False) := by
  refine FC_K 60 hK .nil ["the_asked"] [] rfl (by kernel_rfl) .nil (by walk_at "binds") (by decide +kernel) (by decide +kernel) rfl rfl rfl ?_
  intro yd QR hQX hQR
  walk_at "sts"
  intro hP
  have hz := hP.ok
  have hc := hP.call rfl
  refine R_try (QE := QE1) hz hc (sigX hK) (catch38 hK) (show nsIn c.K mainGlobals _ = _ by rw [hK]; exact sig38 _) rfl (by decide) rfl (by decide) ?_ fun o nx q => useQ (Q' := QR) hQR (Or.inr ⟨rfl, q⟩)
  refine S_cons (S_ret (R_call (R_loc ?_ rfl rfl rfl (by decide)) rfl))
  exact CW_lam ho fl ⟨hz.kind, hz.glob, hz.blt, hz.hd, hz.dep, hz.uni⟩ ⟨hc.fr, hc.frs⟩ hmn (fun b o' nx' q => useQ (Q' := QR) hQR (Or.inl q)) (fun W o' nx' e s p f q => ⟨W, _, .none, .rfl', ⟨p.g, p.f, p.k⟩, f, .inl rfl, q⟩) (fun W e s L f => f.unP)

noncomputable def absI (i : Int) : Int := if i < 0 then -i else i
noncomputable def cellsOf (l : List Int) : List Int := (l.take 20).map absI
noncomputable def bigs (l : List Int) : List Int := (cellsOf l).filter fun i => decide ((10 : Int) ^ 18 ≤ i)
noncomputable def mixOf (l : List Int) : List Int := cellsOf l ++ [417 + ((cellsOf l).length : Int)]
theorem pickI (l : List Int) : pickV (iV l) none (some 20) = iV (l.take 20) := by
  have := pick_to (iV l) 20
  unfold iV at this ⊢
  rw [List.map_take]; exact this
noncomputable def absV : V → V
  | .int i => .int (absI i)
  | v => v
noncomputable def bigV : V → Bool
  | .int i => decide (i ≥ 10 ^ 18)
  | _ => false
theorem abs_map (l : List Int) : ((iV (l.take 20)).filter fun _ => true).map absV = iV (cellsOf l) := by
  rw [List.filter_eq_self.mpr (fun _ _ => rfl)]
  unfold iV cellsOf
  rw [List.map_map, List.map_map]; rfl
theorem big_map (l : List Int) : ((iV (cellsOf l)).filter bigV).map (fun v => v) = iV (bigs l) := by
  rw [List.map_id'']
  · unfold iV bigs
    rw [List.filter_map]; rfl
  · exact fun _ => rfl
theorem mix_eq (l : List Int) : iV (cellsOf l) ++ [V.int (417 + ((iV (cellsOf l)).length : Int))] = iV (mixOf l) := by
  rw [iV_len]; unfold mixOf iV; rw [List.map_append]; rfl
set_option tactic.hygienic true in
theorem c_deck {c} (hK : KOk c) {nx} {o : Nat → Option MO} {l : List Int} (hl : l.length ≤ 2 ^ 20) :
    FC c 38 2 (.ref 819) [.lst (iV l)] (o) nx (fun b o' nx' => b = .ref (nx + 1) ∧ o' = upd (upd o nx (.list (iV (bigs l)))) (nx + 1) (.list [.ref nx, .lst (iV (mixOf l)), .int 0]) ∧ nx' = nx + 2) (fun _ _ => False) := by
  refine FC_K 60 hK (.cons (g_abs hK) (.cons (g_len hK) .nil)) ["script"] [] rfl (by kernel_rfl) .nil (by walk_at "binds") (by decide +kernel) (by decide +kernel) rfl rfl rfl ?_
  intro yd QR hQX hQR
  have h20 : (iV (l.take 20)).length ≤ 2 ^ 24 := by rw [iV_len, List.length_take]; exact Nat.le_trans (Nat.min_le_left _ _) (by decide)
  have hc : (iV (cellsOf l)).length ≤ 2 ^ 24 := by rw [iV_len, cellsOf, List.length_map, List.length_take]; exact Nat.le_trans (Nat.min_le_left _ _) (by decide)
  have hm : (iV (cellsOf l)).length + [V.int (417 + ((iV (cellsOf l)).length : Int))].length ≤ 2 ^ 24 := by
    have : (iV (cellsOf l)).length ≤ 20 := by rw [iV_len, cellsOf, List.length_map, List.length_take]; exact Nat.min_le_left _ _
    exact Nat.le_trans (Nat.add_le_add_right this 1) (by decide)
  repeat' (walk_at "stj")
  first | refine IfOr.one ?_ | refine AsgOr.one ?_ | refine Or.inl ?_
  rw [pickI]
  walk_at "stjs"
  refine ⟨absV, fun _ => true, ⟨fun C v hv => rfl, fun C v hv _ => ?_⟩, ?_⟩
  · obtain ⟨i, _, rfl⟩ := List.mem_map.mp hv
    walk_at "stjs"
  rw [abs_map]
  walk_at "stjs"
  refine ⟨fun v => v, bigV, ⟨fun C v hv => ?_, fun C v hv _ => ?_⟩, ?_⟩
  · obtain ⟨i, _, rfl⟩ := List.mem_map.mp hv
    walk_at "stjs"
    all_goals (rename_i h; exact ⟨h.symm, rfl⟩)
  · obtain ⟨i, _, rfl⟩ := List.mem_map.mp hv
    walk_at "stjs"
  rw [big_map]
  refine Or.inr (put_as rfl ?_)
  repeat' (walk_at "stj")
  first | refine IfOr.one ?_ | refine AsgOr.one ?_ | refine Or.inl ?_
  repeat' (walk_at "stj")
  first | refine IfOr.one ?_ | refine AsgOr.one ?_ | refine Or.inl ?_
  rw [mix_eq]
  repeat' (walk_at "stj")
  refine Or.inr (put_as rfl ?_)
  walk_at "stjs"

section
set_option tactic.hygienic false
local macro_rules
  | `(tactic| walk_at "side") => `(tactic| exact PyProof.noPylong_small (by lia))
noncomputable def deckO (o : Nat → Option MO) (d0 mix : List Int) (dn : Int) : Nat → Option MO := upd (upd o 4 (.list (iV d0))) 5 (.list [.ref 4, .lst (iV mix), .int dn])
theorem deck4 {o : Nat → Option MO} {d0 mix l : List Int} {dn : Int} : upd (deckO o d0 mix dn) 4 (.list (iV l)) = deckO o l mix dn := by
  funext k
  unfold deckO upd
  by_cases h : k = 4
  · subst h; rfl
  · simp [h]
theorem deck5 {o : Nat → Option MO} {d0 mix : List Int} {dn i : Int} : upd (deckO o d0 mix dn) 5 (.list [.ref 4, .lst (iV mix), .int i]) = deckO o d0 mix i := by
  funext k
  unfold deckO upd
  by_cases h : k = 5
  · subst h; rfl
  · simp [h]
theorem deckE {un : Bool} {t : TS} : E un t = deckO (E un t) t.d0 t.mix t.dn := by
  funext k
  unfold deckO upd
  by_cases h : k = 5
  · subst h; rfl
  · by_cases h4 : k = 4
    · subst h4; rfl
    · simp [h, h4]
theorem deckE' {un : Bool} {t : TS} {d0 : List Int} {dn : Int} : deckO (E un t) d0 t.mix dn = E un ((t.sD0 d0).sDn dn) := by
  unfold deckO
  rw [E_d0]; exact E_dn
theorem fmod_nat {i : Int} {m : Nat} (h : 0 < m) : ∃ r : Nat, i.fmod (m : Int) = (r : Int) ∧ r < m := by
  have h1 := Int.fmod_nonneg_of_pos i (b := (m : Int)) (by lia)
  have h2 := Int.fmod_lt_of_pos i (b := (m : Int)) (by lia)
  exact ⟨(i.fmod (m : Int)).toNat, by lia, by lia⟩
theorem fmod_sq {i : Int} {m : Nat} (h : 0 < m) (hm : m ≤ 2 ^ 32) : IntMulOk (i.fmod (m : Int)) (i.fmod (m : Int)) := by
  obtain ⟨r, e, l⟩ := fmod_nat (i := i) h
  rw [e]
  exact IntMulOk.of_left (intBits_le_64 (by lia) (by lia))
theorem mul_l {i : Int} {m : Nat} (hm : m ≤ 2 ^ 32) : IntMulOk (m : Int) i := IntMulOk.of_left (intBits_le_64 (by lia) (by lia))
theorem iV_at {l : List Int} {r : Nat} (h : r < l.length) : ∃ x : Int, atV (iV l) (r : Int) = some (.int x) := by
  refine ⟨l[r], ?_⟩
  unfold atV
  rw [if_pos (by lia), Int.toNat_natCast]
  unfold iV
  simp [h]
theorem c_draw {c} (hK : KOk c) {nx} {o : Nat → Option MO} {d0 mix : List Int} {dn : Int} {many : Nat} (hm : 0 < many) (hM : many ≤ 2 ^ 20) (h0 : d0.length ≤ 2 ^ 20) (h1 : 0 < mix.length) (h2 : mix.length ≤ 2 ^ 20) :
    FC c 38 1 (.ref 826) [.ref 5, .int (many : Nat)] (deckO o d0 mix dn) nx (fun b o' nx' => ∃ a : Nat × List Int × Int, b = .int (a.1 : Nat) ∧ o' = deckO o a.2.1 mix a.2.2 ∧ nx' = nx ∧ a.1 < many ∧ a.2.1.length ≤ d0.length) (fun _ _ => False) := by
  refine FC_K 60 hK (.cons (g_len hK) .nil) ["deck", "many"] [] rfl (by kernel_rfl) .nil (by walk_at "binds") (by decide +kernel) (by decide +kernel) rfl rfl rfl ?_
  intro yd QR hQX hQR
  have hp : ∀ i : Int, Builtin.divisionGoesByPylong i (many : Int) = false := fun i => PyProof.noPylong_small (by lia)
  have hp2 : ∀ i : Int, Builtin.divisionGoesByPylong i 1024 = false := fun i => PyProof.noPylong_small (by lia)
  have hm0 : (many : Int) ≠ 0 := by lia
  have hl : (iV mix).length = mix.length := iV_len mix
  have hl0 : ((iV mix).length : Int) ≠ 0 := by lia
  obtain ⟨r0, er, hr0⟩ := fmod_nat (i := dn + 1) h1
  rw [← hl] at er
  obtain ⟨y, hy⟩ := iV_at hr0
  have g1 : ∀ i : Int, IntMulOk 1640531527 i := fun i => IntMulOk.of_left (intBits_le_64 (by decide) (by decide))
  have g2 : ∀ i : Int, IntMulOk 122949823 i := fun i => IntMulOk.of_left (intBits_le_64 (by decide) (by decide))
  have g3 : ∀ i : Int, IntMulOk (i.fmod 4294966297) (i.fmod 4294966297) := fun i => fmod_sq (m := 4294966297) (by decide) (by decide)
  have g4 : ∀ i : Int, IntMulOk (i.fmod 4294966237) (i.fmod 4294966237) := fun i => fmod_sq (m := 4294966237) (by decide) (by decide)
  induction d0 with
  | nil =>
    walk_at "sts"
    refine ⟨[], [], .ref rfl, .lst, ?_⟩
    repeat' (walk_at "st")
    refine put_as (deck5 (i := dn + 1)) ?_
    walk_at "sts"
    refine ⟨.int y, by rw [er]; exact hy, ?_⟩
    walk_at "sts"
    refine ⟨g1 _, ?_⟩
    walk_at "sts"
    refine ⟨g3 _, ?_⟩
    walk_at "sts"
    refine ⟨g2 _, ?_⟩
    walk_at "sts"
    refine ⟨g4 _, ?_⟩
    walk_at "sts"
    generalize Int.fdiv _ 1024 = v
    obtain ⟨q, e, hq⟩ := fmod_nat (i := v) hm
    exact ⟨(q, [], dn + 1), by rw [← e]; rfl, rfl, rfl, hq, Nat.le_refl _⟩
  | cons x r =>
    walk_at "sts"
    refine ⟨x :: r, [], .ref rfl, .lst, ?_⟩
    walk_at "sts"
    refine ⟨0, seqIndex_of (by lia) (by simp [iV]), by simp [iV], put_as (deck4 (l := x.fdiv many :: r)) ?_⟩
    walk_at "sts"
    · refine ⟨by rw [iV_len]; exact Nat.le_trans h0 (by decide), .int (x.fdiv many), rfl, put_as (deck4 (l := r)) ?_⟩
      walk_at "sts"
      obtain ⟨q, e, hq⟩ := fmod_nat (i := x) hm
      exact ⟨(q, r, dn), by rw [← e]; rfl, rfl, rfl, hq, Nat.le_succ _⟩
    · obtain ⟨q, e, hq⟩ := fmod_nat (i := x) hm
      exact ⟨(q, x.fdiv many :: r, dn), by rw [← e]; rfl, rfl, rfl, hq, Nat.le_refl _⟩

end
noncomputable def Ek (n : Nat) (t : TS) : Nat → Option MO := fun k => if k < n then E true t k else none
theorem Ek_up {n : Nat} {t : TS} {x : MO} (h : E true t n = some x) : upd (Ek n t) n x = Ek (n + 1) t := by
  funext k
  unfold upd Ek
  by_cases e : k = n
  · subst e; rw [if_pos rfl, if_pos (Nat.lt_succ_self _), h]
  · rw [if_neg e]
    by_cases l : k < n
    · rw [if_pos l, if_pos (Nat.lt_succ_of_lt l)]
    · rw [if_neg l, if_neg (by lia)]
noncomputable def TS.start (t : TS) (a : Cr) : TS := { t.wc a with rows := [], noted := none, pend := none, idle := none, eq := fun _ => none, eqn := 0, groups := [], leq := fun _ => none, leqn := 0, lp := none, rid := 0, ex := fun _ => none }
theorem Ek_buf {t : TS} {a : Cr} : upd (upd (upd (upd (E false (t.fresh.wc a)) 11 (.ns [("list", .ins 276 12)])) 12 (.ns [("rows", .ref 13), ("dropped", .int 0), ("is_on", .bool true), ("point_before", .none), ("noted_tick", .none)])) 13 (.list [])) 6
    (.ns (setF "undo" (.ins 810 11) (bufF false (t.fresh.wc a)))) = Ek 14 (t.start a) := by
  funext k
  rcases Nat.lt_or_ge k 14 with h | h
  · refine AllLt.get (g := Ek 14 (t.start a)) (n := 14) ?_ h
    exact ⟨⟨⟨⟨⟨⟨⟨⟨⟨⟨⟨⟨⟨⟨trivial, rfl⟩, rfl⟩, rfl⟩, rfl⟩, rfl⟩, rfl⟩, rfl⟩, rfl⟩, rfl⟩, rfl⟩, rfl⟩, rfl⟩, rfl⟩, rfl⟩
  · unfold upd Ek
    rw [if_neg (by lia), if_neg (by lia), if_neg (by lia), if_neg (by lia), if_neg (by lia), E_none _ rfl (by lia)]
theorem c_buffer {c} (hK : KOk c) {t} {y : List Int} (hy : y.length ≤ 100) (hr : t.rows = []) (hn : t.noted = none) :
    FC c 38 9 (.ref 833) [.lst (iV y), .int 1] (E5 t) 6 (fun b o' nx' => ∃ a : Cr, b = .ins 751 6 ∧ o' = Ek 14 (t.start a) ∧ nx' = 14 ∧ a.sv = a.tk ∧ Is { a with rows := [], noted := none } ⟨y, [], none, a.tk, a.tk⟩) (fun _ _ => False) := by
  refine FC_K 60 hK (.cons (g_Buffer hK) (.cons (g_Recording hK) (.cons (g_insert hK) .nil))) ["codes", "the_point"] [] rfl (by kernel_rfl) .nil (by walk_at "binds") (by decide +kernel) (by decide +kernel) rfl rfl rfl ?_
  intro yd QR hQX hQR
  have hb := (k_buffer hK (t := t)).imp (Q' := fun b o' nx' => b = .ins 751 6 ∧ o' = E false t.fresh ∧ nx' = 11) (QE' := fun _ _ => False) (fun _ _ _ q => ⟨q.1, q.2.2, q.2.1⟩) fun _ _ q => q
  have hi := c_insert0 hK (t := t.fresh) (y := y) ⟨rfl, rfl, rfl, rfl, rfl⟩ hy
  repeat' (walk_at "st")
  refine call_eq hb rfl ?_
  repeat' (walk_at "st")
  refine call_of3 hi rfl fun a J => ?_
  have hz : (1 : Int) ≤ a.zv := by have := J.zv; lia
  repeat' (walk_at "st")
  refine call_eq (c_goto hK (t := t.fresh.wc a) (i := 1) (by lia) hz) rfl ?_
  repeat' (walk_at "st")
  refine call_eq (c_setmod hK) rfl ?_
  repeat' (walk_at "st")
  refine call_eq (k_recording hK) rfl ?_
  repeat' (walk_at "st")
  refine put_as (Ek_buf (a := { a with pt := 1, sv := a.tk })) ?_
  walk_at "sts"
  exact ⟨{ a with pt := 1, sv := a.tk }, rfl, rfl, rfl, rfl, J.gap, J.zv, Int.le_refl _, hz, J.len, rfl, rfl, rfl, rfl⟩

noncomputable def TS.dk (t : TS) (d : List Int × Int) : TS := { t with d0 := d.1, dn := d.2 }
structure DkOk (t : TS) : Prop where
  d0 : t.d0.length ≤ 2 ^ 20
  m1 : 0 < t.mix.length
  m2 : t.mix.length ≤ 2 ^ 20
theorem DkOk.dk {t : TS} (h : DkOk t) {d : List Int × Int} (l : d.1.length ≤ t.d0.length) : DkOk (t.dk d) := ⟨Nat.le_trans l h.d0, h.m1, h.m2⟩
theorem c_drawE {c} (hK : KOk c) {un : Bool} {t : TS} {nx many : Nat} (D : DkOk t) (hm : 0 < many) (hM : many ≤ 2 ^ 20) :
    FC c 38 1 (.ref 826) [.ref 5, .int (many : Nat)] (E un t) nx (fun b o' nx' => ∃ a : Nat × List Int × Int, b = .int (a.1 : Nat) ∧ o' = E un (t.dk a.2) ∧ nx' = nx ∧ a.1 < many ∧ DkOk (t.dk a.2)) (fun _ _ => False) := by
  have h := c_draw hK (o := E un t) (d0 := t.d0) (mix := t.mix) (dn := t.dn) (nx := nx) hm hM D.d0 D.m1 D.m2
  rw [← deckE] at h
  refine h.imp (fun b o' nx' q => ?_) fun _ _ q => q
  obtain ⟨a, e1, e2, e3, e4, e5⟩ := q
  refine ⟨a, e1, ?_, e3, e4, D.dk e5⟩
  rw [e2, deckE']; rfl
theorem c_sizeP {c} (hK : KOk c) {t nx} {p : Pv} (I : Is t.cr p) : FC c 38 2 (.ref 699) [.ins 751 6] (E true t) nx (fun b o' nx' => b = .int (p.x.length : Nat) ∧ o' = E true t ∧ nx' = nx) (fun _ _ => False) :=
  (c_bsize hK (Nat.le_trans I.len (by decide))).imp (fun b o' nx' q => ⟨by rw [q.1]; exact congrArg V.int (gap_size I.gap), q.2⟩) fun _ _ q => q
theorem c_textP {c} (hK : KOk c) {t nx} {p : Pv} (I : Is t.cr p) : FC c 38 2 (.ref 713) [.ins 751 6, .int 1, .int ((p.x.length : Nat) + 1)] (E true t) nx (fun b o' nx' => b = .lst (iV p.x) ∧ o' = E true t ∧ nx' = nx) (fun _ _ => False) :=
  (c_bcodes hK (s := 0) (e := p.x.length) I.gap (Nat.zero_le _) (Nat.le_refl _) (Nat.le_trans I.len (by decide))).imp (fun b o' nx' q => ⟨by rw [q.1, List.drop_zero, Nat.sub_zero, List.take_length], q.2⟩) fun _ _ q => q
noncomputable def TS.edB (t : TS) (jn : Bool) (x : List Int) : TS := match jn with
  | true => t
  | false => ((t.sRows (bndS t.rows)).sGroups (t.groups ++ [x]))
noncomputable def Pv.edB (p : Pv) (jn : Bool) : Pv := match jn with
  | true => p
  | false => p.bnd
inductive Edit (p : Pv) (f : Int) : Pv → Prop
  | del (s e : Nat) (g : Bool) : s < e → e ≤ p.x.length → e ≤ s + 2 → Edit p f (p.goes s e g).tick
  | ins (s k : Nat) : s ≤ p.x.length → 1 ≤ k → k ≤ 2 → Edit p f (p.comes s ([f, f + 1].take k)).tick
theorem Is.edB {t : TS} {p : Pv} {jn : Bool} {x : List Int} (I : Is t.cr p) : Is (t.edB jn x).cr (p.edB jn) := by
  induction jn
  · exact ⟨I.gap, I.zv, I.pt1, I.pt2, I.len, by show bndS t.rows = bndS p.rows; rw [show t.rows = p.rows from I.rows], I.noted, I.tk, I.sv⟩
  · exact I
theorem Nx.edB {t : TS} {nx : Nat} {jn : Bool} {x : List Int} (h : Nx t nx) : Nx (t.edB jn x) nx := by induction jn <;> exact ⟨h.lo, h.rw, h.ex, h.rx⟩
theorem Nx.dk {t : TS} {nx : Nat} {d : List Int × Int} (h : Nx t nx) : Nx (t.dk d) nx := ⟨h.lo, h.rw, h.ex, h.rx⟩
theorem E_grp {t : TS} {x : List Int} : upd (E true t) 16 (.list (t.groups.map (fun g => .lst (iV g)) ++ [.lst (iV x)])) = E true (t.sGroups (t.groups ++ [x])) := by
  rw [show t.groups.map (fun g => V.lst (iV g)) ++ [.lst (iV x)] = (t.groups ++ [x]).map (fun g => V.lst (iV g)) by simp]
  exact E_upd rfl (by decide) rfl rfl
theorem del_at {n s r : Nat} (h : decide ((n : Int) > 2) = true) (hs : s ≤ n) : ∃ a e : Nat, (if (n : Int) < 1 + (s : Int) then (n : Int) else 1 + (s : Int)) = ((a + 1 : Nat) : Int) ∧
    (if ((a + 1 : Nat) : Int) + 1 + (r : Int) < (n : Int) + 1 then ((a + 1 : Nat) : Int) + 1 + (r : Int) else (n : Int) + 1) = ((e + 1 : Nat) : Int) ∧ a < e ∧ e ≤ n ∧ (r < 2 → e ≤ a + 2) := by
  have h := of_decide_eq_true h
  refine ⟨min s (n - 1), min (min s (n - 1) + 1 + r) n, ?_, ?_, ?_, ?_, ?_⟩
  · split <;> lia
  · split <;> lia
  all_goals lia
theorem pickF {f : Int} {r : Nat} : pickV [V.int f, V.int (f + 1)] none (some (1 + (r : Int))) = iV ([f, f + 1].take (r + 1)) := by
  have := pick_to [V.int f, V.int (f + 1)] (r + 1)
  rw [show ((r + 1 : Nat) : Int) = 1 + (r : Int) by lia] at this
  rw [this]; unfold iV; rw [List.map_take]; rfl
noncomputable def edL (x : List Int) (n s : Nat) (f : Int) (jn : Bool) : List (Str × V) := [("start", .int (1 + (s : Nat))), ("size", .int (n : Nat)), ("text", .lst (iV x)), ("joins", .bool jn), ("groups", .ref 16), ("fresh", .int f), ("buffer", .ins 751 6), ("deck", .ref 5)]
noncomputable def edM (t : TS) (d : List Int × Int) (x : List Int) (n s : Nat) (f : Int) (jn : Bool) (nx : Nat) (σ : St) : Prop := σ = ⟨edL x n s f jn, E true ((t.edB jn x).dk d), nx⟩
set_option tactic.hygienic true in
theorem c_edit {c} (hK : KOk c) {t nx} {p : Pv} {f : Int} {jn : Bool} (hn : Nx t nx) (I : Is t.cr p) (D : DkOk t) (hx : p.x.length ≤ 1000) (hr : p.rows.length ≤ 2 ^ 22) (hg : t.groups.length ≤ 2 ^ 20) :
    FC c 38 9 (.ref 840) [.ref 5, .ins 751 6, .int f, .ref 16, .bool jn] (E true t) nx (fun b o' nx' => ∃ a : Cr × (List Int × Int) × Nat, b = .none ∧ o' = E true (((t.edB jn p.x).wc a.1).dk a.2.1) ∧ nx' = a.2.2 ∧ nx ≤ a.2.2 ∧ DkOk (t.dk a.2.1) ∧ ∃ q, Edit (p.edB jn) f q ∧ Is a.1 q) (fun _ _ => False) := by
  refine FC_K 60 hK (.cons (g_law_draw hK) (.cons (g_delete hK) (.cons (g_insert hK) (.cons (g_min hK) .nil)))) ["deck", "buffer", "fresh", "groups", "joins"] [] rfl (by kernel_rfl) .nil (by walk_at "binds") (by decide +kernel) (by decide +kernel) rfl rfl rfl ?_
  intro yd QR hQX hQR
  have hS := c_sizeP hK (nx := nx) I
  have hT := c_textP hK (nx := nx) I
  have hd := c_drawE hK (un := true) (nx := nx) (many := p.x.length + 1) D (Nat.succ_pos _) (by lia)
  have hrt : t.rows.length ≤ 2 ^ 24 := by rw [show t.rows = p.rows from I.rows]; exact Nat.le_trans hr (by decide)
  repeat' (walk_at "st")
  refine call_eq hS rfl ?_
  repeat' (walk_at "st")
  refine call_eq hT rfl ?_
  repeat' (walk_at "st")
  refine call_eq hS rfl ?_
  repeat' (walk_at "st")
  refine call_of3 hd rfl fun a ha => ?_
  obtain ⟨s, d⟩ := a
  obtain ⟨hs, D1⟩ := ha
  repeat' (walk_at "stj")
  first | refine IfOr.two (edM t d p.x p.x.length s f jn nx) ?_ ?_ | refine AsgOr.two (edM t d p.x p.x.length s f jn nx) ?_ ?_
  · walk_at "stjs"
    · exact ⟨edL p.x p.x.length s f true, _, _, ⟨rfl, rfl, rfl, rfl, rfl, rfl, rfl, rfl, trivial⟩, fun _ _ e => e, Nat.le_refl _, rfl⟩
    · refine call_eq (c_boundary hK (t := t.dk d) hrt) rfl ?_
      walk_at "stjs"
      refine ⟨by rw [List.length_map]; exact Nat.le_trans hg (by decide), put_as E_grp ?_⟩
      walk_at "stjs"
      exact ⟨edL p.x p.x.length s f false, _, _, ⟨rfl, rfl, rfl, rfl, rfl, rfl, rfl, rfl, trivial⟩, fun _ _ e => e, Nat.le_refl _, rfl⟩
  · rintro σ1 rfl
    have I2 : Is ((t.edB jn p.x).dk d).cr (p.edB jn) := Is.edB (t := t) I
    have N2 : Nx ((t.edB jn p.x).dk d) nx := hn.edB.dk
    have D2 : DkOk ((t.edB jn p.x).dk d) := by induction jn <;> exact ⟨D1.d0, D1.m1, D1.m2⟩
    have hxl : (p.edB jn).x.length = p.x.length := by induction jn <;> rfl
    have hrl : (p.edB jn).rows.length ≤ 2 ^ 23 := by
      induction jn
      · exact Nat.le_trans (bndS_len _) (Nat.le_trans (Nat.add_le_add_right hr 1) (by decide))
      · exact Nat.le_trans hr (by decide)
    have hDk : ∀ d', DkOk ((t.edB jn p.x).dk d') → DkOk (t.dk d') := fun d' h => ⟨h.d0, D1.m1, D1.m2⟩
    have hs' : s ≤ (p.edB jn).x.length := by rw [hxl]; exact Nat.le_of_lt_succ hs
    have hx' : (p.edB jn).x.length ≤ 1000 := by rw [hxl]; exact hx
    rw [← hxl] at hx
    generalize (p.edB jn) = P at I2 hxl hrl hs' hx' hQR
    generalize (t.edB jn p.x) = T at I2 N2 D2 hDk hQR ⊢
    have hd2 := c_drawE hK (un := true) (nx := nx) (many := 2) D2 (by decide) (by decide)
    have h1s : (1 : Int) ≤ 1 + (s : Nat) := by lia
    have hz : (1 : Int) + (s : Nat) ≤ (T.dk d).zv := by have := I2.zv; have : (T.dk d).zv = (P.x.length : Int) + 1 := this; lia
    repeat' (walk_at "stj")
    first | refine IfOr.one ?_ | refine AsgOr.one ?_ | refine Or.inl ?_
    walk_at "stjs"
    · rename_i h
      refine call_of3 hd2 rfl fun a2 ha2 => ?_
      obtain ⟨s2, d2⟩ := a2
      obtain ⟨hs2, D3⟩ := ha2
      walk_at "stjs"
      · have hd3 := c_drawE hK (un := true) (nx := nx) (many := 2) D3 (by decide) (by decide)
        refine call_of3 hd3 rfl fun a3 ha3 => ?_
        obtain ⟨r, d3⟩ := a3
        obtain ⟨hr3, D4⟩ := ha3
        walk_at "sts"
        obtain ⟨a, e, e1, e2, h1, h2, h3⟩ := del_at (n := p.x.length) (s := s) (r := r) h (Nat.le_of_lt_succ hs)
        dsimp only
        rw [e1, e2]
        refine call_of3 (c_delete hK (t := ((T.dk d).dk d2).dk d3) (p := P) (s := a) (e := e) N2.dk.dk I2 h1 (by rw [hxl]; exact h2) hx' hrl) rfl fun a' J => ?_
        walk_at "sts"
        exact ⟨(a', d3, nx + 1), rfl, rfl, rfl, Nat.le_succ _, hDk d3 ⟨D4.d0, D4.m1, D4.m2⟩, _, .del a e _ h1 (by rw [hxl]; exact h2) (h3 hr3), J⟩
      · refine call_eq (c_goto hK (un := true) (t := (T.dk d).dk d2) (i := 1 + (s : Nat)) (by lia) hz) rfl ?_
        have hd4 := c_drawE hK (un := true) (nx := nx) (many := 2) (t := (((T.dk d).dk d2).sPt (1 + (s : Nat)))) ⟨D3.d0, D3.m1, D3.m2⟩ (by decide) (by decide)
        repeat' (walk_at "st")
        refine call_of3 hd4 rfl fun a3 ha3 => ?_
        obtain ⟨r, d3⟩ := a3
        obtain ⟨hr3, D4⟩ := ha3
        walk_at "sts"
        dsimp only
        rw [pickF]
        have I3 : Is (((((T.dk d).dk d2).sPt (1 + (s : Nat))) : TS).dk d3).cr P := ⟨I2.gap, I2.zv, h1s, hz, I2.len, I2.rows, I2.noted, I2.tk, I2.sv⟩
        refine call_of3 (c_insert hK (t := ((((T.dk d).dk d2).sPt (1 + (s : Nat)))).dk d3) (p := P) (s := s) (y := [f, f + 1].take (r + 1)) I3 (by show (1 : Int) + (s : Nat) = _; lia) hs' (by simp) (Nat.le_trans (List.length_take_le _ _) (by lia)) hx' hrl) rfl fun a' J => ?_
        walk_at "sts"
        exact ⟨(a', d3, nx), rfl, rfl, rfl, Nat.le_refl _, hDk d3 ⟨D4.d0, D4.m1, D4.m2⟩, _, .ins s (r + 1) hs' (Nat.succ_pos _) hr3, J⟩
    · refine call_eq (c_goto hK (un := true) (t := T.dk d) (i := 1 + (s : Nat)) (by lia) hz) rfl ?_
      have hd4 := c_drawE hK (un := true) (nx := nx) (many := 2) (t := ((T.dk d).sPt (1 + (s : Nat)))) ⟨D2.d0, D2.m1, D2.m2⟩ (by decide) (by decide)
      repeat' (walk_at "st")
      refine call_of3 hd4 rfl fun a3 ha3 => ?_
      obtain ⟨r, d3⟩ := a3
      obtain ⟨hr3, D4⟩ := ha3
      walk_at "sts"
      dsimp only
      rw [pickF]
      have I3 : Is ((((T.dk d).sPt (1 + (s : Nat))) : TS).dk d3).cr P := ⟨I2.gap, I2.zv, h1s, hz, I2.len, I2.rows, I2.noted, I2.tk, I2.sv⟩
      refine call_of3 (c_insert hK (t := (((T.dk d).sPt (1 + (s : Nat)))).dk d3) (p := P) (s := s) (y := [f, f + 1].take (r + 1)) I3 (by show (1 : Int) + (s : Nat) = _; lia) hs' (by simp) (Nat.le_trans (List.length_take_le _ _) (by lia)) hx' hrl) rfl fun a' J => ?_
      walk_at "sts"
      exact ⟨(a', d3, nx), rfl, rfl, rfl, Nat.le_refl _, hDk d3 ⟨D4.d0, D4.m1, D4.m2⟩, _, .ins s (r + 1) hs' (Nat.succ_pos _) hr3, J⟩

theorem E_lp {t : TS} {i : Int} : upd (E true t) 18 (.smap (updS (stF t) "pending" (some (.int i))) 3) = E true (t.sLp (some i)) := by
  have : updS (stF t) "pending" (some (.int i)) = stF (t.sLp (some i)) := by
    funext y
    unfold stF updS
    by_cases h : y = "pending"
    · simp [h, oV, TS.sLp]
    · simp [h]
  rw [this]
  exact E_upd rfl (by decide) rfl rfl
theorem E_leq {t : TS} {i j : Int} : upd (E true t) 17 (.imap (updI (eqV t.leq) i (some (.int j))) (t.leqn + 1)) = E true ((t.sLeq (fun b => if b = i then some j else t.leq b)).sLeqn (t.leqn + 1)) := by
  have : updI (eqV t.leq) i (some (.int j)) = eqV (fun b => if b = i then some j else t.leq b) := by
    funext b
    show (if b = i then some (V.int j) else (t.leq b).map V.int) = Option.map V.int (if b = i then some j else t.leq b)
    split <;> rfl
  rw [this]
  exact E_upd rfl (by decide) rfl rfl
noncomputable def TS.setLp (t : TS) (i : Option Int) : TS := { t with lp := i }
noncomputable def TS.grp (t : TS) (x : List Int) : TS := { t with groups := t.groups ++ [x] }
noncomputable def TS.setLeq (t : TS) (i j : Int) : TS := { t with leq := fun b => if b = i then some j else t.leq b, leqn := t.leqn + 1 }
theorem E_lpL {t : TS} {l : Option Int} {i : Int} : upd (E true (t.setLp l)) 18 (.smap (updS (stF (t.setLp l)) "pending" (some (.int i))) 3) = E true (t.setLp (some i)) := E_lp (t := t.setLp l)
theorem E_grpL {t : TS} {l : Option Int} {x : List Int} : upd (E true (t.setLp l)) 16 (.list (t.groups.map (fun g => .lst (iV g)) ++ [.lst (iV x)])) = E true ((t.grp x).setLp l) := E_grp (t := t.setLp l)
theorem E_leqL {t : TS} {l : Option Int} {i j : Int} : upd (E true (t.setLp l)) 17 (.imap (updI (eqV t.leq) i (some (.int j))) (t.leqn + 1)) = E true ((t.setLeq i j).setLp l) := E_leq (t := t.setLp l)
theorem grp_at {t : TS} {x : List Int} {i : Nat} (h : i ≤ t.groups.length) : atV ((t.groups ++ [x]).map fun g => V.lst (iV g)) (i : Int) = some (.lst (iV ((t.groups ++ [x]).getD i []))) := by
  unfold atV
  have : i < (t.groups ++ [x]).length := by simp; lia
  rw [if_pos (by lia), Int.toNat_natCast, List.getElem?_map, List.getD_eq_getElem?_getD, List.getElem?_eq_getElem this]; rfl
noncomputable def TS.undone (t : TS) (x : List Int) (k cnt : Nat) : TS := match cnt with
  | 0 => t.setLp (some (k : Int))
  | c + 1 => ((t.grp x).setLeq ((t.groups.length : Int) + 1) ((k - (c + 1) : Nat) : Int)).setLp (some ((k - (c + 1) : Nat) : Int))
theorem put_leq {t : TS} {x : List Int} {k n : Nat} : upd (E true ((t.grp x).setLp (some ((k - (n + 1) : Nat) : Int)))) 17 (.imap (updI (eqV t.leq) (((t.groups ++ [x]).map fun g => V.lst (iV g)).length : Nat) (some (.int ((k - (n + 1) : Nat) : Int)))) (t.leqn + 1)) = E true (t.undone x k (n + 1)) := by
  rw [show ((((t.groups ++ [x]).map fun g => V.lst (iV g)).length : Nat) : Int) = (t.groups.length : Int) + 1 by simp]
  exact E_leqL (t := t.grp x)
noncomputable def wordL (t : TS) (a0 : Int) (only : Bool) : Str := match (t.leq a0).isSome, only with
  | true, false => "Redo"
  | _, _ => "Undo"
noncomputable def unL (x : List Int) (cnt : Nat) (w : Str) (only : Bool) (j : Int) : List (Str × V) := [("at", .int j), ("word", .str w), ("the_equal", .ref 17), ("groups", .ref 16), ("is_only", .bool only), ("count", .int (cnt : Nat)), ("text", .lst (iV x)), ("state", .ref 18)]
inductive SkipI (t : TS) (a0 : Int) (x : List Int) (cnt : Nat) (w : Str) (only : Bool) (k : Int) (nx : Nat) : St → Prop
  | mk (j : Int) (h : match only with | true => Skip t.leq j k | false => j = k) : SkipI t a0 x cnt w only k nx ⟨unL x cnt w only j, E true (t.setLp (some a0)), nx⟩
noncomputable def atL (σ : St) : Nat := match σ.m.lookup ("at" : Str) with
  | some v => (match v with | .int i => i.toNat | _ => 0)
  | none => 0
theorem wl_t {t : TS} {a0 : Int} : wordL t a0 true = "Undo" := by unfold wordL; cases (t.leq a0).isSome <;> rfl
theorem wl_f {t : TS} {a0 : Int} (h : (false ^^ (eqV t.leq a0).isSome) = true) : wordL t a0 false = "Redo" := by
  have h : (t.leq a0).isSome = true := by simpa [eqV] using h
  unfold wordL; rw [h]
theorem wl_n {t : TS} {a0 : Int} {only : Bool} (h : (false ^^ (eqV t.leq a0).isSome) = false) : wordL t a0 only = "Undo" := by
  have h : (t.leq a0).isSome = false := by simpa [eqV] using h
  unfold wordL; rw [h]
theorem max_sub {k n : Nat} : (if ((k : Int) - (n : Int)) > 0 then ((k : Int) - (n : Int)) else 0) = ((k - n : Nat) : Int) := by split <;> lia
set_option tactic.hygienic true in
theorem c_undone {c} (hK : KOk c) {t nx} {x : List Int} {cnt k : Nat} {only : Bool} {a0 : Int} (hS : match only with | true => Skip t.leq a0 (k : Nat) | false => a0 = (k : Nat)) (hd : ∀ a b, t.leq a = some b → 0 ≤ b ∧ b < a) (hk : k ≤ t.groups.length) (hg : t.groups.length ≤ 2 ^ 20) (hn : t.leqn ≤ 2 ^ 20) :
    FC c 38 2 (.ref 847) [.ref 18, .lst (iV x), .int (cnt : Nat), .bool only] (E true (t.setLp (some a0))) nx (fun b o' nx' => (k = 0 → b = .tup [.lst (iV x), .str "refused"] ∧ o' = E true (t.setLp (some a0)) ∧ nx' = nx) ∧ (k ≠ 0 → b = .tup [.lst (iV (if cnt = 0 then x else (t.groups ++ [x]).getD (k - cnt) [])), .str (wordL t a0 only)] ∧ o' = E true (t.undone x k cnt) ∧ nx' = nx)) (fun _ _ => False) := by
  refine FC_K 60 hK (.cons (g_len hK) (.cons (g_max hK) .nil)) ["state", "text", "count", "is_only"] [] rfl (by kernel_rfl) .nil (by walk_at "binds") (by decide +kernel) (by decide +kernel) rfl rfl rfl ?_
  intro yd QR hQX hQR
  have hgl : (t.groups.map fun g => V.lst (iV g)).length ≤ 2 ^ 24 := by rw [List.length_map]; exact Nat.le_trans hg (by decide)
  have hgl2 : ((t.groups ++ [x]).map fun g => V.lst (iV g)).length ≤ 2 ^ 24 := by rw [List.length_map, List.length_append]; exact Nat.le_trans (Nat.add_le_add_right hg 1) (by decide)
  have hn2 : t.leqn ≤ 2 ^ 24 := Nat.le_trans hn (by decide)
  repeat' (walk_at "stj")
  first | refine IfOr.two (SkipI t a0 x cnt (wordL t a0 only) only (k : Nat) nx) ?_ ?_ | refine AsgOr.two (SkipI t a0 x cnt (wordL t a0 only) only (k : Nat) nx) ?_ ?_
  · walk_at "stjs"
    · exact ⟨unL x cnt "Undo" true a0, ⟨rfl, rfl, rfl, rfl, rfl, rfl, rfl, rfl, trivial⟩, by rw [wl_t]; exact .mk a0 hS⟩
    · rename_i h
      exact ⟨unL x cnt "Redo" false a0, ⟨rfl, rfl, rfl, rfl, rfl, rfl, rfl, rfl, trivial⟩, by rw [wl_f (t := t) h]; exact .mk a0 hS⟩
    · rename_i h
      exact ⟨unL x cnt "Undo" only a0, ⟨rfl, rfl, rfl, rfl, rfl, rfl, rfl, rfl, trivial⟩, by rw [wl_n (t := t) h]; exact .mk a0 hS⟩
  rintro σ1 (@⟨j, hj⟩)
  walk_at "stjs"
  refine ⟨SkipI t a0 x cnt (wordL t a0 only) only (k : Nat) nx, atL, ⟨unL x cnt (wordL t a0 only) only j, ⟨rfl, rfl, rfl, rfl, rfl, rfl, rfl, rfl, trivial⟩, .mk j hj⟩, ?_⟩
  rintro σ2 (@⟨j, hj⟩)
  walk_at "stjs"
  · rename_i h
    have h : (t.leq j).isSome = true := by simpa [eqV, TS.setLp] using h
    obtain ⟨i, ei⟩ := Option.isSome_iff_exists.mp h
    refine ⟨.int i, by show (t.leq j).map V.int = _; rw [ei]; rfl, ?_⟩
    walk_at "stjs"
    refine ⟨unL x cnt (wordL t a0 true) true i, ⟨rfl, rfl, rfl, rfl, rfl, rfl, rfl, rfl, trivial⟩, .mk i (hj.some_inv ei), ?_⟩
    obtain ⟨h1, h2⟩ := hd _ _ ei
    show i.toNat < j.toNat
    lia
  · rename_i h
    have h : (t.leq j).isSome = false := by simpa [eqV, TS.setLp] using h
    obtain rfl : j = (k : Nat) := hj.none_inv (Option.not_isSome_iff_eq_none.mp (by rw [h]; decide))
    first | refine IfOr.one ?_ | refine AsgOr.one ?_ | refine Or.inl ?_
    walk_at "stjs"
    · rename_i h0
      have h0 : k = 0 := by simpa using h0
      exact ⟨fun _ => ⟨rfl, rfl, rfl⟩, fun q => absurd h0 q⟩
    · rename_i h0
      have h0 : k ≠ 0 := by simpa using h0
      rw [max_sub]
      refine put_as (E_lpL (i := ((k - cnt : Nat) : Int))) ?_
      repeat' (walk_at "stj")
      first | refine IfOr.one ?_ | refine AsgOr.one ?_ | refine Or.inl ?_
      walk_at "stjs"
      · rename_i h1
        obtain ⟨n, rfl⟩ : ∃ n, cnt = n + 1 := ⟨cnt - 1, by have := of_decide_eq_true h1; lia⟩
        refine put_as E_grpL ?_
        walk_at "stjs"
        refine ⟨_, grp_at (Nat.le_trans (Nat.sub_le _ _) hk), ?_⟩
        repeat' (walk_at "stj")
        refine put_as (put_leq (k := k) (n := n)) ?_
        walk_at "stjs"
        exact fun _ => ⟨rfl, rfl, rfl⟩
      · rename_i h1
        obtain rfl : cnt = 0 := by have := of_decide_eq_false h1; lia
        walk_at "stjs"
        exact fun _ => ⟨rfl, rfl, rfl⟩
  · obtain rfl : j = (k : Nat) := hj
    first | refine IfOr.one ?_ | refine AsgOr.one ?_ | refine Or.inl ?_
    walk_at "stjs"
    · rename_i h0
      have h0 : k = 0 := by simpa using h0
      exact ⟨fun _ => ⟨rfl, rfl, rfl⟩, fun q => absurd h0 q⟩
    · rename_i h0
      have h0 : k ≠ 0 := by simpa using h0
      rw [max_sub]
      refine put_as (E_lpL (i := ((k - cnt : Nat) : Int))) ?_
      repeat' (walk_at "stj")
      first | refine IfOr.one ?_ | refine AsgOr.one ?_ | refine Or.inl ?_
      walk_at "stjs"
      · rename_i h1
        obtain ⟨n, rfl⟩ : ∃ n, cnt = n + 1 := ⟨cnt - 1, by have := of_decide_eq_true h1; lia⟩
        refine put_as E_grpL ?_
        walk_at "stjs"
        refine ⟨_, grp_at (Nat.le_trans (Nat.sub_le _ _) hk), ?_⟩
        repeat' (walk_at "stj")
        refine put_as (put_leq (k := k) (n := n)) ?_
        walk_at "stjs"
        exact fun _ => ⟨rfl, rfl, rfl⟩
      · rename_i h1
        obtain rfl : cnt = 0 := by have := of_decide_eq_false h1; lia
        walk_at "stjs"
        exact fun _ => ⟨rfl, rfl, rfl⟩

noncomputable def TS.setRed (t : TS) (g : List (List Int)) (m : Int → Option Int) (l : Option Int) : TS := { t with groups := g, leq := m, lp := l }
noncomputable def popM (m : Int → Option Int) (n : Nat) : Int → Option Int := fun b => if b = (n : Int) then none else m b
noncomputable def redoL : Nat → List (List Int) → (Int → Option Int) → List Int → Option Int → Bool × List (List Int) × (Int → Option Int) × List Int × Option Int
  | 0, g, m, x, l => (true, g, m, x, l)
  | k + 1, g, m, x, l => match m (g.length : Nat) with
    | none => (false, g, m, x, l)
    | some _ => redoL k g.dropLast (popM m g.length) (g.getLastD []) (popM m g.length (g.dropLast.length : Nat))
theorem redoL_none {k : Nat} {g : List (List Int)} {m : Int → Option Int} {x : List Int} {l : Option Int} (h : m (g.length : Nat) = none) : redoL (k + 1) g m x l = (false, g, m, x, l) := by
  rw [redoL.eq_def]; dsimp only; rw [h]
theorem redoL_some {k : Nat} {g : List (List Int)} {m : Int → Option Int} {x : List Int} {l : Option Int} {j : Int} (h : m (g.length : Nat) = some j) : redoL (k + 1) g m x l = redoL k g.dropLast (popM m g.length) (g.getLastD []) (popM m g.length (g.dropLast.length : Nat)) := by
  rw [redoL.eq_def]; dsimp only; rw [h]
theorem glen (g : List (List Int)) : (((g.map fun g => V.lst (iV g)).length : Nat) : Int) = (g.length : Int) := by simp
theorem put_popq {t : TS} {g : List (List Int)} {m : Int → Option Int} {l : Option Int} : upd (E true (t.setRed g m l)) 17 (.imap (updI (eqV m) ((g.map fun g => V.lst (iV g)).length : Nat) none) t.leqn) = E true (t.setRed g (popM m g.length) l) := by
  rw [glen]
  have : updI (eqV m) (g.length : Int) none = eqV (popM m g.length) := by
    funext b
    show (if b = (g.length : Int) then none else (m b).map V.int) = Option.map V.int (if b = (g.length : Int) then none else m b)
    split <;> rfl
  rw [this]
  exact E_upd rfl (by decide) rfl rfl
theorem put_popg {t : TS} {g : List (List Int)} {m : Int → Option Int} {l : Option Int} : upd (E true (t.setRed g m l)) 16 (.list ((g.map fun g => V.lst (iV g)).eraseIdx ((g.map fun g => V.lst (iV g)).length - 1))) = E true (t.setRed g.dropLast m l) := by
  rw [show (g.map fun g => V.lst (iV g)).eraseIdx ((g.map fun g => V.lst (iV g)).length - 1) = g.dropLast.map fun g => V.lst (iV g) by rw [List.eraseIdx_length_sub_one, List.map_dropLast]]
  exact E_upd rfl (by decide) rfl rfl
theorem put_pl {t : TS} {g : List (List Int)} {m : Int → Option Int} {l : Option Int} : upd (E true (t.setRed g m l)) 18 (.smap (updS (stF (t.setRed g m l)) "pending" (some ((eqV m ((g.map fun g => V.lst (iV g)).length : Nat)).getD .none))) 3) = E true (t.setRed g m (m (g.length : Nat))) := by
  rw [glen, getD_none]
  have : updS (stF (t.setRed g m l)) "pending" (some (oV (m (g.length : Nat)))) = stF (t.setRed g m (m (g.length : Nat))) := by
    funext y
    unfold stF updS
    by_cases h : y = "pending"
    · simp [h, TS.setRed]
    · simp [h]
  rw [this]
  exact E_upd rfl (by decide) rfl rfl
theorem last_at {g : List (List Int)} (h : 0 < g.length) : (g.map fun g => V.lst (iV g))[(g.map fun g => V.lst (iV g)).length - 1]? = some (.lst (iV (g.getLastD []))) := by
  rw [List.length_map, List.getElem?_map, List.getLastD_eq_getLast?, List.getLast?_eq_getElem?, List.getElem?_eq_getElem (by lia)]; rfl
theorem popM_ok {m : Int → Option Int} {n : Nat} (hd : ∀ a b, m a = some b → 0 ≤ b ∧ b < a) : ∀ a b, popM m n a = some b → 0 ≤ b ∧ b < a := fun a b e => by
  unfold popM at e
  split at e
  · cases e
  · exact hd a b e
noncomputable def rlL (x : List Int) (cnt : Nat) : List (Str × V) := [("the_equal", .ref 17), ("groups", .ref 16), ("count", .int (cnt : Nat)), ("text", .lst (iV x)), ("state", .ref 18)]
inductive RedL (t : TS) (cnt nx : Nat) (R : Bool × List (List Int) × (Int → Option Int) × List Int × Option Int) (i : Nat) : St → Prop
  | mk (g : List (List Int)) (m : Int → Option Int) (x : List Int) (l : Option Int) (hg : g.length ≤ 2 ^ 20) (hd : ∀ a b, m a = some b → 0 ≤ b ∧ b < a) (h : redoL (cnt - i) g m x l = R) : RedL t cnt nx R i ⟨rlL x cnt, E true (t.setRed g m l), nx⟩
set_option tactic.hygienic true in
theorem c_redone {c} (hK : KOk c) {t nx} {x : List Int} {cnt : Nat} {R : Bool × List (List Int) × (Int → Option Int) × List Int × Option Int} (hR : redoL cnt t.groups t.leq x t.lp = R) (hd : ∀ a b, t.leq a = some b → 0 ≤ b ∧ b < a) (hg : t.groups.length ≤ 2 ^ 20) (hn : t.leqn ≤ 2 ^ 20) (hc : cnt ≤ 100) :
    FC c 38 2 (.ref 854) [.ref 18, .lst (iV x), .int (cnt : Nat)] (E true t) nx (fun b o' nx' => (R.1 = true ∧ (t.leq (t.groups.length : Nat)).isSome = true ∧ b = .tup [.lst (iV R.2.2.2.1), .str "Redo"] ∧ o' = E true (t.setRed R.2.1 R.2.2.1 (R.2.2.1 (R.2.1.length : Nat))) ∧ nx' = nx) ∨ ((R.1 = false ∨ t.leq (t.groups.length : Nat) = none) ∧ b = .tup [.lst (iV (match t.leq (t.groups.length : Nat) with | none => x | some _ => R.2.2.2.1)), .str "refused"] ∧ o' = E true (match t.leq (t.groups.length : Nat) with | none => t | some _ => t.setRed R.2.1 R.2.2.1 R.2.2.2.2) ∧ nx' = nx)) (fun _ _ => False) := by
  refine FC_K 60 hK (.cons (g_len hK) (.cons (g_range hK) .nil)) ["state", "text", "count"] [] rfl (by kernel_rfl) .nil (by walk_at "binds") (by decide +kernel) (by decide +kernel) rfl rfl rfl ?_
  intro yd QR hQX hQR
  repeat' (walk_at "stj")
  first | refine IfOr.one ?_ | refine AsgOr.one ?_ | refine Or.inl ?_
  walk_at "stjs"
  · rename_i h
    have e : t.leq (t.groups.length : Nat) = none := by simpa [eqV] using h
    refine Or.inr ⟨.inr e, ?_, ?_, rfl⟩ <;> rw [e] <;> rfl
  rename_i h
  obtain ⟨j0, e0⟩ : ∃ j, t.leq (t.groups.length : Nat) = some j := by
    cases e : t.leq (t.groups.length : Nat) with
    | none => rw [eqV, List.length_map, e] at h; cases h
    | some j => exact ⟨j, rfl⟩
  refine ⟨RedL t cnt nx R, ⟨rlL x cnt, ⟨rfl, rfl, rfl, rfl, rfl, trivial⟩, .mk t.groups t.leq x t.lp hg hd hR⟩, ?_, ?_⟩
  · rintro i σ2 hi (@⟨g, m, x2, l, hg2, hd2, h2⟩)
    obtain ⟨k, hk⟩ : ∃ k, cnt - i = k + 1 := ⟨cnt - i - 1, by lia⟩
    rw [hk] at h2
    have hgl : (g.map fun g => V.lst (iV g)).length ≤ 2 ^ 24 := by rw [List.length_map]; exact Nat.le_trans hg2 (by decide)
    repeat' (walk_at "stj")
    first | refine IfOr.one ?_ | refine AsgOr.one ?_ | refine Or.inl ?_
    walk_at "stjs"
    · rename_i h3
      have e : m (g.length : Nat) = none := by simpa [eqV, TS.setRed] using h3
      rw [redoL_none e] at h2
      subst h2
      refine Or.inr ⟨.inl rfl, ?_, ?_, rfl⟩ <;> rw [e0] <;> rfl
    · rename_i h3
      obtain ⟨j, e⟩ : ∃ j, m (g.length : Nat) = some j := by
        have h3 : (m (g.length : Nat)).isSome = true := by simpa [eqV, TS.setRed] using h3
        exact Option.isSome_iff_exists.mp h3
      rw [redoL_some e] at h2
      have hg3 : g.dropLast.length ≤ 2 ^ 20 := Nat.le_trans (by simp) hg2
      have hgl3 : (g.dropLast.map fun g => V.lst (iV g)).length ≤ 2 ^ 24 := by rw [List.length_map]; exact Nat.le_trans hg3 (by decide)
      have hpos : 0 < g.length := Int.ofNat_lt.mp (Int.lt_of_le_of_lt (hd2 _ _ e).1 (hd2 _ _ e).2)
      have hu : eqV m ((g.map fun g => V.lst (iV g)).length : Nat) = some (.int j) := by rw [glen]; show (m _).map V.int = _; rw [e]; rfl
      refine ⟨Nat.le_trans hn (by decide), .int j, hu, put_as put_popq ?_⟩
      walk_at "stjs"
      refine ⟨.lst (iV (g.getLastD [])), last_at (g := g) hpos, put_as put_popg ?_⟩
      repeat' (walk_at "stj")
      refine put_as (put_pl (g := g.dropLast) (m := popM m g.length)) ?_
      walk_at "stjs"
      exact ⟨rlL (g.getLastD []) cnt, ⟨rfl, rfl, rfl, rfl, rfl, trivial⟩, .mk _ _ _ _ hg3 (popM_ok hd2) (by rw [show cnt - (i + 1) = k by lia]; exact h2)⟩
  · rintro σ2 (@⟨g, m, x2, l, hg2, hd2, h2⟩)
    have hgl : (g.map fun g => V.lst (iV g)).length ≤ 2 ^ 24 := by rw [List.length_map]; exact Nat.le_trans hg2 (by decide)
    rw [Nat.sub_self] at h2
    subst h2
    repeat' (walk_at "stj")
    refine put_as put_pl ?_
    walk_at "stjs"
    exact Or.inl ⟨rfl, by rw [e0]; rfl, rfl, rfl, rfl⟩

section
variable {N L : Nat} {p : Pv} {G : List (List Int)} {leq eq : Int → Option Int} {Ss : List (List Row)} {K : List Row} {m : Bool}
theorem Dn.mono {m : Int → Option Int} {n k : Nat} (h : Dn m n) (l : n ≤ k) : Dn m k := fun a b e => by
  obtain ⟨i, j, h1, h2, h3, h4⟩ := h a b e; exact ⟨i, j, h1, h2, h3, Nat.le_trans h4 l⟩
theorem Dn.above {m : Int → Option Int} {n k : Nat} (h : Dn m n) (l : n < k) : m k = none := by
  cases e : m k with
  | none => rfl
  | some b => obtain ⟨i, j, h1, _, _, h4⟩ := h _ _ e; lia
theorem Skip.top {m : Int → Option Int} {k : Nat} (h : m k = none) (l : 0 < k) : ¬ Skip m k 0 := fun s => by
  have := s.none_inv h; lia
theorem txt_new {G : List (List Int)} {x y : List Int} : txt (G ++ [x]) y (G.length + 1) = y := by
  have := txt_at (G := G ++ [x]) (x := y)
  rw [List.length_append] at this; exact this
theorem Core.push {N' L' : Nat} {q : Pv} {T' : List Row} {leq' eq' : Int → Option Int} {m' : Bool} (c : Core N L p G leq eq Ss K m) (hN : N ≤ N') (b : Ab q q.x (flatB Ss ++ T') m') (g : Ng N' T' q.x p.x m)
    (hm : ∀ j : Nat, j ≤ G.length → leq' j = leq j) (hml : m' = false ↔ Skip leq' (G.length + 1 : Nat) 0) (hdn : Dn leq' (G.length + 1)) (hlx : ∀ i j : Nat, leq' i = some (j : Int) → txt (G ++ [p.x]) q.x i = txt (G ++ [p.x]) q.x j)
    (heq : ∀ a b, eq' a = some b ↔ ∃ i j : Nat, leq' i = some (j : Int) ∧ a = posB (Ss ++ [T']) i ∧ b = posB (Ss ++ [T']) j) (hL : (flatB Ss).length + T'.length + 2 ≤ L') :
    Core N' L' q (G ++ [p.x]) leq' eq' (Ss ++ [T']) (flatB Ss ++ T') m' where
  ab := b
  kb := .inr (by rw [flatB_app, flatB_one, List.append_assoc])
  len := by rw [List.length_append, List.length_append, c.len]; rfl
  gd := fun j S e => by
    rcases Nat.lt_or_ge j Ss.length with h | h
    · rw [List.getElem?_append_left h] at e
      obtain ⟨h1, h2⟩ := c.gd j S e
      rw [← c.len] at h
      rw [txt_app h, txt_app (Nat.le_of_lt h)]
      exact ⟨h1.mono hN, h2.trans (Skip.iff c.dn hdn hm (Nat.le_of_lt h)).symm⟩
    · rw [List.getElem?_append_right h] at e
      have hj : j = Ss.length := by
        rcases Nat.eq_zero_or_pos (j - Ss.length) with z | z
        · lia
        · rw [List.getElem?_eq_none (by rw [List.length_singleton]; exact z)] at e; exact nomatch e
      subst hj
      rw [Nat.sub_self] at e
      obtain rfl := Option.some.inj e
      rw [← c.len, txt_new, txt_app (Nat.le_refl _), txt_at]
      refine ⟨g.gd, ?_⟩
      rw [g.hd, Skip.iff c.dn hdn hm (Nat.le_refl _), ← c.ml]
      induction m <;> decide
  ml := by rw [List.length_append]; exact hml
  dn := by rw [List.length_append]; exact hdn
  lx := hlx
  eqr := heq
  xl := g.bk.len
  bd := by rw [flatB_app, flatB_one, List.length_append, List.length_append]; show _ + (_ + 1) + 1 ≤ _; lia
theorem Core.lq (c : Core N L p G leq eq Ss K m) {i j : Nat} (h : leq i = some (j : Int)) : j < i ∧ i ≤ G.length := by
  obtain ⟨i', j', h1, h2, h3, h4⟩ := c.dn _ _ h; lia
theorem edit_tx {P q : Pv} {f : Int} (h : Edit P f q) : Tx P P.x q q.x ∧ q.x.length ≤ P.x.length + 2 := by
  induction h with
  | del s e g h1 h2 h3 =>
    refine ⟨.goes s e g h1 h2, ?_⟩
    show (P.x.take s ++ P.x.drop e).length ≤ _
    rw [List.length_append, List.length_take, List.length_drop]; lia
  | ins s k h1 h2 h3 =>
    have hl : ([f, f + 1].take k).length ≤ 2 := List.length_take_le' _ _
    refine ⟨.comes s _ h1 (by obtain ⟨k, rfl⟩ : ∃ n, k = n + 1 := ⟨k - 1, by lia⟩; exact fun q => nomatch q), ?_⟩
    show (P.x.take s ++ _ ++ P.x.drop s).length ≤ _
    rw [comes_len h1]; lia
theorem Core.edit {q : Pv} {f : Int} (c : Core N L p G leq eq Ss K m) (hN : N + 2 ≤ 1000) (hL : 0 < L) (h : Edit p.bnd f q) : ∃ T', Core (N + 2) (4 * L) q (G ++ [p.x]) leq eq (Ss ++ [T']) (flatB Ss ++ T') true := by
  obtain ⟨t1, t2⟩ := edit_tx h
  have hx : q.x.length ≤ N + 2 := Nat.le_trans t2 (Nat.add_le_add_right c.xl 2)
  obtain ⟨T', a, g, l⟩ := tx_step hN (flatB_end Ss) (p := p.bnd) (T := []) (x := p.x) (m0 := m) (by rw [List.append_nil]; exact c.bnd.ab) (.inl ⟨rfl, rfl, rfl⟩) (Nat.le_trans c.xl (Nat.le_add_right _ _)) hx t1
  have hn : leq (G.length + 1 : Nat) = none := c.dn.above (Nat.lt_succ_self _)
  have := c.bd
  refine ⟨T', c.push (Nat.le_add_right _ _) a g (fun _ _ => rfl) ⟨(fun q => nomatch q), fun q => absurd q (Skip.top hn (Nat.succ_pos _))⟩ (c.dn.mono (Nat.le_succ _)) (fun i j e => ?_) (fun a b => (c.eqr a b).trans ⟨?_, ?_⟩) (by simp only [List.length_nil] at l; lia)⟩
  · obtain ⟨h1, h2⟩ := c.lq e
    rw [txt_app h2, txt_app (by lia)]; exact c.lx i j e
  · rintro ⟨i, j, h1, h2, h3⟩
    obtain ⟨k1, k2⟩ := c.lq h1
    rw [c.len] at k2
    exact ⟨i, j, h1, by rw [posB_app k2]; exact h2, by rw [posB_app (by lia)]; exact h3⟩
  · rintro ⟨i, j, h1, h2, h3⟩
    obtain ⟨k1, k2⟩ := c.lq h1
    rw [c.len] at k2
    exact ⟨i, j, h1, by rw [posB_app k2] at h2; exact h2, by rw [posB_app (by lia)] at h3; exact h3⟩
theorem Core.editJ {q : Pv} {f : Int} (c : Core N L p G leq eq Ss K m) (hN : N + 2 ≤ 1000) (hk : K ++ [.bnd] = flatB Ss) (h0 : leq G.length = none) (hm : m = true) (h : Edit p f q) : ∃ Ss' K', K' ++ [.bnd] = flatB Ss' ∧ Core (N + 2) (4 * L) q G leq eq Ss' K' true := by
  obtain ⟨t1, t2⟩ := edit_tx h
  have hx : q.x.length ≤ N + 2 := Nat.le_trans t2 (Nat.add_le_add_right c.xl 2)
  refine hideG fun R_ k_ => ?_
  obtain ⟨A, S, rfl, rfl⟩ := flat_last hk
  refine k_ ?_
  clear k_
  have hS : (A ++ [S])[A.length]? = some S := by simp
  have hA : G.length = A.length + 1 := by rw [c.len, List.length_append]; rfl
  obtain ⟨g1, g2⟩ := c.gd _ _ hS
  have hxl : txt G p.x (A.length + 1) = p.x := by rw [← hA, txt_at]
  rw [hxl] at g1
  obtain ⟨T', a, g, l⟩ := tx_step hN (flatB_end A) (x := txt G p.x A.length) (m0 := !hdU S) c.ab (.inr ⟨(g1.mono (Nat.le_add_right N 2)).bk, g1.tx, (Bool.not_not _).symm⟩) (Nat.le_trans c.xl (Nat.le_add_right _ _)) hx t1
  have hb := c.bd
  rw [flatB_app, flatB_one, List.length_append, List.length_append, List.length_singleton] at hb
  have hlow : ∀ {i j : Nat}, leq i = some (j : Int) → j < i ∧ i ≤ A.length := fun {i j} e => by
    obtain ⟨k1, k2⟩ := c.lq e
    refine ⟨k1, ?_⟩
    rcases Nat.lt_or_ge A.length i with z | z
    · rw [show i = G.length by lia, h0] at e; exact nomatch e
    · exact z
  refine ⟨A ++ [T'], flatB A ++ T', by rw [flatB_app, flatB_one, List.append_assoc], a, .inr (by rw [flatB_app, flatB_one, List.append_assoc]), by rw [hA, List.length_append]; rfl, fun j R e => ?_, ⟨(fun q => nomatch q), fun q => absurd q (Skip.top h0 (by lia))⟩, c.dn, fun i j e => ?_, fun a b => (c.eqr a b).trans ⟨?_, ?_⟩, hx, ?_⟩
  · rcases Nat.lt_or_ge j A.length with z | z
    · rw [List.getElem?_append_left z] at e
      have := c.gd j R (by rw [List.getElem?_append_left z]; exact e)
      rw [txt_lt (x := p.x) (y := q.x) (by lia), txt_lt (x := p.x) (y := q.x) (by lia)]
      exact ⟨this.1.mono (Nat.le_add_right _ _), this.2⟩
    · rw [List.getElem?_append_right z] at e
      have hj : j = A.length := by
        rcases Nat.eq_zero_or_pos (j - A.length) with z | z
        · lia
        · rw [List.getElem?_eq_none (by rw [List.length_singleton]; exact z)] at e; exact nomatch e
      subst hj
      rw [Nat.sub_self] at e
      obtain rfl := Option.some.inj e
      have hq : txt G q.x (A.length + 1) = q.x := by rw [← hA, txt_at]
      rw [hq, txt_lt (x := p.x) (y := q.x) (j := A.length) (by lia)]
      exact ⟨g.gd, by rw [g.hd, Bool.not_not]; exact g2⟩
  · obtain ⟨k1, k2⟩ := hlow e
    rw [txt_lt (x := p.x) (by lia), txt_lt (x := p.x) (y := q.x) (by lia)]; exact c.lx i j e
  · rintro ⟨i, j, h1, h2, h3⟩
    obtain ⟨k1, k2⟩ := hlow h1
    rw [posB_app k2] at h2
    rw [posB_app (by lia)] at h3
    exact ⟨i, j, h1, by rw [posB_app k2]; exact h2, by rw [posB_app (by lia)]; exact h3⟩
  · rintro ⟨i, j, h1, h2, h3⟩
    obtain ⟨k1, k2⟩ := hlow h1
    rw [posB_app k2] at h2
    rw [posB_app (by lia)] at h3
    exact ⟨i, j, h1, by rw [posB_app k2]; exact h2, by rw [posB_app (by lia)]; exact h3⟩
  · rw [flatB_app, flatB_one, List.length_append, List.length_append, List.length_singleton]; lia

noncomputable def leqU (leq : Int → Option Int) (n : Nat) (j : Int) : Int → Option Int := fun b => if b = (n : Int) + 1 then some j else leq b
theorem leqU_low {leq : Int → Option Int} {n : Nat} {j : Int} {i : Nat} (h : i ≤ n) : leqU leq n j i = leq i := if_neg fun q => by lia
theorem leqU_top {leq : Int → Option Int} {n : Nat} {j : Int} : leqU leq n j (n + 1 : Nat) = some j := if_pos (by lia)
theorem LastTx.above {l D S : List Row} (e : l = D ++ S) (h : LastTx S) : above l l.length = l.length := by
  have := above_in (L := l) (B := D) (S := S) (C := []) (by rw [e, List.append_nil]) h
  rw [e, List.length_append, ← e]; exact this
inductive UndoneS (N L : Nat) (p q : Pv) (G : List (List Int)) (leq eq : Int → Option Int) (Ss : List (List Row)) (k cnt : Nat) : Prop
  | mk (x : q.x = txt G p.x (k - cnt)) (ab : above q.rows q.rows.length = q.rows.length) (lt : p.bnd.rows.length < q.rows.length) (Ss' : List (List Row)) (K' : List Row) (m' : Bool)
      (c : Core N (4 * L) q (G ++ [p.x]) (leqU leq G.length (k - cnt : Nat)) (fun b => if b = (q.rows.length : Nat) then some (posB Ss (k - cnt) : Nat) else eq b) Ss' K' m') (kb : K' ++ [.bnd] = flatB Ss') (ps : ∀ j, j ≤ G.length → posB Ss' j = posB Ss j) : UndoneS N L p q G leq eq Ss k cnt
inductive Undone (N L : Nat) (p : Pv) (G : List (List Int)) (leq eq : Int → Option Int) (Ss : List (List Row)) (k cnt : Nat) : Prop
  | mk (ok : TurnsOk p.bnd cnt (posB Ss k)) (l1 : p.bnd.rows.length ≤ 2 ^ 22) (l2 : posB Ss k ≤ p.bnd.rows.length) (ab : above p.bnd.rows (posB Ss k) = posB Ss k) (q : Pv) (e : turns p.bnd cnt (posB Ss k) = (q, posB Ss (k - cnt))) (l3 : q.rows.length ≤ 2 ^ 22) (z : cnt = 0 → q = p.bnd) (s : 0 < cnt → 0 < k → UndoneS N L p q G leq eq Ss k cnt) : Undone N L p G leq eq Ss k cnt
set_option tactic.hygienic true in
theorem Core.undo (c : Core N L p G leq eq Ss K m) (hN : N ≤ 1000) (hL : 4 * L ≤ 2 ^ 22) {k cnt : Nat} (hk : k ≤ G.length) (hx : txt G p.x k = p.x) : Undone N L p G leq eq Ss k cnt := by
  have hb := c.bnd.ab
  have bd := c.bd
  have hkl : k ≤ Ss.length := c.len ▸ hk
  have hfl := flat_take_le Ss k
  have hrl : p.bnd.rows.length = (flatB Ss).length := by rw [hb.ro, List.length_map]
  obtain ⟨h1, q, T', m', h2, h3, h4, h5, h6, h7⟩ := turns_go hN (X := txt G p.x) (fun j S e => (c.gd j S e).1) (x0 := p.x) (m0 := m) cnt k [] p.bnd m hkl (by rw [hx, List.append_nil]; exact hb) (.inl ⟨rfl, hx, rfl⟩) (by simp only [List.length_nil]; lia)
  have hql : q.rows.length = (flatB Ss).length + T'.length := by rw [h3.ro, List.length_map, List.length_append]
  simp only [List.length_nil] at h5
  refine ⟨h1, by lia, by rw [hrl]; exact posB_le Ss k, by rw [hb.ro, above_un]; have := (above_pos c.lt [] hkl).1; rw [List.append_nil] at this; exact this, q, h2, by lia, fun z => (h6 (.inl z)).1, fun z1 z2 => ?_⟩
  obtain ⟨g, hfl⟩ := h7 z1 z2
  have hqx : q.x = txt G p.x (k - cnt) := h3.tx
  have hT : 0 < T'.length := by obtain ⟨S, r, e, _⟩ := g.tx; rw [e, List.length_append]; exact Nat.succ_pos _
  have hun : LastTx (T'.map (un q.sv)) := by
    obtain ⟨S, r, rfl, hr⟩ := g.tx
    exact ⟨S.map (un q.sv), un q.sv r, by rw [List.map_append]; rfl, by induction r <;> first | rfl | cases hr⟩
  have hlast : k - cnt < G.length := by lia
  have hS := List.getElem?_eq_getElem (l := Ss) (c.len ▸ hlast)
  have hm' := hfl _ hS
  obtain ⟨_, hd⟩ := c.gd _ _ hS
  have hdn : Dn (leqU leq G.length (k - cnt : Nat)) (G.length + 1) := fun a b e => by
    unfold leqU at e
    split at e
    · obtain rfl := Option.some.inj e; exact ⟨G.length + 1, k - cnt, by lia, rfl, by lia, Nat.le_refl _⟩
    · exact c.dn.mono (Nat.le_succ _) a b e
  have hpos : ∀ j, j ≤ G.length → posB (Ss ++ [T']) j = posB Ss j := fun j z => posB_app (c.len ▸ z)
  have htop : posB (Ss ++ [T']) (G.length + 1) = q.rows.length := by
    rw [c.len, posB_succ (S := T') (by simp), List.take_left' rfl, hql]
  have hcase : ∀ i j : Nat, leqU leq G.length (k - cnt : Nat) i = some (j : Int) → (i = G.length + 1 ∧ j = k - cnt) ∨ (leq i = some (j : Int) ∧ j < i ∧ i ≤ G.length) := fun i j e => by
    rcases Nat.lt_or_ge G.length i with z | z
    · refine hideG fun R_ k_ => ?_
      obtain ⟨i', j', q1, q2, q3, q4⟩ := hdn _ _ e
      refine k_ ?_
      clear k_
      obtain rfl : i = G.length + 1 := by lia
      rw [leqU_top] at e
      have := Option.some.inj e
      exact .inl ⟨rfl, by lia⟩
    · rw [leqU_low z] at e
      exact .inr ⟨e, c.lq e⟩
  refine ⟨hqx, LastTx.above (l := q.rows) (by rw [h3.ro, List.map_append]) hun, by lia, Ss ++ [T'], _, m', c.push (Nat.le_refl _) (by rw [← hqx] at h3; exact h3) (by rw [hqx]; exact g) (fun j z => leqU_low z) ?_ hdn (fun i j e => ?_) (fun a b => ⟨fun e => ?_, ?_⟩) (by lia), by rw [flatB_app, flatB_one, List.append_assoc], hpos⟩
  · rw [hm']
    have : Skip (leqU leq G.length (k - cnt : Nat)) (G.length + 1 : Nat) 0 ↔ Skip leq (k - cnt : Nat) 0 := ⟨fun s => (Skip.iff c.dn hdn (fun j z => leqU_low z) (Nat.le_of_lt hlast)).mp (s.some_inv leqU_top), fun s => .step leqU_top ((Skip.iff c.dn hdn (fun j z => leqU_low z) (Nat.le_of_lt hlast)).mpr s)⟩
    rw [this, ← hd]
    cases hdU Ss[k - cnt] <;> decide
  · rcases hcase i j e with ⟨rfl, rfl⟩ | ⟨e, z1, z2⟩
    · rw [txt_new, txt_app (Nat.le_of_lt hlast), hqx]
    · rw [txt_app z2, txt_app (by lia)]; exact c.lx i j e
  · split at e
    · rename_i z
      obtain rfl := Option.some.inj e
      exact ⟨G.length + 1, k - cnt, leqU_top, by rw [htop]; exact z, by rw [hpos _ (Nat.le_of_lt hlast)]⟩
    · refine hideG fun R_ k_ => ?_
      obtain ⟨i, j, e1, e2, e3⟩ := (c.eqr a b).mp e
      refine k_ ?_
      clear k_
      obtain ⟨z1, z2⟩ := c.lq e1
      exact ⟨i, j, by rw [leqU_low z2]; exact e1, by rw [hpos _ z2]; exact e2, by rw [hpos _ (by lia)]; exact e3⟩
  · rintro ⟨i, j, e1, e2, e3⟩
    rcases hcase i j e1 with ⟨rfl, rfl⟩ | ⟨e, z1, z2⟩
    · rw [if_pos (by rw [e2, htop]), e3, hpos _ (Nat.le_of_lt hlast)]
    · rw [hpos _ z2] at e2
      rw [hpos _ (by lia)] at e3
      have := posB_le Ss i
      rw [if_neg (by lia)]
      exact (c.eqr a b).mpr ⟨i, j, e, e2, e3⟩
end
structure Tk (p q : Pv) : Prop where
  sv : p.sv ≤ q.sv
  tk : p.tk ≤ q.tk
  le : q.sv ≤ q.tk
theorem exec_tk {p : Pv} (h : p.sv ≤ p.tk) (r : Row) : Tk p (p.exec r) := by
  have ht : p.tk ≤ p.tk + 1 := Int.le_of_lt (Int.lt_add_one_of_le (Int.le_refl _))
  induction r with
  | bnd => exact ⟨Int.le_refl _, Int.le_refl _, h⟩
  | unm k =>
    show Tk p (if k = p.sv then _ else p)
    split
    · exact ⟨h, Int.le_refl _, Int.le_refl _⟩
    · exact ⟨Int.le_refl _, Int.le_refl _, h⟩
  | ins a b => exact ⟨Int.le_refl _, ht, Int.le_trans h ht⟩
  | del a cs f => exact ⟨Int.le_refl _, ht, Int.le_trans h ht⟩
theorem runs_tk : ∀ (k : Nat) (p : Pv), p.sv ≤ p.tk → Tk p (runs p k).1
  | 0, p, h => ⟨Int.le_refl _, Int.le_refl _, h⟩
  | k + 1, p, h => by
    have h0 : Tk p p := ⟨Int.le_refl _, Int.le_refl _, h⟩
    unfold runs
    cases p.rows[k]? with
    | none => exact h0
    | some r =>
      have go : Tk p (runs (p.exec r) k).1 := by
        have h1 := exec_tk h r
        have h2 := runs_tk k (p.exec r) h1.le
        exact ⟨Int.le_trans h1.sv h2.sv, Int.le_trans h1.tk h2.tk, h2.le⟩
      induction r <;> first | exact h0 | exact go
theorem txt_drop {G : List (List Int)} {x : List Int} {n j : Nat} (h : G.length = n + 1) (hj : j ≤ n) : txt G.dropLast (txt G x n) j = txt G x j := by
  have e : G = G.dropLast ++ [txt G x n] := by
    rcases List.eq_nil_or_concat G with rfl | ⟨A, S, rfl⟩
    · cases h
    · rw [List.concat_eq_append] at h ⊢
      have hA : A.length = n := by simpa using h
      rw [List.dropLast_concat]
      unfold txt
      rw [List.getD_eq_getElem?_getD, ← hA, List.append_assoc, List.getElem?_append_right (Nat.le_refl _), Nat.sub_self]; rfl
  show (G.dropLast ++ [txt G x n]).getD j [] = (G ++ [x]).getD j []
  rw [← e, List.getD_eq_getElem?_getD, List.getD_eq_getElem?_getD, List.getElem?_append_left (by lia)]
theorem txt_last {G : List (List Int)} {x : List Int} {n : Nat} (h : G.length = n + 1) : G.getLastD [] = txt G x n := by
  unfold txt
  rw [List.getD_eq_getElem?_getD, List.getElem?_append_left (by lia), List.getLastD_eq_getLast?, List.getLast?_eq_getElem?, h]; rfl
theorem popM_low {m : Int → Option Int} {n i : Nat} (h : i < n) : popM m n i = m i := if_neg fun q => by lia

section
variable {N L : Nat} {p : Pv} {G : List (List Int)} {leq eq : Int → Option Int} {Ss : List (List Row)} {K : List Row} {m : Bool}
theorem Core.rl (c : Core N L p G leq eq Ss K m) : p.rows.length ≤ (flatB Ss).length := by
  rw [c.ab.ro, List.length_map]
  rcases c.kb with h | h
  · rw [h]; exact Nat.le_refl _
  · rw [← h, List.length_append]; exact Nat.le_add_right _ _
inductive Redone (N L : Nat) (p : Pv) (G : List (List Int)) (leq eq : Int → Option Int) : Prop
  | mk (ok : RunOk p.bnd (above p.bnd.rows p.topN)) (l1 : (redoR p).2 ≤ (redoR p).1.rows.length) (l2 : (redoR p).1.rows.length ≤ 2 ^ 22) (x : (redoP p).x = G.getLastD []) (Ss' : List (List Row)) (m' : Bool) (c : Core N L (redoP p) G.dropLast (popM leq G.length) (redoM p eq) Ss' (flatB Ss') m') : Redone N L p G leq eq
set_option tactic.hygienic true in
theorem Core.redo (c : Core N L p G leq eq Ss K m) (hN : N ≤ 1000) (hL : 4 * L ≤ 2 ^ 22) {j : Int} (hj : leq G.length = some j) : Redone N L p G leq eq := by
  obtain ⟨n, hn⟩ : ∃ n, G.length = n + 1 := by
    obtain ⟨i, j', h1, _, h2, _⟩ := c.dn _ _ hj
    exact ⟨G.length - 1, by lia⟩
  have hSl := c.len
  rcases List.eq_nil_or_concat Ss with rfl | ⟨A, S, rfl⟩
  · cases hn.symm.trans hSl
  rw [List.concat_eq_append] at *
  have hA : A.length = n := by rw [hn, List.length_append] at hSl; exact (Nat.succ.inj hSl).symm
  have hS : (A ++ [S])[n]? = some S := by rw [← hA]; simp
  have htk : (A ++ [S]).take n = A := List.take_left' hA
  have hx : txt G p.x (n + 1) = p.x := by rw [← hn]; exact txt_at
  have hb := c.bnd.ab
  have hbd := c.bd
  have hfs : (flatB (A ++ [S])).length = (flatB A).length + S.length + 1 := by rw [flatB_app, flatB_one, ← List.append_assoc, List.length_append, List.length_append]; rfl
  obtain ⟨g1, g2⟩ := c.gd _ _ hS
  rw [hx] at g1
  have htop := c.top
  rw [hn] at htop
  obtain ⟨k1, k2, q, T', k3, k4, k5, k6⟩ := run_grp hN c.lt hS (p := p.bnd) (T := []) (x0 := p.x) (m0 := m) g1 (by rw [List.append_nil]; exact hb) (.inl ⟨rfl, rfl, rfl⟩) (by simp only [List.length_nil]; lia)
  rw [htk] at k3
  have hR : redoR p = (q, (flatB A).length) := by unfold redoR; rw [htop, k1, k3]
  have hql : q.rows.length = (flatB (A ++ [S])).length + T'.length := by rw [k4.ro, List.length_map, List.length_append]
  simp only [List.length_nil] at k6
  have hmono : Tk p q := by
    have := runs_tk (posB (A ++ [S]) (n + 1)) p.bnd c.ab.tk
    rw [k3] at this; exact ⟨this.sv, this.tk, this.le⟩
  have hP : redoP p = { q with rows := q.rows.take (flatB A).length, noted := p.noted } := by unfold redoP; rw [hR]
  have hlow : ∀ i : Nat, i ≤ n → popM leq G.length i = leq i := fun i hi => popM_low (by lia)
  have hdn : Dn (popM leq G.length) n := fun a b e => by
    unfold popM at e
    split at e
    · exact nomatch e
    · rename_i z
      refine hideG fun R_ k_ => ?_
      obtain ⟨i, j, rfl, rfl, h3, h4⟩ := c.dn _ _ e
      refine k_ ?_
      clear k_
      exact ⟨i, j, rfl, rfl, h3, by lia⟩
  have hcase : ∀ i j : Nat, popM leq G.length i = some (j : Int) → leq i = some (j : Int) ∧ j < i ∧ i ≤ n := fun i j e => by
    refine hideG fun R_ k_ => ?_
    obtain ⟨i', j', h1, h2, h3, h4⟩ := hdn _ _ e
    refine k_ ?_
    clear k_
    have hi : i ≤ n := by lia
    rw [hlow i hi] at e
    exact ⟨e, by lia, hi⟩
  have hdl : G.dropLast.length = n := by rw [List.length_dropLast, hn]; rfl
  have hqx : q.x = txt G p.x n := k4.tx
  have hpos : ∀ i, i ≤ n → posB A i = posB (A ++ [S]) i := fun i hi => (posB_app (hA ▸ hi)).symm
  have hlt := posB_lt c.lt (i := n) (k := n + 1) (Nat.lt_succ_self _) (by rw [List.length_append, hA]; exact Nat.le_refl _)
  refine ⟨by rw [htop, k1]; exact k2, by rw [hR]; show (flatB A).length ≤ q.rows.length; lia, by rw [hR]; show q.rows.length ≤ _; lia, by rw [hP, txt_last hn (x := p.x)]; exact hqx, A, !hdU S, ?_⟩
  rw [hP]
  refine ⟨⟨rfl, ?_, k4.mo, k4.tk, fun t e => ?_⟩, .inl rfl, by rw [hdl, hA], fun j R e => ?_, ?_, by rw [hdl]; exact hdn, fun i j e => ?_, fun a b => ⟨fun e => ?_, ?_⟩, ?_, by lia⟩
  · show q.rows.take _ = _
    rw [k4.ro, ← List.map_take]
    congr 1
    rw [flatB_app, List.append_assoc, List.take_left' rfl]
  · show t ≤ q.sv ∧ (_ → t < q.sv)
    obtain ⟨h1, h2⟩ := c.ab.nt t e
    have h3 := hmono.sv
    have h4 := hmono.tk
    refine ⟨Int.le_trans h1 h3, fun z => ?_⟩
    have h5 : ¬ q.sv < q.tk := fun y => by have := k4.mo; rw [z] at this; exact absurd y (of_decide_eq_false this)
    have h6 := c.ab.mo
    induction m with
    | false => have := h2 rfl; lia
    | true => have : p.sv < p.tk := of_decide_eq_true h6; lia
  · have hj : j < n := hA ▸ (List.getElem?_eq_some_iff.mp e).1
    obtain ⟨h1, h2⟩ := c.gd j R (by rw [List.getElem?_append_left (hA ▸ hj)]; exact e)
    rw [hqx, txt_drop hn hj, txt_drop hn (Nat.le_of_lt hj)]
    exact ⟨h1, h2.trans (Skip.iff c.dn hdn hlow (Nat.le_of_lt hj)).symm⟩
  · rw [hdl, Skip.iff c.dn hdn hlow (Nat.le_refl _), ← g2]
    cases hdU S <;> decide
  · obtain ⟨h1, h2, h3⟩ := hcase i j e
    rw [hqx, txt_drop hn h3, txt_drop hn (by lia)]; exact c.lx i j h1
  · unfold redoM at e
    split at e
    · exact nomatch e
    · rename_i z
      obtain ⟨i, j, e1, e2, e3⟩ := (c.eqr a b).mp e
      obtain ⟨z1, z2⟩ := c.lq e1
      have hi : i ≤ n := by
        rcases Nat.lt_or_ge n i with y | y
        · rw [show i = n + 1 by lia] at e2; rw [htop] at z; exact absurd e2 z
        · exact y
      exact ⟨i, j, by rw [hlow i hi]; exact e1, by rw [hpos i hi]; exact e2, by rw [hpos j (by lia)]; exact e3⟩
  · rintro ⟨i, j, e1, e2, e3⟩
    obtain ⟨h1, h2, h3⟩ := hcase i j e1
    rw [hpos i h3] at e2
    rw [hpos j (by lia)] at e3
    unfold redoM
    rw [if_neg]
    · exact (c.eqr a b).mpr ⟨i, j, h1, e2, e3⟩
    · rw [htop, e2]
      intro z
      have z := posB_inj c.lt (i := i) (k := n + 1) (by rw [List.length_append, hA]; show i ≤ n + 1; lia) (by rw [List.length_append, hA]; exact Nat.le_refl _) (Int.ofNat_inj.mp z)
      lia
  · show q.x.length ≤ N
    rw [hqx]; exact k5.bk.len
end
inductive RedoEnd (N L : Nat) (A : Bool × Pv × (Int → Option Int) × Option Int) (R : Bool × List (List Int) × (Int → Option Int) × List Int × Option Int) (n : Nat) (g ok : Prop) : Prop
  | mk (h1 : ok) (Ss : List (List Row)) (K : List Row) (m : Bool) (h2 : A.1 = R.1) (h3 : Core N L A.2.1 R.2.1 R.2.2.1 A.2.2.1 Ss K m) (h4 : A.2.1.x = R.2.2.2.1) (h5 : R.2.1.length ≤ n) (h6 : g → A.1 = true → A.2.2.2 = A.2.2.1 (A.2.1.topN : Nat)) : RedoEnd N L A R n g ok
theorem redo_law (k : Nat) : ∀ {N L : Nat} {p : Pv} {G : List (List Int)} {leq eq : Int → Option Int} {Ss : List (List Row)} {K : List Row} {m : Bool} (d l : Option Int), Core N L p G leq eq Ss K m → N ≤ 1000 → 4 * L ≤ 2 ^ 22 →
    RedoEnd N L (redos true k p eq d) (redoL k G leq p.x l) G.length (k = 0 → d = eq (p.topN : Nat)) (RedosOk true k p eq) := by
  induction k with
  | zero => exact fun d l c hN hL => ⟨trivial, _, _, _, rfl, c, rfl, Nat.le_refl _, fun h _ => h rfl⟩
  | succ k ih =>
    intro N L p G leq eq Ss K m d l c hN hL
    have hrl : p.rows.length ≤ 2 ^ 22 := by have := c.rl; have := c.bd; lia
    have he := c.eqs (Nat.le_refl _)
    rw [← c.top] at he
    cases e : leq G.length with
    | none =>
      rw [e] at he
      rw [redos_none he, redoL_none e]
      refine ⟨⟨hrl, fun q => ?_⟩, Ss, K, m, rfl, c, rfl, Nat.le_refl _, fun _ q => nomatch q⟩
      rw [he] at q; exact nomatch q
    | some j =>
      rw [e] at he
      obtain ⟨h1, h2, h3, h4, Ss', m', h5⟩ := c.redo hN hL e
      obtain ⟨i1, Ss2, K2, m2, i2, i3, i4, i5, i6⟩ := ih (redoM p eq ((redoP p).topN : Nat)) (popM leq G.length (G.dropLast.length : Nat)) h5 hN hL
      rw [redos_true he, redoL_some e, ← h4]
      exact ⟨⟨hrl, fun _ => ⟨h1, h2, h3, i1⟩⟩, Ss2, K2, m2, i2, i3, i4, Nat.le_trans i5 (by rw [List.length_dropLast]; exact Nat.sub_le _ _), fun _ => i6 fun _ => rfl⟩
structure Pd (G : List (List Int)) (x : List Int) (leq : Int → Option Int) (lp pend : Option Int) (Ss : List (List Row)) (a : Nat) : Prop where
  le : a ≤ G.length
  lp : lp = some (a : Int)
  pd : pend = some (posB Ss a : Int)
  tx : txt G x a = x
  tp : a ≠ 0 → leq G.length = none → a = G.length
noncomputable def PdR (G : List (List Int)) (x : List Int) (leq : Int → Option Int) (lp pend : Option Int) (Ss : List (List Row)) : Prop := (lp = none ∧ pend = none) ∨ ∃ a, Pd G x leq lp pend Ss a
structure LI (i : Nat) (t : TS) (nx : Nat) (ch we : Bool) (p : Pv) (Ss : List (List Row)) (K : List Row) (m : Bool) : Prop where
  is : Is t.cr p
  core : Core (3 + 2 * i) (4 ^ (i + 1)) p t.groups t.leq t.eq Ss K m
  we : we = true → K ++ [.bnd] = flatB Ss ∧ t.leq t.groups.length = none ∧ m = true
  pd : ch = true → PdR t.groups p.x t.leq t.lp t.pend Ss
  gl : t.groups.length ≤ i
  ln : t.leqn ≤ i
  en : t.eqn ≤ i
  nx : Nx t nx
  dk : DkOk t
  cB : t.cB = some (.ins 353 14)
  cU : t.cU = some (.ins 751 6)
inductive LoopI (i : Nat) : St → Prop
  | mk (t : TS) (nx : Nat) (ch we : Bool) (p : Pv) (Ss : List (List Row)) (K : List Row) (m : Bool) (h : LI i t nx ch we p Ss K m) (hc : t.cC = some (.bool ch)) : LoopI i ⟨[("was_edit", .bool we), ("state", .ref 18), ("deck", .ref 5)], E true t, nx⟩
section
variable {i : Nat} {t : TS} {nx : Nat} {ch we : Bool} {p : Pv} {Ss : List (List Row)} {K : List Row} {m : Bool}
theorem LI.dkd (h : LI i t nx ch we p Ss K m) {d : List Int × Int} (D : DkOk (t.dk d)) : LI i (t.dk d) nx ch we p Ss K m := ⟨h.is, h.core, h.we, h.pd, h.gl, h.ln, h.en, h.nx.dk, D, h.cB, h.cU⟩
theorem pow_le {i : Nat} (hi : i ≤ 9) : 4 * 4 ^ (i + 1) ≤ 2 ^ 22 := by
  have : 4 ^ (i + 1) ≤ 4 ^ 10 := Nat.pow_le_pow_right (by decide) (by lia)
  exact Nat.le_trans (Nat.mul_le_mul_left 4 this) (by decide)
theorem pow_pos4 (i : Nat) : 0 < 4 ^ (i + 1) := Nat.pow_pos (by decide)
theorem pow_step (i : Nat) : 4 * 4 ^ (i + 1) = 4 ^ (i + 1 + 1) := by rw [Nat.pow_succ 4 (i + 1), Nat.mul_comm]
theorem LI.xl (h : LI i t nx ch we p Ss K m) (hi : i ≤ 9) : p.x.length ≤ 1000 := Nat.le_trans h.core.xl (by lia)
theorem LI.rl (h : LI i t nx ch we p Ss K m) (hi : i ≤ 9) : p.rows.length ≤ 2 ^ 22 := by
  have h1 := h.core.rl
  have h2 := h.core.bd
  have h3 := pow_le hi
  lia
theorem LI.gl2 (h : LI i t nx ch we p Ss K m) (hi : i ≤ 9) : t.groups.length ≤ 2 ^ 20 := Nat.le_trans h.gl (Nat.le_trans hi (by decide))
theorem LI.ln2 (h : LI i t nx ch we p Ss K m) (hi : i ≤ 9) : t.leqn ≤ 2 ^ 20 := Nat.le_trans h.ln (Nat.le_trans hi (by decide))
theorem LI.en2 (h : LI i t nx ch we p Ss K m) (hi : i ≤ 9) : t.eqn ≤ 1000 := Nat.le_trans h.en (Nat.le_trans hi (by decide))
theorem LI.flag (h : LI i t nx ch we p Ss K m) {r : Int} (s : Skip t.leq (t.groups.length : Nat) r) : (true ^^ (decide (t.sv < t.tk) == (true ^^ (r == 0)))) = false := by
  have e : decide (t.sv < t.tk) = m := by
    rw [← h.core.ab.mo]
    show decide (t.sv < t.tk) = decide (p.sv < p.tk)
    rw [show t.sv = p.sv from h.is.sv, show t.tk = p.tk from h.is.tk]
  rw [e]
  have hm := h.core.ml
  by_cases hr : r = 0
  · subst hr
    rw [hm.mpr s]; rfl
  · have : m ≠ false := fun q => hr (s.det (hm.mp q))
    induction m with
    | false => exact absurd rfl this
    | true => rw [beq_eq_false_iff_ne.mpr hr]; rfl
structure Fd (T t : TS) (a : Cr) (G : List (List Int)) (leq eq : Int → Option Int) (lp pend : Option Int) (ln en rw : Nat) : Prop where
  cr : T.cr = a
  gr : T.groups = G
  leq : T.leq = leq
  eq : T.eq = eq
  lp : T.lp = lp
  pd : T.pend = pend
  ln : T.leqn = ln
  en : T.eqn = en
  rw : rowsAt T = rw
  ex : T.ex = t.ex
  cB : T.cB = t.cB
  cU : T.cU = t.cU
  mx : T.mix = t.mix
theorem LI.of {T t : TS} {a : Cr} {G : List (List Int)} {leq eq : Int → Option Int} {lp pend : Option Int} {ln en rw : Nat} (F : Fd T t a G leq eq lp pend ln en rw) (is : Is a p) (core : Core (3 + 2 * i) (4 ^ (i + 1)) p G leq eq Ss K m)
    (we' : we = true → K ++ [.bnd] = flatB Ss ∧ leq G.length = none ∧ m = true) (pd : ch = true → PdR G p.x leq lp pend Ss) (gl : G.length ≤ i) (hln : ln ≤ i) (hen : en ≤ i) (lo : 19 ≤ nx) (hrw : rw < nx) (hex : ∀ k, nx ≤ k → t.ex k = none) (hrx : t.ex rw = none)
    (D : T.d0.length ≤ 2 ^ 20) (Dm : DkOk t) (cB : t.cB = some (.ins 353 14)) (cU : t.cU = some (.ins 751 6)) : LI i T nx ch we p Ss K m := by
  refine hideG fun R_ k_ => ?_
  obtain ⟨rfl, rfl, rfl, rfl, rfl, rfl, rfl, rfl, rfl, e1, e2, e3, e4⟩ := F
  refine k_ ?_
  clear k_
  exact ⟨is, core, we', pd, gl, hln, hen, ⟨lo, hrw, by rw [e1]; exact hex, by rw [e1]; exact hrx⟩, ⟨D, by rw [e4]; exact Dm.m1, by rw [e4]; exact Dm.m2⟩, by rw [e2]; exact cB, by rw [e3]; exact cU⟩
theorem fd_edit {t : TS} {jn : Bool} {x : List Int} {a : Cr} {d : List Int × Int} {v : Option V} : Fd ((((t.edB jn x).wc a).dk d).sCC v) t a (match jn with | true => t.groups | false => t.groups ++ [x]) t.leq t.eq t.lp t.pend t.leqn t.eqn (rowsAt t) := by
  induction t; induction a; induction jn <;> exact ⟨rfl, rfl, rfl, rfl, rfl, rfl, rfl, rfl, rfl, rfl, rfl, rfl, rfl⟩
theorem LI.edit (h : LI i t nx ch we p Ss K m) (hi : i ≤ 9) {jn : Bool} (hj : jn = true → we = true) {f : Int} {q : Pv} (hE : Edit (p.edB jn) f q) {a : Cr} (J : Is a q) {d : List Int × Int} (D : d.1.length ≤ 2 ^ 20) {n : Nat} (hn : nx ≤ n) (b : Bool) :
    ∃ Ss' K' m', LI (i + 1) ((((t.edB jn p.x).wc a).dk d).sCC (some (.bool b))) n false true q Ss' K' m' := by
  have hN : 3 + 2 * i + 2 ≤ 1000 := by lia
  have e3 : 3 + 2 * (i + 1) = 3 + 2 * i + 2 := by lia
  have N := h.nx.up hn
  have F := fd_edit (t := t) (jn := jn) (x := p.x) (a := a) (d := d) (v := some (.bool b))
  have hD : ((((t.edB jn p.x).wc a).dk d).sCC (some (.bool b))).d0.length ≤ 2 ^ 20 := D
  generalize ((((t.edB jn p.x).wc a).dk d).sCC (some (.bool b))) = T at F hD
  have fin : ∀ {G : List (List Int)} {Ss' K'}, Fd T t a G t.leq t.eq t.lp t.pend t.leqn t.eqn (rowsAt t) → G.length ≤ i + 1 → Core (3 + 2 * i + 2) (4 * 4 ^ (i + 1)) q G t.leq t.eq Ss' K' true → K' ++ [.bnd] = flatB Ss' → t.leq G.length = none → ∃ Ss' K' m', LI (i + 1) T n false true q Ss' K' m' := fun {G Ss' K'} F hG c hk h0 =>
    ⟨Ss', K', true, LI.of F J (by rw [e3, ← pow_step]; exact c) (fun _ => ⟨hk, h0, rfl⟩) (fun q => nomatch q) hG (Nat.le_succ_of_le h.ln) (Nat.le_succ_of_le h.en) N.lo N.rw N.ex N.rx hD h.dk h.cB h.cU⟩
  induction jn with
  | false =>
    obtain ⟨T', c⟩ := h.core.edit hN (pow_pos4 i) hE
    have hl : (t.groups ++ [p.x]).length = t.groups.length + 1 := by rw [List.length_append]; rfl
    exact fin F (by rw [hl]; exact Nat.succ_le_succ h.gl) c (by rw [flatB_app, flatB_one, List.append_assoc]) (by rw [hl]; exact h.core.dn.above (Nat.lt_succ_self _))
  | true =>
    obtain ⟨w1, w2, w3⟩ := h.we (hj rfl)
    refine hideG fun R_ k_ => ?_
    obtain ⟨Ss', K', hk, c⟩ := h.core.editJ hN w1 w2 w3 hE
    refine k_ ?_
    clear k_
    exact fin F (Nat.le_succ_of_le h.gl) c hk w2
end
theorem LI.init {y : List Int} (hy : y.length ≤ 3) {t : TS} {a : Cr} {tk : Int} (J : Is a ⟨y, [], none, tk, tk⟩) (D : DkOk t) (b : Bool) : LI 0 ((((t.start a).sCU (some (.ins 751 6))).sCB (some (.ins 353 14))).sCC (some (.bool b))) 19 false false ⟨y, [], none, tk, tk⟩ [] [] false where
  is := ⟨J.gap, J.zv, J.pt1, J.pt2, J.len, rfl, rfl, J.tk, J.sv⟩
  core := { ab := ⟨rfl, rfl, decide_eq_false (Int.lt_irrefl _), Int.le_refl _, fun _ q => nomatch q⟩, kb := .inl rfl, len := rfl, gd := (fun j S e => by induction j <;> cases e), ml := ⟨fun _ => .stop rfl, fun _ => rfl⟩, dn := (fun _ _ e => nomatch e), lx := (fun _ _ e => nomatch e), eqr := fun a b => ⟨(fun e => nomatch e), fun hp_ => by obtain ⟨_, _, e, _⟩ := hp_; exact nomatch e⟩, xl := hy, bd := by decide }
  we := fun q => nomatch q
  pd := fun q => nomatch q
  gl := Nat.le_refl _
  ln := Nat.le_refl _
  en := Nat.le_refl _
  nx := ⟨Nat.le_refl _, (by decide : 13 < 19), fun _ _ => rfl, rfl⟩
  dk := ⟨D.d0, D.m1, D.m2⟩
  cB := rfl
  cU := rfl
noncomputable def newLp (n : Nat) (leq : Int → Option Int) (lp : Option Int) (ch : Bool) : Option Int := if ch = true ∧ lp ≠ none ∧ ¬ (leq n = none ∧ lp ≠ some 0) then lp else some (n : Int)
section
variable {N L : Nat} {p : Pv} {G : List (List Int)} {leq eq : Int → Option Int} {Ss : List (List Row)} {K : List Row} {m : Bool}
theorem Pd.anew (c : Core N L p G leq eq Ss K m) : Pd G p.x leq (some (G.length : Int)) (some (posB Ss G.length : Int)) Ss G.length := ⟨Nat.le_refl _, rfl, rfl, txt_at, fun _ _ => rfl⟩
theorem begun_pd (c : Core N L p G leq eq Ss K m) {U : TS} {ch : Bool} {lp : Option Int} (hr : U.rows = p.rows) (he : U.eq = eq) (hp : ch = true → PdR G p.x leq lp U.pend Ss) : ∃ a, Pd G p.x leq (newLp G.length leq lp ch) (U.begun ch).pend Ss a := by
  have htop : (U.sRows (bndS U.rows)).top = posB Ss G.length := by
    rw [hr]; exact c.bnd.top
  have hout : (U.sRows (bndS U.rows)).inRow ch = false → (U.begun ch).pend = some (posB Ss G.length : Int) := fun h => by rw [← begun_out h, htop]; rfl
  have hin : (U.sRows (bndS U.rows)).inRow ch = true → (U.begun ch).pend = U.pend := fun h => by rw [← begun_in h]; rfl
  induction ch with
  | false =>
    rw [hout rfl]
    have e : newLp G.length leq lp false = some (G.length : Int) := if_neg fun q => nomatch q.1
    rw [e]; exact ⟨_, Pd.anew c⟩
  | true =>
    rcases hp rfl with ⟨h1, h2⟩ | ⟨a, P⟩
    · have e : newLp G.length leq lp true = some (G.length : Int) := if_neg fun q => q.2.1 h1
      rw [e, hout (inRow_none (t := U.sRows (bndS U.rows)) h2).symm]; exact ⟨_, Pd.anew c⟩
    have hpd : (U.sRows (bndS U.rows)).pend = some (posB Ss a : Int) := P.pd
    cases hl : leq G.length with
    | some b =>
      have e : newLp G.length leq lp true = lp := if_pos ⟨rfl, by rw [P.lp]; exact fun q => (nomatch q), fun q => by rw [hl] at q; cases q.1⟩
      have hs : ((U.sRows (bndS U.rows)).eq ((U.sRows (bndS U.rows)).top : Nat)).isSome = true := by
        rw [htop]
        show (U.eq _).isSome = true
        rw [he, c.eqs (Nat.le_refl _), hl]; rfl
      have hi : (U.sRows (bndS U.rows)).inRow true = true := by unfold TS.inRow; rw [hpd]; dsimp only; rw [hs, Bool.or_true]
      rw [e, hin hi]; exact ⟨a, P⟩
    | none =>
      by_cases ha : a = 0
      · subst ha
        have e : newLp G.length leq lp true = lp := if_pos ⟨rfl, by rw [P.lp]; exact fun q => (nomatch q), fun q => q.2 P.lp⟩
        have hi : (U.sRows (bndS U.rows)).inRow true = true := (inRow_le hpd (by rw [posB_zero]; rfl)).symm
        rw [e, hin hi]; exact ⟨0, P⟩
      · have hn := P.tp ha hl
        subst hn
        have e : newLp G.length leq lp true = some (G.length : Int) := by unfold newLp; split; exact P.lp; rfl
        have e2 : (U.begun true).pend = some (posB Ss G.length : Int) := by
          cases hi : (U.sRows (bndS U.rows)).inRow true with
          | true => rw [hin hi, P.pd]
          | false => rw [hout hi]
        rw [e, e2]; exact ⟨_, Pd.anew c⟩
end
structure Lw (T U : TS) : Prop where
  gr : T.groups = U.groups
  leq : T.leq = U.leq
  lp : T.lp = U.lp
  ln : T.leqn = U.leqn
  cB : T.cB = U.cB
  cU : T.cU = U.cU
  ex : T.ex = U.ex
  mx : T.mix = U.mix
  d0 : T.d0 = U.d0
  eq : T.eq = U.eq
  en : T.eqn = U.eqn
theorem Lw.rows {U : TS} {r : List Row} : Lw (U.sRows r) U := ⟨rfl, rfl, rfl, rfl, rfl, rfl, rfl, rfl, rfl, rfl, rfl⟩
theorem Lw.pend {U : TS} {r : Option Int} : Lw (U.sPend r) U := ⟨rfl, rfl, rfl, rfl, rfl, rfl, rfl, rfl, rfl, rfl, rfl⟩
theorem Lw.trans {A B C : TS} (x : Lw A B) (y : Lw B C) : Lw A C := ⟨x.gr.trans y.gr, x.leq.trans y.leq, x.lp.trans y.lp, x.ln.trans y.ln, x.cB.trans y.cB, x.cU.trans y.cU, x.ex.trans y.ex, x.mx.trans y.mx, x.d0.trans y.d0, x.eq.trans y.eq, x.en.trans y.en⟩
theorem Lw.begun {U : TS} {ch : Bool} : Lw (U.begun ch) U := by
  cases h : (U.sRows (bndS U.rows)).inRow ch with
  | true => rw [← begun_in h]; exact Lw.rows
  | false => rw [← begun_out h]; exact Lw.pend.trans Lw.rows
theorem rid_at {T : TS} {n : Nat} (h : 19 ≤ n) (e : T.rid = n - 18) : rowsAt T = n := by
  unfold rowsAt
  obtain ⟨k, rfl⟩ : ∃ k, n = k + 19 := ⟨n - 19, by omega⟩
  rw [e, show k + 19 - 18 = k + 1 by omega]
theorem fd_le {V : TS} {i : Option Int} {n1 : Nat} {R : List Row} (h : 19 ≤ n1) : Fd (((V.rd n1).sIdle i).sRows R) V { V.cr with rows := R } V.groups V.leq V.eq V.lp V.pend V.leqn V.eqn n1 ∧ (((V.rd n1).sIdle i).sRows R).d0 = V.d0 := by
  have hr : rowsAt (((V.rd n1).sIdle i).sRows R) = n1 := rid_at h rfl
  induction V; exact ⟨⟨rfl, rfl, rfl, rfl, rfl, rfl, rfl, rfl, hr, rfl, rfl, rfl, rfl⟩, rfl⟩
theorem fd_gt {V : TS} {i : Option Int} {n1 e : Nat} {R : List Row} {eq : Int → Option Int} (h : 19 ≤ n1) : Fd (((((V.rd n1).sIdle i).sEq eq).sEqn e).sRows R) V { V.cr with rows := R } V.groups V.leq eq V.lp V.pend V.leqn e n1 ∧ (((((V.rd n1).sIdle i).sEq eq).sEqn e).sRows R).d0 = V.d0 := by
  have hr : rowsAt (((((V.rd n1).sIdle i).sEq eq).sEqn e).sRows R) = n1 := rid_at h rfl
  induction V; exact ⟨⟨rfl, rfl, rfl, rfl, rfl, rfl, rfl, rfl, hr, rfl, rfl, rfl, rfl⟩, rfl⟩
theorem v_of {X : TS} {A : Cr} {v : Option Int} : Lw ((X.wc A).sPend v) X ∧ ((X.wc A).sPend v).cr = A ∧ ((X.wc A).sPend v).pend = v := by
  induction X; induction A; exact ⟨⟨rfl, rfl, rfl, rfl, rfl, rfl, rfl, rfl, rfl, rfl, rfl⟩, rfl, rfl⟩
noncomputable def grU (cnt : Nat) (G : List (List Int)) (x : List Int) : List (List Int) := match cnt with
  | 0 => G
  | _ + 1 => G ++ [x]
noncomputable def leqC (cnt : Nat) (leq : Int → Option Int) (n k : Nat) : Int → Option Int := match cnt with
  | 0 => leq
  | c + 1 => leqU leq n ((k - (c + 1) : Nat) : Int)
noncomputable def xU (cnt : Nat) (G : List (List Int)) (x : List Int) (k : Nat) : List Int := match cnt with
  | 0 => x
  | c + 1 => txt G x (k - (c + 1))
structure Ux (t X : TS) (cnt k : Nat) (x : List Int) (n : Nat) : Prop where
  gr : X.groups = grU cnt t.groups x
  leq : X.leq = leqC cnt t.leq t.groups.length k
  lp : X.lp = some ((k - cnt : Nat) : Int)
  ln : X.leqn ≤ t.leqn + 1
  eq : X.eq = t.eq
  en : X.eqn = t.eqn
  cB : X.cB = t.cB
  cU : X.cU = t.cU
  ex : ∀ j, n ≤ j → X.ex j = none
  mx : X.mix = t.mix
  d0 : X.d0 = t.d0
theorem Is.bndE {A : Cr} {q : Pv} (J : Is A q) : Is { A with rows := bndS A.rows } q.bnd := ⟨J.gap, J.zv, J.pt1, J.pt2, J.len, by show bndS A.rows = bndS q.rows; rw [J.rows], J.noted, J.tk, J.sv⟩
theorem Ux.of {t X V : TS} {cnt k n : Nat} {x : List Int} (U : Ux t X cnt k x n) (W : Lw V X) : Ux t V cnt k x n := ⟨W.gr.trans U.gr, W.leq.trans U.leq, W.lp.trans U.lp, by rw [W.ln]; exact U.ln, W.eq.trans U.eq, W.en.trans U.en, W.cB.trans U.cB, W.cU.trans U.cU, by rw [W.ex]; exact U.ex, W.mx.trans U.mx, W.d0.trans U.d0⟩
theorem LI.undo {i : Nat} {t : TS} {nx : Nat} {ch we : Bool} {p : Pv} {Ss : List (List Row)} {K : List Row} {m : Bool} (h : LI i t nx ch we p Ss K m) (hi : i ≤ 9) {cnt k : Nat} (hk : k ≤ t.groups.length) (hk0 : k ≠ 0) (hx : txt t.groups p.x k = p.x)
    (htp : t.leq t.groups.length = none → k = t.groups.length) {X : TS} {n1 : Nat} (U : Ux t X cnt k p.x n1) (hn : 19 ≤ n1) {A : Cr} (J : Is A (turns p.bnd cnt (posB Ss k)).1) :
    ∃ q Ss' K' m', LI (i + 1) (((X.wc A).sPend (some ((turns p.bnd cnt (posB Ss k)).2 : Nat))).ended n1 p.bnd.rows.length ((turns p.bnd cnt (posB Ss k)).2 : Nat)) (n1 + 1) true false q Ss' K' m' ∧ q.x = xU cnt t.groups p.x k := by
  obtain ⟨_, _, _, _, q, h2, _, h4, h5⟩ := h.core.undo (cnt := cnt) (by omega) (pow_le hi) hk hx
  rw [h2] at J ⊢
  have J : Is A q := J
  show ∃ q Ss' K' m', LI (i + 1) (((X.wc A).sPend (some (posB Ss (k - cnt) : Nat))).ended n1 p.bnd.rows.length (posB Ss (k - cnt) : Nat)) (n1 + 1) true false q Ss' K' m' ∧ _
  refine hideG fun R_ k_ => ?_
  obtain ⟨W, c1, c2⟩ := v_of (X := X) (A := A) (v := some (posB Ss (k - cnt) : Nat))
  refine k_ ?_
  clear k_
  generalize (X.wc A).sPend (some (posB Ss (k - cnt) : Nat)) = V at W c1 c2
  have U := U.of W
  subst c1
  clear W
  have hex : ∀ j, n1 + 1 ≤ j → V.ex j = none := fun j hj => U.ex j (Nat.le_of_succ_le hj)
  have hD : DkOk V := ⟨by rw [U.d0]; exact h.dk.d0, by rw [U.mx]; exact h.dk.m1, by rw [U.mx]; exact h.dk.m2⟩
  have hcB : V.cB = some (.ins 353 14) := U.cB.trans h.cB
  have hcU : V.cU = some (.ins 751 6) := U.cU.trans h.cU
  have htopV : V.top = above q.rows q.rows.length := by
    have : V.rows = q.rows := J.rows
    unfold TS.top; rw [this]
  have hln : V.leqn ≤ i + 1 := Nat.le_trans U.ln (Nat.succ_le_succ h.ln)
  have hx3 := Nat.le_add_right (3 + 2 * i) 2
  have e3 : 3 + 2 * (i + 1) = 3 + 2 * i + 2 := by omega
  have hJ : Is { V.cr with rows := bndS V.rows } q.bnd := J.bndE
  induction cnt with
  | zero =>
    obtain rfl := h4 rfl
    have hle : V.top ≤ p.bnd.rows.length := by rw [htopV]; exact above_le _ _
    rw [← ended_le hle]
    obtain ⟨F, Fd⟩ := fd_le (V := V) (i := some (V.top : Int)) (R := bndS V.rows) hn
    refine ⟨p.bnd.bnd, Ss, flatB Ss, m, LI.of (p := p.bnd.bnd) F hJ ?_ (fun q => nomatch q) (fun _ => .inr ⟨k, ?_⟩) ?_ hln ?_ (Nat.le_succ_of_le hn) (Nat.lt_succ_self _) hex (U.ex _ (Nat.le_refl _)) (by rw [Fd]; exact hD.d0) hD hcB hcU, rfl⟩
    · rw [U.gr, U.leq, U.eq, e3, ← pow_step]
      exact h.core.bnd.bnd.mono hx3 (Nat.le_mul_of_pos_left _ (by decide))
    · rw [U.gr, U.leq]
      exact ⟨hk, U.lp, c2, hx, fun _ => htp⟩
    · rw [U.gr]; exact Nat.le_succ_of_le h.gl
    · rw [U.en]; exact Nat.le_succ_of_le h.en
  | succ c =>
    obtain ⟨hqx, hat, hlt, Ss', K', m', hc, hK, hpos⟩ := h5 (Nat.succ_pos _) (Nat.pos_of_ne_zero hk0)
    have hgt : ¬ V.top ≤ p.bnd.rows.length := by rw [htopV, hat]; exact Nat.not_le_of_lt hlt
    rw [← ended_gt hgt]
    obtain ⟨F, Fd⟩ := fd_gt (V := V) (i := none) (R := bndS V.rows) (e := V.eqn + 1) (eq := fun b => if b = (V.top : Nat) then some (posB Ss (k - (c + 1)) : Nat) else V.eq b) hn
    have hgl : (t.groups ++ [p.x]).length = t.groups.length + 1 := by rw [List.length_append]; rfl
    have hkc : k - (c + 1) ≤ t.groups.length := by omega
    have hqxl : txt (t.groups ++ [p.x]) q.x (k - (c + 1)) = q.x := by rw [txt_app hkc, hqx]
    refine ⟨q.bnd, Ss', flatB Ss', m', LI.of (p := q.bnd) F hJ ?_ (fun q => nomatch q) (fun _ => .inr ⟨k - (c + 1), ?_⟩) ?_ hln ?_ (Nat.le_succ_of_le hn) (Nat.lt_succ_self _) hex (U.ex _ (Nat.le_refl _)) (by rw [Fd]; exact hD.d0) hD hcB hcU, hqx⟩
    · rw [U.gr, U.leq, U.eq, e3, ← pow_step, htopV, hat]
      exact hc.bnd.mono hx3 (Nat.le_refl _)
    · rw [U.gr, U.leq]
      show Pd (t.groups ++ [p.x]) q.x (leqU t.leq t.groups.length ((k - (c + 1) : Nat) : Int)) _ _ _ _
      refine ⟨by rw [hgl]; exact Nat.le_succ_of_le hkc, U.lp, by rw [hpos _ hkc]; exact c2, hqxl, fun _ z => ?_⟩
      rw [hgl, leqU_top] at z; exact nomatch z
    · rw [U.gr]
      show (t.groups ++ [p.x]).length ≤ i + 1
      rw [hgl]; exact Nat.succ_le_succ h.gl
    · rw [U.en]; exact Nat.succ_le_succ h.en
noncomputable def lawRed (cnt : Nat) (G : List (List Int)) (leq : Int → Option Int) (x : List Int) (lp : Option Int) : Bool × List (List Int) × (Int → Option Int) × List Int × Option Int := match leq G.length with
  | none => (false, G, leq, x, lp)
  | some _ => ((redoL cnt G leq x lp).1, (redoL cnt G leq x lp).2.1, (redoL cnt G leq x lp).2.2.1, (redoL cnt G leq x lp).2.2.2.1, if (redoL cnt G leq x lp).1 = true then (redoL cnt G leq x lp).2.2.1 ((redoL cnt G leq x lp).2.1.length : Nat) else (redoL cnt G leq x lp).2.2.2.2)
theorem lawRed_none {cnt : Nat} {G : List (List Int)} {leq : Int → Option Int} {x : List Int} {lp : Option Int} (h : leq G.length = none) : lawRed cnt G leq x lp = (false, G, leq, x, lp) := by unfold lawRed; rw [h]
theorem lawRed_some {cnt : Nat} {G : List (List Int)} {leq : Int → Option Int} {x : List Int} {lp : Option Int} {j : Int} (h : leq G.length = some j) : lawRed cnt G leq x lp = ((redoL cnt G leq x lp).1, (redoL cnt G leq x lp).2.1, (redoL cnt G leq x lp).2.2.1, (redoL cnt G leq x lp).2.2.2.1, if (redoL cnt G leq x lp).1 = true then (redoL cnt G leq x lp).2.2.1 ((redoL cnt G leq x lp).2.1.length : Nat) else (redoL cnt G leq x lp).2.2.2.2) := by unfold lawRed; rw [h]
structure Both (N L : Nat) (A : Bool × Pv × (Int → Option Int) × Option Int) (R : Bool × List (List Int) × (Int → Option Int) × List Int × Option Int) (n : Nat) : Prop where
  ok : A.1 = R.1
  core : ∃ Ss K m, Core N L A.2.1 R.2.1 R.2.2.1 A.2.2.1 Ss K m
  x : A.2.1.x = R.2.2.2.1
  len : R.2.1.length ≤ n
  pd : A.1 = true → A.2.2.2 = A.2.2.1 (A.2.1.topN : Nat) ∧ R.2.2.2.2 = R.2.2.1 (R.2.1.length : Nat)
theorem Both.mk' {N L : Nat} {p : Pv} {G : List (List Int)} {leq eq : Int → Option Int} {Ss : List (List Row)} {K : List Row} {m : Bool} (c : Core N L p G leq eq Ss K m) (hN : N ≤ 1000) (hL : 4 * L ≤ 2 ^ 22) (cnt : Nat) (d l : Option Int) :
    RedosOk (decide (0 < cnt)) (max 1 cnt) p eq ∧ Both N L (redos (decide (0 < cnt)) (max 1 cnt) p eq d) (lawRed cnt G leq p.x l) G.length := by
  have he := c.eqs (Nat.le_refl _)
  rw [← c.top] at he
  have hrl : p.rows.length ≤ 2 ^ 22 := by have := c.rl; have := c.bd; lia
  induction cnt with
  | zero =>
    cases e : leq G.length with
    | none =>
      rw [e] at he
      rw [lawRed_none e]
      refine ⟨⟨hrl, fun q => ?_⟩, ?_⟩
      · rw [he] at q; exact nomatch q
      · show Both N L (redos false (0 + 1) p eq d) _ _
        rw [redos_none he]
        exact ⟨rfl, ⟨_, _, _, c⟩, rfl, Nat.le_refl _, fun q => nomatch q⟩
    | some j =>
      rw [e] at he
      rw [lawRed_some e]
      refine ⟨⟨hrl, fun _ => trivial⟩, ?_⟩
      show Both N L (redos false (0 + 1) p eq d) _ _
      rw [redos_false he]
      exact ⟨rfl, ⟨_, _, _, c⟩, rfl, Nat.le_refl _, fun _ => ⟨rfl, rfl⟩⟩
  | succ k =>
    have hm : max 1 (k + 1) = k + 1 := by lia
    rw [hm]
    obtain ⟨h1, Ss', K', m', h2, h3, h4, h5, h6⟩ := redo_law (k + 1) d l c hN hL
    refine ⟨h1, ?_⟩
    show Both N L (redos true (k + 1) p eq d) _ _
    cases e : leq G.length with
    | none =>
      rw [e] at he
      rw [lawRed_none e, redos_none he]
      exact ⟨rfl, ⟨_, _, _, c⟩, rfl, Nat.le_refl _, fun q => nomatch q⟩
    | some j =>
      rw [lawRed_some e]
      exact ⟨h2, ⟨_, _, _, h3⟩, h4, h5, fun q => ⟨h6 (fun z => nomatch z) q, if_pos (h2.symm.trans q)⟩⟩
theorem fd_red {X : TS} {a : Cr} {r : Nat} {m : Int → Option Int} {d : Option Int} : Fd (X.red a r m d) X a X.groups X.leq m X.lp d X.leqn X.eqn (rowsAt (X.red a r m d)) ∧ (X.red a r m d).d0 = X.d0 ∧ (X.red a r m d).ex = X.ex := by
  induction X; induction a; exact ⟨⟨rfl, rfl, rfl, rfl, rfl, rfl, rfl, rfl, rfl, rfl, rfl, rfl, rfl⟩, rfl, rfl⟩
structure Rx (t X : TS) (R : Bool × List (List Int) × (Int → Option Int) × List Int × Option Int) : Prop where
  gr : X.groups = R.2.1
  leq : X.leq = R.2.2.1
  lp : X.lp = R.2.2.2.2
  ln : X.leqn = t.leqn
  en : X.eqn = t.eqn
  cB : X.cB = t.cB
  cU : X.cU = t.cU
  mx : X.mix = t.mix
  d0 : X.d0 = t.d0
theorem LI.redo {i : Nat} {t : TS} {nx : Nat} {ch we : Bool} {p : Pv} {Ss : List (List Row)} {K : List Row} {m : Bool} (h : LI i t nx ch we p Ss K m) {X : TS} {A : Bool × Pv × (Int → Option Int) × Option Int} {R : Bool × List (List Int) × (Int → Option Int) × List Int × Option Int}
    (B : Both (3 + 2 * i) (4 ^ (i + 1)) A R t.groups.length) (U : Rx t X R) {a : Cr} {r n : Nat} (J : Is a A.2.1) (N : Nx (X.red a r A.2.2.1 A.2.2.2) n) : ∃ Ss' K' m', LI (i + 1) (X.red a r A.2.2.1 A.2.2.2) n A.1 false A.2.1 Ss' K' m' := by
  refine hideG fun R_ k_ => ?_
  obtain ⟨Ss', K', m', c⟩ := B.core
  refine k_ ?_
  clear k_
  obtain ⟨F, F2, F3⟩ := fd_red (X := X) (a := a) (r := r) (m := A.2.2.1) (d := A.2.2.2)
  have hD : DkOk X := ⟨by rw [U.d0]; exact h.dk.d0, by rw [U.mx]; exact h.dk.m1, by rw [U.mx]; exact h.dk.m2⟩
  refine ⟨Ss', K', m', LI.of F J ?_ (fun q => nomatch q) (fun q => ?_) ?_ (by rw [U.ln]; exact Nat.le_succ_of_le h.ln) (by rw [U.en]; exact Nat.le_succ_of_le h.en) N.lo N.rw (by rw [← F3]; exact N.ex) (by rw [← F3]; exact N.rx) (by rw [F2]; exact hD.d0) hD (U.cB.trans h.cB) (U.cU.trans h.cU)⟩
  · rw [U.gr, U.leq, show 3 + 2 * (i + 1) = 3 + 2 * i + 2 by lia, ← pow_step]
    exact c.mono (Nat.le_add_right _ _) (Nat.le_mul_of_pos_left _ (by decide))
  · obtain ⟨h1, h2⟩ := B.pd q
    rw [U.gr, U.leq, U.lp, h1, h2, c.top, c.eqs (Nat.le_refl _)]
    cases e : R.2.2.1 (R.2.1.length : Nat) with
    | none => exact .inl ⟨rfl, rfl⟩
    | some b =>
      refine hideG fun R_ k_ => ?_
      obtain ⟨i', j, z1, rfl, z3, z4⟩ := c.dn _ _ e
      refine k_ ?_
      clear k_
      refine .inr ⟨j, by lia, rfl, rfl, ?_, fun _ z => by exact nomatch e.symm.trans z⟩
      rw [← c.lx _ _ e, txt_at]
  · rw [U.gr]; exact Nat.le_succ_of_le (Nat.le_trans B.len h.gl)
noncomputable def skB (only : Bool) (m : Int → Option Int) (a k : Nat) : Prop := match only with
  | true => Skip m (a : Nat) (k : Nat)
  | false => ((a : Nat) : Int) = (k : Nat)
structure Go (only : Bool) (t : TS) (p : Pv) (Ss : List (List Row)) (a k : Nat) : Prop where
  le : k ≤ t.groups.length
  tx : txt t.groups p.x k = p.x
  tp : k ≠ 0 → t.leq t.groups.length = none → k = t.groups.length
  sk : skB only t.leq a k
  sp : skB only t.eq (posB Ss a) (posB Ss k)
theorem go_of {i : Nat} {t : TS} {nx : Nat} {ch we : Bool} {p : Pv} {Ss : List (List Row)} {K : List Row} {m : Bool} (h : LI i t nx ch we p Ss K m) {lp pd : Option Int} {a : Nat} (P : Pd t.groups p.x t.leq lp pd Ss a) (only : Bool) : ∃ k, Go only t p Ss a k := by
  cases only with
  | false => exact ⟨a, P.le, P.tx, P.tp, rfl, rfl⟩
  | true =>
    obtain ⟨k, hs, hk⟩ := Skip.ex h.core.dn a
    obtain ⟨k', e, sp, _, tx⟩ := h.core.skip hs a rfl P.le
    obtain rfl : k = k' := Int.ofNat_inj.mp e
    refine ⟨k, Nat.le_trans hk P.le, tx.symm.trans P.tx, fun z1 z2 => ?_, hs, sp⟩
    have ha : a ≠ 0 := fun q => by subst q; exact z1 (Nat.le_zero.mp hk)
    have := P.tp ha z2
    subst this
    exact (Int.ofNat_inj.mp (hs.none_inv z2)).symm
structure U0 (t X : TS) (n : Nat) : Prop where
  gr : X.groups = t.groups
  leq : X.leq = t.leq
  ln : X.leqn ≤ t.leqn + 1
  eq : X.eq = t.eq
  en : X.eqn = t.eqn
  cB : X.cB = t.cB
  cU : X.cU = t.cU
  ex : ∀ j, n ≤ j → X.ex j = none
  mx : X.mix = t.mix
  d0 : X.d0 = t.d0
theorem LI.refuse {i : Nat} {t : TS} {nx : Nat} {ch we : Bool} {p : Pv} {Ss : List (List Row)} {K : List Row} {m : Bool} (h : LI i t nx ch we p Ss K m) {U : TS} {n : Nat} (W : U0 t U n) {a : Nat} {lp : Option Int} (P : Pd t.groups p.x t.leq lp (U.begun ch).pend Ss a) (hlp : U.lp = some (a : Int))
    (hcr : U.cr = t.cr) (hrw : rowsAt U = rowsAt t) (hn : nx ≤ n) (hrx : U.ex (rowsAt t) = none) : LI (i + 1) (U.begun ch) n true false p.bnd Ss (flatB Ss) m := by
  have hB : Lw (U.begun ch) U := Lw.begun
  have hc : (U.begun ch).cr = { t.cr with rows := bndS t.rows } ∧ rowsAt (U.begun ch) = rowsAt t := by
    have hr : U.rows = t.rows := congrArg Cr.rows hcr
    have h1 : ∀ r, (U.sRows r).cr = { U.cr with rows := r } ∧ rowsAt (U.sRows r) = rowsAt U := fun r => ⟨rfl, rfl⟩
    have h2 : ∀ v, (U.sPend v).cr = U.cr := fun v => rfl
    cases hi : (U.sRows (bndS U.rows)).inRow ch with
    | true => rw [← begun_in hi, (h1 _).1, (h1 _).2, hcr, hr]; exact ⟨rfl, hrw⟩
    | false =>
      rw [← begun_out hi]
      refine ⟨?_, hrw⟩
      show { U.cr with rows := bndS U.rows } = _
      rw [hcr, hr]
  have J : Is { t.cr with rows := bndS t.rows } p.bnd := h.is.bndE
  refine LI.of (t := U) (p := p.bnd) ⟨hc.1, hB.gr.trans W.gr, hB.leq.trans W.leq, hB.eq.trans W.eq, hB.lp.trans hlp, rfl, hB.ln, hB.en.trans W.en, hc.2, hB.ex, hB.cB, hB.cU, hB.mx⟩ J ?_ (fun q => nomatch q) (fun _ => .inr ⟨a, P.le, rfl, P.pd, P.tx, P.tp⟩) (Nat.le_succ_of_le h.gl) (Nat.le_trans W.ln (Nat.succ_le_succ h.ln)) (Nat.le_succ_of_le h.en) (Nat.le_trans h.nx.lo hn) (Nat.lt_of_lt_of_le h.nx.rw hn) W.ex hrx ?_ ⟨by rw [W.d0]; exact h.dk.d0, by rw [W.mx]; exact h.dk.m1, by rw [W.mx]; exact h.dk.m2⟩ (W.cB.trans h.cB) (W.cU.trans h.cU)
  · rw [show 3 + 2 * (i + 1) = 3 + 2 * i + 2 by lia, ← pow_step]
    exact h.core.bnd.mono (Nat.le_add_right _ _) (Nat.le_mul_of_pos_left _ (by decide))
  · rw [hB.d0, W.d0]; exact h.dk.d0
theorem FL_wp (fuel : Nat) {c : Cx} (hK : KOk c) {G : List (Str × V)} (hG : GsOk c G) {o : Nat → Option MO} {nx k n : Nat} {ks : List Nat} {qual : Str} {body : Expr} {scope : Scope} {pm : Value} {params : Arguments} {ns : List Str} {hm} {Q : V → (Nat → Option MO) → Nat → Prop} {QE : (Nat → Option MO) → Nat → Prop}
    (ho : o k = some (.clo (funP qual params body scope pm ns) hm ks)) (hl : ns.length = ks.length) (hsc : lamScope scope = true) (hn : namesOkC scope = true) (hbind : ∀ clos cv ctv, bindArgs (kla_fn "<lambda>" qual params body scope clos pm cv ctv) ⟨[], []⟩ = pure [])
    (h : ∀ A L f cdv cs outer, (wps fuel ⟨fnZc c 38 A qual scope L f cdv cs (ns.zip ks) outer QE, sg, G, 38, n, QE, true⟩).E body (fun b σ' => Q b σ'.o σ'.nx) ⟨[], o, nx⟩) :
    FL c (Fly 38 .none) (n + 1) k o nx Q QE :=
  FL_intro ho hl hsc hbind fun A L f cdv cs outer hcs hz hc hw =>
    (wps_ok fuel).E ⟨fnZc c 38 A qual scope L f cdv cs (ns.zip ks) outer QE, sg, G, 38, n, QE, true⟩
      { ok := hz, own := hw, call := fun _ => hc, sig := sg_ok hK, glob := fun x v e => hG x v (lookup_mem e)
        err := fun W σ e s p f q => ⟨W, σ, .none, .rfl', ⟨p.g, p.f, p.k⟩, f, .inl rfl, q⟩
        names := fun x k e => namesOkC_at hn e
        inter := by
          simp only [lamScope, Bool.and_eq_true, decide_eq_true_eq] at hsc
          show (scope.kind == .module && _) = false; rw [hsc.1.1.2]; rfl } _ _ _ (h A L f cdv cs outer)
theorem c_editL {c} (hK : KOk c) {i : Nat} {t : TS} {nx : Nat} {ch we : Bool} {p : Pv} {Ss : List (List Row)} {K : List Row} {m : Bool} (h : LI i t nx ch we p Ss K m) (hi : i ≤ 9) {jn : Bool} (hj : jn = true → we = true) {f : Int} :
    FC c 38 9 (.ref 840) [.ref 5, .ins 751 6, .int f, .ref 16, .bool jn] (E true t) nx (fun b o' nx' => ∃ s : TS × Nat, b = .none ∧ o' = E true s.1 ∧ nx' = s.2 ∧ ∃ q Ss K m, LI (i + 1) (s.1.sCC (some (.bool false))) s.2 false true q Ss K m) (fun _ _ => False) :=
  (c_edit hK h.nx h.is h.dk (h.xl hi) (h.rl hi) (h.gl2 hi)).imp (fun b o' nx' q => by
    obtain ⟨a, e1, e2, e3, l, D, q, hE, J⟩ := q
    obtain ⟨Ss', K', m', z⟩ := h.edit hi hj hE J D.d0 l false
    exact ⟨(_, a.2.2), e1, e2, e3, q, Ss', K', m', z⟩) fun _ _ q => q
inductive WhI (t : TS) (nx : Nat) (we : Bool) (r : Int) : St → Prop
  | mk (j : Int) (h : Skip t.leq j r) : WhI t nx we r ⟨[("at", .int j), ("was_edit", .bool we), ("state", .ref 18), ("deck", .ref 5)], E true t, nx⟩
theorem wh_lt {i j : Int} (h1 : 0 ≤ i) (h2 : i < j) : i.toNat < j.toNat := by lia

noncomputable def fnB (K : Frag) (f : Addr) : List Stmt := match K.lookup f with
  | some o => (match o.data with
    | .func fd => (match fd.body with
      | .stmts b => b
      | _ => [])
    | _ => [])
  | none => []
noncomputable def lawFor : List Stmt → List Stmt
  | _ :: _ :: _ :: .For _ _ b _ _ :: _ => b
  | _ => []
noncomputable def lawElse : List Stmt → List Stmt
  | _ :: .If _ _ o _ :: _ => o
  | _ => []
noncomputable def lawThen : List Stmt → List Stmt
  | _ :: .If _ b _ _ :: _ => b
  | _ => []
noncomputable def lawRest : List Stmt → List Stmt
  | _ :: _ :: r => r
  | _ => []
noncomputable def lawTurn (P : Params) : List Stmt := lawFor (fnB (Mine.hx.heap_1_39 P) 868)
noncomputable def lawG : List (Str × V) := [("Undoing", .con (.ref 353)), ("_law_buffer", .con (.ref 833)), ("_law_deck", .con (.ref 819)), ("_law_draw", .con (.ref 826)), ("_law_edit", .con (.ref 840)), ("_law_redone", .con (.ref 854)), ("_law_told", .con (.ref 861)), ("_law_undone", .con (.ref 847)), ("len", .con (.builtin "len")), ("list", .con (.type "list")), ("range", .con (.type "range"))]
noncomputable def lawN : List (Str × NameKind) := [("script", .local), ("deck", .local), ("state", .local), ("was_edit", .local), ("the_turn", .local), ("way", .local), ("text", .local), ("joins", .local), ("is_new", .local), ("due", .local), ("word", .local), ("the_told", .local), ("at", .local), ("buffer", .cell), ("count", .cell), ("the_is_chained", .cell), ("undoing", .cell),
  ("_law_deck", .globalImplicit), ("_law_buffer", .globalImplicit), ("list", .globalImplicit), ("range", .globalImplicit), ("_law_draw", .globalImplicit), ("Undoing", .globalImplicit), ("_law_edit", .globalImplicit), ("len", .globalImplicit), ("_law_redone", .globalImplicit), ("_law_told", .globalImplicit), ("_law_undone", .globalImplicit)]
noncomputable def lawK : SP := ⟨"law", { kind := .function, names := lawN, isGenerator := false, isCoroutine := false }, 868, .ref 867, sg, lawG, 38, 19⟩
noncomputable abbrev lawP (c : Cx) (cs : List (Str × Addr)) (yd : Dy) : Par := mkPc lawK c cs 0 yd
theorem hmul10 : ∀ z : Int, IntMulOk 10 z := fun z => mul_l (m := 10) (by decide)
section
variable {c : Cx} {cs : List (Str × Addr)} {yd : Dy} {QQ : Fl → St → Prop} {i w nx : Nat} {t : TS} {ch we : Bool} {p : Pv} {Ss : List (List Row)} {K : List Row} {m : Bool}
noncomputable def lawL (x : List Int) (w i : Nat) (we : Bool) : List (Str × V) := [("way", .int (w : Nat)), ("text", .lst (iV x)), ("the_turn", .int (i : Nat)), ("was_edit", .bool we), ("state", .ref 18), ("deck", .ref 5)]
theorem c_edbr (hK : KOk c) (h : LI i t nx ch we p Ss K m) (hc : t.cC = some (.bool ch)) (hi : i ≤ 9) :
    (wps 59 (lawP c cs yd)).B (lawThen (lawTurn c.w.params)) (joinF QQ (LoopI (i + 1))) ⟨lawL p.x w i we, E true t, nx⟩ := by
  have hd3 := c_drawE hK (un := true) (nx := nx) (many := 3) h.dk (by decide) (by decide)
  have hcU := h.cU
  walk_at "stjs"
  · refine call_of3 hd3 rfl fun a r => ?_
    have hE := fun b f => c_editL hK (h.dkd r.2) hi (jn := b) (fun _ => rfl) (f := f)
    walk_at "stjs"
    refine ⟨hmul10 _, ?_⟩
    repeat' (walk_at "stj")
    refine call_of3 (hE _ _) rfl fun a r => ?_
    obtain ⟨q, Ss', K', m', r⟩ := r
    walk_at "stjs"
    exact ⟨[("was_edit", .bool true), ("state", .ref 18), ("deck", .ref 5)], _, _, ⟨rfl, rfl, rfl, trivial⟩, fun _ _ e => e, Nat.le_refl _, .mk _ _ _ _ _ _ _ _ r rfl⟩
  · have hE := fun f => c_editL hK h hi (jn := false) (fun q => nomatch q) (f := f)
    refine ⟨hmul10 _, ?_⟩
    repeat' (walk_at "stj")
    refine call_of3 (hE _) rfl fun a r => ?_
    obtain ⟨q, Ss', K', m', r⟩ := r
    walk_at "stjs"
    exact ⟨[("was_edit", .bool true), ("state", .ref 18), ("deck", .ref 5)], _, _, ⟨rfl, rfl, rfl, trivial⟩, fun _ _ e => e, Nat.le_refl _, .mk _ _ _ _ _ _ _ _ r rfl⟩
set_option tactic.hygienic true in
theorem c_flag (hK : KOk c) (hi : i ≤ 9) : ∀ σ1, LoopI (i + 1) σ1 → wBlock (wps 59) (lawP c cs yd) (lawRest (lawTurn c.w.params)) (fun f σ3 => wLoop QQ (LoopI (i + 1)) f σ3) σ1 := by
  rintro σ1 (@⟨t, nx, ch, we, p, Ss, K, m, h, hc⟩)
  obtain ⟨r, hr, _⟩ := Skip.ex h.core.dn t.groups.length
  have hf := h.flag hr
  have hcU := h.cU
  have hlt := h.core.dn.lt
  have hg : (t.groups.map fun g => V.lst (iV g)).length ≤ 2 ^ 24 := by rw [List.length_map]; exact Nat.le_trans h.gl (by lia)
  have hgl := glen t.groups
  have hm := c_ismod hK (un := true) (t := t) (nx := nx)
  walk_at "stjs"
  refine ⟨WhI t nx we r, atL, ⟨[("at", .int ((t.groups.map fun g => V.lst (iV g)).length : Nat)), ("was_edit", .bool we), ("state", .ref 18), ("deck", .ref 5)], ⟨rfl, rfl, rfl, rfl, trivial⟩, .mk _ (by rw [hgl]; exact hr)⟩, ?_⟩
  rintro σ2 (@⟨j, hj⟩)
  walk_at "stjs"
  · rename_i hjs
    have hjs : (t.leq j).isSome = true := by simpa [eqV] using hjs
    obtain ⟨i2, ei⟩ := Option.isSome_iff_exists.mp hjs
    refine ⟨.int i2, by show (t.leq j).map V.int = _; rw [ei]; rfl, ?_⟩
    walk_at "stjs"
    refine ⟨[("at", .int i2), ("was_edit", .bool we), ("state", .ref 18), ("deck", .ref 5)], ⟨rfl, rfl, rfl, rfl, trivial⟩, .mk i2 (hj.some_inv ei), ?_⟩
    obtain ⟨h1, h2⟩ := hlt _ _ ei
    exact wh_lt h1 h2
  · rename_i hjs
    have hjs : (t.leq j).isSome = false := by simpa [eqV] using hjs
    obtain rfl := hj.none_inv (Option.not_isSome_iff_eq_none.mp (by rw [hjs]; decide))
    first | refine IfOr.one ?_ | refine AsgOr.one ?_ | refine Or.inl ?_
    repeat' (walk_at "stj")
    refine call_eq hm rfl ?_
    walk_at "stjs"
    · rename_i hz
      exact absurd (hf.symm.trans hz) (by decide)
    · exact ⟨[("was_edit", .bool we), ("state", .ref 18), ("deck", .ref 5)], ⟨rfl, rfl, rfl, trivial⟩, .mk t nx ch we p Ss K m h hc⟩
end
noncomputable def lamP : Arguments := { posonlyargs := [], args := [], vararg := none, kwonlyargs := [], kw_defaults := [], kwarg := none, defaults := [] }
noncomputable def lamS (ns : List (Str × NameKind)) (f : Str) : Scope := { kind := .function, names := ns ++ [(f, .globalImplicit)], isGenerator := false, isCoroutine := false }
noncomputable def lam4 : List (Str × NameKind) := [("buffer", .free), ("count", .free), ("the_is_chained", .free), ("undoing", .free)]
noncomputable def lam3 : List (Str × NameKind) := [("buffer", .free), ("count", .free), ("undoing", .free)]
section
variable {c : Cx} {o : Nat → Option MO} {nx k cnt : Nat} {ch : Bool} {Q : V → (Nat → Option MO) → Nat → Prop} {QE : (Nat → Option MO) → Nat → Prop} {qual : Str} {pm : Value} {p0 p1 p2 p3 p4 pos : Pos}
theorem fl_undo (hK : KOk c) (fc : FC c 38 13 (.ref 425) [.ins 353 14, .ins 751 6, .int (cnt : Nat), .bool ch] o nx Q QE)
    (ho : o k = some (.clo (funP qual lamP (.Call (.Name "undo" p0) [.Name "undoing" p1, .Name "buffer" p2, .Name "count" p3, .Name "the_is_chained" p4] [] pos) (lamS lam4 "undo") pm ["undoing", "the_is_chained", "count", "buffer"]) funP_mono [0, 1, 2, 3]))
    (h0 : o 0 = some (.cell (some (.ins 353 14)))) (h1 : o 1 = some (.cell (some (.bool ch)))) (h2 : o 2 = some (.cell (some (.int (cnt : Nat))))) (h3 : o 3 = some (.cell (some (.ins 751 6)))) : FL c (Fly 38 .none) 14 k o nx Q QE := by
  refine FL_wp 20 hK (G := [("undo", .con (.ref 425))]) (.cons (g_undo hK) .nil) ho rfl (by decide +kernel) (by decide +kernel) (fun _ _ _ => rfl) fun A L f cdv cs outer => ?_
  walk_at "stjs"
  exact ⟨13, Q, QE, fc, Nat.le_refl _, fun b o' nx' q => q, fun o' nx' q => q⟩
theorem fl_only (hK : KOk c) (fc : FC c 38 13 (.ref 432) [.ins 353 14, .ins 751 6, .int (cnt : Nat), .bool ch] o nx Q QE)
    (ho : o k = some (.clo (funP qual lamP (.Call (.Name "undo_only" p0) [.Name "undoing" p1, .Name "buffer" p2, .Name "count" p3, .Name "the_is_chained" p4] [] pos) (lamS lam4 "undo_only") pm ["undoing", "the_is_chained", "count", "buffer"]) funP_mono [0, 1, 2, 3]))
    (h0 : o 0 = some (.cell (some (.ins 353 14)))) (h1 : o 1 = some (.cell (some (.bool ch)))) (h2 : o 2 = some (.cell (some (.int (cnt : Nat))))) (h3 : o 3 = some (.cell (some (.ins 751 6)))) : FL c (Fly 38 .none) 14 k o nx Q QE := by
  refine FL_wp 20 hK (G := [("undo_only", .con (.ref 432))]) (.cons (g_undo_only hK) .nil) ho rfl (by decide +kernel) (by decide +kernel) (fun _ _ _ => rfl) fun A L f cdv cs outer => ?_
  walk_at "stjs"
  exact ⟨13, Q, QE, fc, Nat.le_refl _, fun b o' nx' q => q, fun o' nx' q => q⟩
theorem fl_redo (hK : KOk c) (fc : FC c 38 13 (.ref 446) [.ins 353 14, .ins 751 6, .int (cnt : Nat)] o nx Q QE)
    (ho : o k = some (.clo (funP qual lamP (.Call (.Name "undo_redo" p0) [.Name "undoing" p1, .Name "buffer" p2, .Name "count" p3] [] pos) (lamS lam3 "undo_redo") pm ["undoing", "count", "buffer"]) funP_mono [0, 2, 3]))
    (h0 : o 0 = some (.cell (some (.ins 353 14)))) (h2 : o 2 = some (.cell (some (.int (cnt : Nat))))) (h3 : o 3 = some (.cell (some (.ins 751 6)))) : FL c (Fly 38 .none) 14 k o nx Q QE := by
  refine FL_wp 20 hK (G := [("undo_redo", .con (.ref 446))]) (.cons (g_undo_redo hK) .nil) ho rfl (by decide +kernel) (by decide +kernel) (fun _ _ _ => rfl) fun A L f cdv cs outer => ?_
  walk_at "stjs"
  exact ⟨13, Q, QE, fc, Nat.le_refl _, fun b o' nx' q => q, fun o' nx' q => q⟩
end
noncomputable def undoA : Bool → Nat
  | true => 432
  | false => 425
structure UndoIn (i : Nat) (t U : TS) (nx n : Nat) (ch : Bool) (p : Pv) (Ss : List (List Row)) (a k cnt : Nat) : Prop where
  pd : ∃ lp, Pd t.groups p.x t.leq lp (U.begun ch).pend Ss a
  ux : k ≠ 0 → Ux t U cnt k p.x n
  u0 : k = 0 → U0 t U n ∧ U.lp = some (a : Int)
  eq : U.eq = t.eq
  en : U.eqn = t.eqn
  cr : U.cr = t.cr
  rw : rowsAt U = rowsAt t
  rx : U.ex (rowsAt t) = none
  ex : ∀ j, n ≤ j → U.ex j = none
  nx : nx ≤ n
section
variable {c : Cx} {i nx n cnt a k : Nat} {t U : TS} {ch we only : Bool} {p : Pv} {Ss : List (List Row)} {K : List Row} {m : Bool}
theorem word_eq (h : LI i t nx ch we p Ss K m) (ha : a ≤ t.groups.length) (he : U.eq = t.eq) : wordOf (U.begun ch) (posB Ss a : Nat) only = wordL t (a : Nat) only := by
  unfold wordOf wordL
  rw [(Lw.begun (U := U) (ch := ch)).eq, he, h.core.eqs ha, Option.isSome_map]
  all_goals (cases (t.leq (a : Nat)).isSome <;> induction only <;> rfl)
theorem begun_cr {t U : TS} (hcr : U.cr = t.cr) (hrw : rowsAt U = rowsAt t) : (U.begun ch).cr = { t.cr with rows := bndS t.rows } ∧ rowsAt (U.begun ch) = rowsAt t := by
  have hr : U.rows = t.rows := congrArg Cr.rows hcr
  have h1 : ∀ r, (U.sRows r).cr = { U.cr with rows := r } := fun r => rfl
  cases hi : (U.sRows (bndS U.rows)).inRow ch with
  | true => rw [← begun_in hi, h1, hcr, hr]; exact ⟨rfl, hrw⟩
  | false =>
    rw [← begun_out hi]
    refine ⟨?_, hrw⟩
    show { U.cr with rows := bndS U.rows } = _
    rw [hcr, hr]
structure UndoC (i : Nat) (U : TS) (n : Nat) (ch only : Bool) (p : Pv) (p0 k0 cnt : Nat) : Prop where
  hp : (U.begun ch).pend = some (p0 : Int)
  hn : Nx (U.begun ch) n
  I : Is (U.begun ch).cr p.bnd
  hS : skB only (U.begun ch).eq p0 k0
  hd : ∀ a b, (U.begun ch).eq a = some b → 0 ≤ b ∧ b < a
  hnr : k0 ≤ p.bnd.rows.length
  hr : p.bnd.rows.length ≤ 2 ^ 22
  ok : TurnsOk p.bnd cnt k0
  hrt : (turns p.bnd cnt k0).1.rows.length ≤ 2 ^ 22
  he : (U.begun ch).eqn ≤ 1000
  hr0 : U.rows.length ≤ 2 ^ 22
theorem eq_dn (h : LI i t nx ch we p Ss K m) : ∀ a b, t.eq a = some b → 0 ≤ b ∧ b < a := fun a b e => by
  obtain ⟨i', j, e1, rfl, rfl⟩ := (h.core.eqr a b).mp e
  obtain ⟨z1, z2⟩ := h.core.lq e1
  have := posB_lt h.core.lt z1 (h.core.len ▸ z2)
  lia
theorem undo_c (h : LI i t nx ch we p Ss K m) (hi : i ≤ 9) (G : Go only t p Ss a k) (W : UndoIn i t U nx n ch p Ss a k cnt) : UndoC i U n ch only p (posB Ss a) (posB Ss k) cnt := by
  obtain ⟨lp, P⟩ := W.pd
  obtain ⟨c1, c2⟩ := begun_cr (ch := ch) W.cr W.rw
  have hB : Lw (U.begun ch) U := Lw.begun
  obtain ⟨o1, o2, o3, o4, q, o5, o6, _⟩ := h.core.undo (cnt := cnt) (by lia) (pow_le hi) G.le G.tx
  refine ⟨P.pd, ⟨Nat.le_trans h.nx.lo W.nx, by rw [c2]; exact Nat.lt_of_lt_of_le h.nx.rw W.nx, by rw [hB.ex]; exact W.ex, by rw [hB.ex, c2]; exact W.rx⟩, by rw [c1]; exact h.is.bndE, ?_, by rw [hB.eq, W.eq]; exact eq_dn h, o3, o2, o1, by rw [o5]; exact o6, by rw [hB.en, W.en]; exact h.en2 hi, ?_⟩
  · rw [hB.eq, W.eq]; exact G.sp
  · rw [show U.rows = t.rows from congrArg Cr.rows W.cr, show t.rows = p.rows from h.is.rows]; exact h.rl hi
theorem undo_fin (hK : KOk c) (h : LI i t nx ch we p Ss K m) (hi : i ≤ 9) (G : Go only t p Ss a k) (W : UndoIn i t U nx n ch p Ss a k cnt) (ha : a ≤ t.groups.length) : FC c 38 13 (.ref (undoA only)) [.ins 353 14, .ins 751 6, .int (cnt : Nat), .bool ch] (E true U) n
    (fun b o' nx' => ∃ s : TS × Nat, b = .str (wordL t (a : Nat) only) ∧ o' = E true s.1 ∧ nx' = s.2 ∧ k ≠ 0 ∧ ∃ q Ss K m, LI (i + 1) s.1 s.2 true false q Ss K m ∧ q.x = xU cnt t.groups p.x k)
    (fun o' nx' => k = 0 ∧ ∃ s : TS × Nat, o' = E true s.1 ∧ nx' = s.2 ∧ ∃ q Ss K m, LI (i + 1) s.1 s.2 true false q Ss K m ∧ q.x = p.x) := by
  have C := undo_c h hi G W
  obtain ⟨lp, P⟩ := W.pd
  obtain ⟨_, _, _, o4, _⟩ := h.core.undo (cnt := cnt) (by lia) (pow_le hi) G.le G.tx
  have hnz := h.core.nz G.le
  have hw := word_eq (only := only) h ha W.eq
  have hB : Lw (U.begun ch) U := Lw.begun
  have good : ∀ (A : Cr × Nat), above p.bnd.rows (posB Ss k) ≠ 0 → n ≤ A.2 → Is A.1 (turns p.bnd cnt (posB Ss k)).1 → k ≠ 0 ∧ ∃ q Ss' K' m', LI (i + 1) ((((U.begun ch).wc A.1).sPend (some ((turns p.bnd cnt (posB Ss k)).2 : Nat))).ended A.2 p.bnd.rows.length ((turns p.bnd cnt (posB Ss k)).2 : Nat)) (A.2 + 1) true false q Ss' K' m' ∧ q.x = xU cnt t.groups p.x k := fun A h0 hA J => by
    rw [o4] at h0
    have hk0 : k ≠ 0 := fun q => h0 (hnz.mpr q)
    have X := (W.ux hk0).of hB
    exact ⟨hk0, h.undo hi G.le hk0 G.tx (G.tp hk0) ⟨X.gr, X.leq, X.lp, X.ln, X.eq, X.en, X.cB, X.cU, fun j hj => X.ex j (Nat.le_trans hA hj), X.mx, X.d0⟩ (Nat.le_trans h.nx.lo (Nat.le_trans W.nx hA)) J⟩
  have bad : above p.bnd.rows (posB Ss k) = 0 → k = 0 ∧ ∃ q Ss K m, LI (i + 1) (U.begun ch) n true false q Ss K m ∧ q.x = p.x := fun h0 => by
    rw [o4] at h0
    have hk0 := hnz.mp h0
    obtain ⟨u1, u2⟩ := W.u0 hk0
    exact ⟨hk0, p.bnd, Ss, flatB Ss, m, h.refuse u1 P u2 W.cr W.rw W.nx W.rx, rfl⟩
  induction only with
  | false =>
    exact (c_undo hK C.hp C.hn C.I C.hS C.hd C.hnr C.hr C.ok C.hrt C.he C.hr0).imp (fun b o' nx' q => by obtain ⟨A, e1, e2, e3, h0, hA, J⟩ := q; exact ⟨(_, A.2 + 1), by rw [e1, hw], e2, e3, good A h0 hA J⟩) (fun o' nx' q => by obtain ⟨h0, e1, e2⟩ := q; exact ⟨(bad h0).1, (U.begun ch, n), e1, e2, (bad h0).2⟩)
  | true =>
    exact (c_only hK C.hp C.hn C.I C.hS C.hd C.hnr C.hr C.ok C.hrt C.he C.hr0).imp (fun b o' nx' q => by obtain ⟨A, e1, e2, e3, h0, hA, J⟩ := q; exact ⟨(_, A.2 + 1), by rw [e1, hw], e2, e3, good A h0 hA J⟩) (fun o' nx' q => by obtain ⟨h0, e1, e2⟩ := q; exact ⟨(bad h0).1, (U.begun ch, n), e1, e2, (bad h0).2⟩)
end
noncomputable def lamQ : Str := "law.<locals>.<lambda>"
noncomputable def lawCs (a0 a1 a2 a3 : Addr) : List (Str × Addr) := [("undoing", a0), ("the_is_chained", a1), ("count", a2), ("buffer", a3)]
noncomputable def lpL (x : List Int) (w : Nat) : List (Str × V) := [("text", .lst (iV x)), ("way", .int (w : Nat)), ("state", .ref 18), ("deck", .ref 5)]
noncomputable def lawMid : List Stmt → List Stmt
  | _ :: _ :: r => r
  | _ => []
noncomputable def if1 : List Stmt → List Stmt
  | .If _ b _ _ :: _ => b
  | _ => []
noncomputable def if2 : List Stmt → List Stmt
  | .If _ _ o _ :: _ => o
  | _ => []
inductive LpJ (i w : Nat) : St → Prop
  | mk (t : TS) (nx : Nat) (ch : Bool) (p : Pv) (Ss : List (List Row)) (K : List Row) (m : Bool) (wd : Str) (h : LI (i + 1) t nx ch false p Ss K m) (hch : ((true ^^ ((w : Int) == 7)) || (true ^^ (wd == "refused"))) = ch) :
      LpJ i w ⟨[("the_told", .str wd), ("word", .str wd), ("due", .lst (iV p.x)), ("was_edit", .bool false), ("way", .int (w : Nat)), ("state", .ref 18), ("deck", .ref 5)], E true t, nx⟩
structure Goes (T : TS) (p : Pv) (ch : Bool) (Ss : List (List Row)) (a : Nat) : Prop where
  le : a ≤ T.groups.length
  pd : ∀ U : TS, U.rows = T.rows → U.eq = T.eq → U.pend = T.pend → Pd T.groups p.x T.leq (some (a : Int)) (U.begun ch).pend Ss a
theorem goes_of {i nx : Nat} {T : TS} {ch we : Bool} {p : Pv} {Ss : List (List Row)} {K : List Row} {m : Bool} (h : LI i T nx ch we p Ss K m) : ∃ a : Nat, newLp T.groups.length T.leq T.lp ch = some (a : Int) ∧ Goes T p ch Ss a := by
  have hr : T.rows = p.rows := h.is.rows
  obtain ⟨a, P⟩ := begun_pd h.core (U := T) hr rfl h.pd
  refine ⟨a, P.lp, P.le, fun U u1 u2 u3 => ?_⟩
  obtain ⟨b, R⟩ := begun_pd h.core (U := U) (ch := ch) (lp := T.lp) (u1.trans hr) u2 (by rw [u3]; exact h.pd)
  obtain rfl : a = b := Int.ofNat_inj.mp (Option.some.inj (P.lp.symm.trans R.lp))
  rw [← P.lp]; exact R
theorem xU_if {cnt k : Nat} {G : List (List Int)} {x : List Int} : (if cnt = 0 then x else (G ++ [x]).getD (k - cnt) []) = xU cnt G x k := by induction cnt <;> rfl
theorem undone_rw {T : TS} {x : List Int} {k cnt : Nat} : rowsAt (T.undone x k cnt) = rowsAt T := by induction cnt <;> rfl
theorem undone_cells (T : TS) (x : List Int) (k cnt : Nat) : (T.undone x k cnt).cB = T.cB ∧ (T.undone x k cnt).cC = T.cC ∧ (T.undone x k cnt).cI = T.cI ∧ (T.undone x k cnt).cU = T.cU := by induction T; induction cnt <;> exact ⟨rfl, rfl, rfl, rfl⟩
theorem ex_more {T : TS} {nx : Nat} {x : MO} (h : Nx T nx) : (∀ j, nx + 1 ≤ j → upd T.ex nx x j = none) ∧ upd T.ex nx x (rowsAt T) = none :=
  ⟨fun j hj => (if_neg (Nat.ne_of_gt hj)).trans (h.ex j (Nat.le_of_succ_le hj)), (if_neg (Nat.ne_of_lt h.rw)).trans h.rx⟩
section
variable {c : Cx} {yd : Dy} {i w nx cnt a k : Nat} {a0 a1 a2 a3 : Addr} {T : TS} {ch we : Bool} {p : Pv} {Ss : List (List Row)} {K : List Row} {m : Bool} {x : MO}
theorem undo_in0 (h : LI i T nx ch we p Ss K m) (hP : Goes T p ch Ss a) (hk : k = 0) : UndoIn i T ((T.setLp (some (a : Int))).more nx x) nx (nx + 1) ch p Ss a k cnt where
  pd := ⟨_, hP.pd _ rfl rfl rfl⟩
  ux := fun q => absurd hk q
  u0 := fun _ => ⟨⟨rfl, rfl, Nat.le_succ _, rfl, rfl, rfl, rfl, (ex_more h.nx).1, rfl, rfl⟩, rfl⟩
  eq := rfl
  en := rfl
  cr := rfl
  rw := rfl
  rx := (ex_more h.nx).2
  ex := (ex_more h.nx).1
  nx := Nat.le_succ _
theorem undo_in1 (h : LI i T nx ch we p Ss K m) (hP : Goes T p ch Ss a) (hk : k ≠ 0) : UndoIn i T ((T.undone p.x k cnt).more nx x) nx (nx + 1) ch p Ss a k cnt := by
  obtain ⟨e1, e2⟩ := ex_more (x := x) h.nx
  have hex : ((T.undone p.x k cnt).more nx x).ex = upd T.ex nx x := by induction cnt <;> rfl
  have hp := hP.pd ((T.undone p.x k cnt).more nx x) (by induction cnt <;> rfl) (by induction cnt <;> rfl) (by induction cnt <;> rfl)
  refine ⟨⟨_, hp⟩, fun _ => ⟨?_, ?_, ?_, ?_, ?_, ?_, ?_, ?_, by rw [hex]; exact e1, ?_, ?_⟩, fun q => absurd q hk, ?_, ?_, ?_, ?_, by rw [hex]; exact e2, by rw [hex]; exact e1, Nat.le_succ _⟩
  all_goals clear hp hex e1 e2 h hP
  all_goals induction T; induction cnt <;> first | rfl | exact Nat.le_refl _ | exact Nat.le_succ _
theorem c_br0 (hK : KOk c) (HL : LamC c 867 863 lamQ) (h : LI i T nx ch we p Ss K m) (hcC : T.cC = some (.bool ch)) (hcI : T.cI = some (.int (cnt : Nat))) (hi : i ≤ 9) (hw : (true ^^ ((w : Int) == 7)) = true) (hP : Goes T p ch Ss a) {Q : Fl → St → Prop} (hQ : ∀ σ, weakO σ (LpJ i w) → Q .next σ) :
    (wps 57 (lawP c (lawCs a0 a1 a2 a3) yd)).B (if2  (lawElse (lawMid (lawElse (lawTurn c.w.params))))) Q ⟨("was_edit", .bool false) :: lpL p.x w, E true (T.sLp (some (a : Int))), nx⟩ := by
  obtain ⟨k, G⟩ := go_of h (hP.pd T rfl rfl rfl) false
  have ha := hP.le
  have hun := c_undone hK (t := T) (nx := nx) (x := p.x) (cnt := cnt) (k := k) (only := false) (a0 := (a : Nat)) G.sk h.core.dn.lt G.le (h.gl2 hi) (h.ln2 hi)
  have hne : rowsAt T ≠ nx := Nat.ne_of_lt h.nx.rw
  have hlo := h.nx.lo
  by_cases hk : k = 0
  · have hun := hun.imp (fun b o' nx' q => q.1 hk) fun _ _ q => q
    have hM := fun x => E_more (un := true) (t := T.setLp (some (a : Int))) (k := nx) (x := x) hlo fun _ => hne
    have hin := fun x => undo_in0 (x := x) (cnt := cnt) (ch := ch) h hP hk
    walk_at "stjs"
    refine call_eq hun rfl ?_
    walk_at "stjs"
    intro hz
    refine R_lambda (qual := lamQ) (ks := [0, 1, 2, 3]) HL rfl rfl rfl rfl rfl ⟨rfl, rfl, rfl, rfl, rfl, rfl, rfl, rfl, trivial⟩ ?_
    dsimp only
    rw [hM]
    generalize hx : MO.clo _ _ _ = x
    have hf := undo_fin (only := false) hK h hi G (hin x) ha
    have hx0 : E true ((T.setLp (some (a : Int))).more nx x) nx = some x := E_more_at hlo fun _ => hne
    have hx1 := hx0.trans (congrArg some hx.symm)
    have ht := c_told hK (nx := nx + 1) hx1 (fl_undo hK hf hx1 (congrArg (fun z => some (MO.cell z)) h.cB) (congrArg (fun z => some (MO.cell z)) hcC) (congrArg (fun z => some (MO.cell z)) hcI) (congrArg (fun z => some (MO.cell z)) h.cU)) (Nat.le_refl _)
    walk_at "stjs"
    refine call_ex ht rfl fun b o' nx' q => ?_
    rcases q with ⟨s, _, _, _, h0, _⟩ | ⟨rfl, _, s, rfl, rfl, q, Ss', K', m', hL, hqx⟩
    · exact absurd hk h0
    walk_at "stjs"
    exact hQ _ ⟨[("the_told", .str "refused"), ("word", .str "refused"), ("due", .lst (iV p.x)), ("was_edit", .bool false), ("way", .int (w : Nat)), ("state", .ref 18), ("deck", .ref 5)], _, _, ⟨rfl, rfl, rfl, rfl, rfl, rfl, rfl, trivial⟩, fun _ _ e => e, Nat.le_refl _, by rw [← hqx]; exact .mk s.1 s.2 true q Ss' K' m' "refused" hL (by rw [hw]; rfl)⟩
  · have hun := hun.imp (fun b o' nx' q => q.2 hk) fun _ _ q => q
    rw [xU_if] at hun
    have hM := fun x => E_more (un := true) (t := T.undone p.x k cnt) (k := nx) (x := x) hlo fun _ => by rw [undone_rw]; exact hne
    have hin := fun x => undo_in1 (x := x) (cnt := cnt) (ch := ch) h hP hk
    have hcell := undone_cells T p.x k cnt
    walk_at "stjs"
    refine call_eq hun rfl ?_
    walk_at "stjs"
    intro hz
    refine R_lambda (qual := lamQ) (ks := [0, 1, 2, 3]) HL rfl rfl rfl rfl rfl ⟨rfl, rfl, rfl, rfl, rfl, rfl, rfl, rfl, trivial⟩ ?_
    dsimp only
    rw [hM]
    generalize hx : MO.clo _ _ _ = x
    have hf := undo_fin (only := false) hK h hi G (hin x) ha
    have hx0 : E true ((T.undone p.x k cnt).more nx x) nx = some x := E_more_at hlo fun _ => by rw [undone_rw]; exact hne
    have hx1 := hx0.trans (congrArg some hx.symm)
    have ht := c_told hK (nx := nx + 1) hx1 (fl_undo hK hf hx1 (congrArg (fun z => some (MO.cell z)) (hcell.1.trans h.cB)) (congrArg (fun z => some (MO.cell z)) (hcell.2.1.trans hcC)) (congrArg (fun z => some (MO.cell z)) (hcell.2.2.1.trans hcI)) (congrArg (fun z => some (MO.cell z)) (hcell.2.2.2.trans h.cU))) (Nat.le_refl _)
    walk_at "stjs"
    refine call_ex ht rfl fun b o' nx' q => ?_
    rcases q with ⟨s, rfl, rfl, rfl, _, q, Ss', K', m', hL, hqx⟩ | ⟨_, h0, _⟩
    · walk_at "stjs"
      exact hQ _ ⟨[("the_told", .str (wordL T (a : Nat) false)), ("word", .str (wordL T (a : Nat) false)), ("due", .lst (iV (xU cnt T.groups p.x k))), ("was_edit", .bool false), ("way", .int (w : Nat)), ("state", .ref 18), ("deck", .ref 5)], _, _, ⟨rfl, rfl, rfl, rfl, rfl, rfl, rfl, trivial⟩, fun _ _ e => e, Nat.le_refl _, by rw [← hqx]; exact .mk s.1 s.2 true q Ss' K' m' _ hL (by rw [hw]; rfl)⟩
    · exact absurd h0 hk
theorem c_br6 (hK : KOk c) (HL : LamC c 867 863 lamQ) (h : LI i T nx ch we p Ss K m) (hcC : T.cC = some (.bool ch)) (hcI : T.cI = some (.int (cnt : Nat))) (hi : i ≤ 9) (hw : (true ^^ ((w : Int) == 7)) = true) (hP : Goes T p ch Ss a) {Q : Fl → St → Prop} (hQ : ∀ σ, weakO σ (LpJ i w) → Q .next σ) :
    (wps 57 (lawP c (lawCs a0 a1 a2 a3) yd)).B (if1  (lawElse (lawMid (lawElse (lawTurn c.w.params))))) Q ⟨("was_edit", .bool false) :: lpL p.x w, E true (T.sLp (some (a : Int))), nx⟩ := by
  obtain ⟨k, G⟩ := go_of h (hP.pd T rfl rfl rfl) true
  have ha := hP.le
  have hun := c_undone hK (t := T) (nx := nx) (x := p.x) (cnt := cnt) (k := k) (only := true) (a0 := (a : Nat)) G.sk h.core.dn.lt G.le (h.gl2 hi) (h.ln2 hi)
  have hne : rowsAt T ≠ nx := Nat.ne_of_lt h.nx.rw
  have hlo := h.nx.lo
  by_cases hk : k = 0
  · have hun := hun.imp (fun b o' nx' q => q.1 hk) fun _ _ q => q
    have hM := fun x => E_more (un := true) (t := T.setLp (some (a : Int))) (k := nx) (x := x) hlo fun _ => hne
    have hin := fun x => undo_in0 (x := x) (cnt := cnt) (ch := ch) h hP hk
    walk_at "stjs"
    refine call_eq hun rfl ?_
    walk_at "stjs"
    intro hz
    refine R_lambda (qual := lamQ) (ks := [0, 1, 2, 3]) HL rfl rfl rfl rfl rfl ⟨rfl, rfl, rfl, rfl, rfl, rfl, rfl, rfl, trivial⟩ ?_
    dsimp only
    rw [hM]
    generalize hx : MO.clo _ _ _ = x
    have hf := undo_fin (only := true) hK h hi G (hin x) ha
    have hx0 : E true ((T.setLp (some (a : Int))).more nx x) nx = some x := E_more_at hlo fun _ => hne
    have hx1 := hx0.trans (congrArg some hx.symm)
    have ht := c_told hK (nx := nx + 1) hx1 (fl_only hK hf hx1 (congrArg (fun z => some (MO.cell z)) h.cB) (congrArg (fun z => some (MO.cell z)) hcC) (congrArg (fun z => some (MO.cell z)) hcI) (congrArg (fun z => some (MO.cell z)) h.cU)) (Nat.le_refl _)
    walk_at "stjs"
    refine call_ex ht rfl fun b o' nx' q => ?_
    rcases q with ⟨s, _, _, _, h0, _⟩ | ⟨rfl, _, s, rfl, rfl, q, Ss', K', m', hL, hqx⟩
    · exact absurd hk h0
    walk_at "stjs"
    exact hQ _ ⟨[("the_told", .str "refused"), ("word", .str "refused"), ("due", .lst (iV p.x)), ("was_edit", .bool false), ("way", .int (w : Nat)), ("state", .ref 18), ("deck", .ref 5)], _, _, ⟨rfl, rfl, rfl, rfl, rfl, rfl, rfl, trivial⟩, fun _ _ e => e, Nat.le_refl _, by rw [← hqx]; exact .mk s.1 s.2 true q Ss' K' m' "refused" hL (by rw [hw]; rfl)⟩
  · have hun := hun.imp (fun b o' nx' q => q.2 hk) fun _ _ q => q
    rw [xU_if] at hun
    have hM := fun x => E_more (un := true) (t := T.undone p.x k cnt) (k := nx) (x := x) hlo fun _ => by rw [undone_rw]; exact hne
    have hin := fun x => undo_in1 (x := x) (cnt := cnt) (ch := ch) h hP hk
    have hcell := undone_cells T p.x k cnt
    walk_at "stjs"
    refine call_eq hun rfl ?_
    walk_at "stjs"
    intro hz
    refine R_lambda (qual := lamQ) (ks := [0, 1, 2, 3]) HL rfl rfl rfl rfl rfl ⟨rfl, rfl, rfl, rfl, rfl, rfl, rfl, rfl, trivial⟩ ?_
    dsimp only
    rw [hM]
    generalize hx : MO.clo _ _ _ = x
    have hf := undo_fin (only := true) hK h hi G (hin x) ha
    have hx0 : E true ((T.undone p.x k cnt).more nx x) nx = some x := E_more_at hlo fun _ => by rw [undone_rw]; exact hne
    have hx1 := hx0.trans (congrArg some hx.symm)
    have ht := c_told hK (nx := nx + 1) hx1 (fl_only hK hf hx1 (congrArg (fun z => some (MO.cell z)) (hcell.1.trans h.cB)) (congrArg (fun z => some (MO.cell z)) (hcell.2.1.trans hcC)) (congrArg (fun z => some (MO.cell z)) (hcell.2.2.1.trans hcI)) (congrArg (fun z => some (MO.cell z)) (hcell.2.2.2.trans h.cU))) (Nat.le_refl _)
    walk_at "stjs"
    refine call_ex ht rfl fun b o' nx' q => ?_
    rcases q with ⟨s, rfl, rfl, rfl, _, q, Ss', K', m', hL, hqx⟩ | ⟨_, h0, _⟩
    · walk_at "stjs"
      exact hQ _ ⟨[("the_told", .str (wordL T (a : Nat) true)), ("word", .str (wordL T (a : Nat) true)), ("due", .lst (iV (xU cnt T.groups p.x k))), ("was_edit", .bool false), ("way", .int (w : Nat)), ("state", .ref 18), ("deck", .ref 5)], _, _, ⟨rfl, rfl, rfl, rfl, rfl, rfl, rfl, trivial⟩, fun _ _ e => e, Nat.le_refl _, by rw [← hqx]; exact .mk s.1 s.2 true q Ss' K' m' _ hL (by rw [hw]; rfl)⟩
    · exact absurd h0 hk
end
noncomputable def redW (b : Bool) : Str := match b with
  | true => "Redo"
  | false => "refused"
theorem setRed_eta {T : TS} : T.setRed T.groups T.leq T.lp = T := by induction T; rfl
section
variable {c : Cx} {yd : Dy} {i w nx cnt : Nat} {a0 a1 a2 a3 : Addr} {T : TS} {ch we : Bool} {p : Pv} {Ss : List (List Row)} {K : List Row} {m : Bool}
theorem c_redoneL (hK : KOk c) (h : LI i T nx ch we p Ss K m) (hi : i ≤ 9) (hc : cnt ≤ 100) {R : Bool × List (List Int) × (Int → Option Int) × List Int × Option Int} (hR : lawRed cnt T.groups T.leq p.x T.lp = R) :
    FC c 38 2 (.ref 854) [.ref 18, .lst (iV p.x), .int (cnt : Nat)] (E true T) nx (fun b o' nx' => b = .tup [.lst (iV R.2.2.2.1), .str (redW R.1)] ∧ o' = E true (T.setRed R.2.1 R.2.2.1 R.2.2.2.2) ∧ nx' = nx) (fun _ _ => False) :=
  (c_redone hK (t := T) (nx := nx) (x := p.x) (cnt := cnt) rfl h.core.dn.lt (h.gl2 hi) (h.ln2 hi) hc).imp (fun b o' nx' q => by
    subst hR
    cases e : T.leq (T.groups.length : Nat) with
    | none =>
      rw [lawRed_none e]
      rw [e] at q
      rcases q with ⟨_, z, _⟩ | ⟨_, e1, e2, e3⟩
      · cases z
      · refine ⟨e1, ?_, e3⟩
        show o' = E true (T.setRed T.groups T.leq T.lp)
        rw [setRed_eta]; exact e2
    | some j =>
      rw [lawRed_some e]
      rw [e] at q
      rcases q with ⟨z, _, e1, e2, e3⟩ | ⟨z, e1, e2, e3⟩
      · rw [if_pos z, z]; exact ⟨e1, e2, e3⟩
      · have z : (redoL cnt T.groups T.leq p.x T.lp).1 = false := z.resolve_right fun q => nomatch q
        rw [if_neg (by rw [z]; decide), z]; exact ⟨e1, e2, e3⟩) fun _ _ q => q
theorem redo_fin (hK : KOk c) (h : LI i T nx ch we p Ss K m) (hi : i ≤ 9) (hc : cnt ≤ 100) {x : MO} {A : Bool × Pv × (Int → Option Int) × Option Int} {R : Bool × List (List Int) × (Int → Option Int) × List Int × Option Int} (hA : redos (decide (0 < cnt)) (max 1 cnt) p T.eq T.pend = A)
    (ok : RedosOk (decide (0 < cnt)) (max 1 cnt) p T.eq) (B : Both (3 + 2 * i) (4 ^ (i + 1)) A R T.groups.length) : FC c 38 13 (.ref 446) [.ins 353 14, .ins 751 6, .int (cnt : Nat)] (E true ((T.setRed R.2.1 R.2.2.1 R.2.2.2.2).more nx x)) (nx + 1)
    (fun b o' nx' => ∃ s : TS × Nat, b = .str "Redo" ∧ o' = E true s.1 ∧ nx' = s.2 ∧ A.1 = true ∧ ∃ Ss K m, LI (i + 1) s.1 s.2 A.1 false A.2.1 Ss K m)
    (fun o' nx' => ∃ s : TS × Nat, o' = E true s.1 ∧ nx' = s.2 ∧ A.1 = false ∧ ∃ Ss K m, LI (i + 1) s.1 s.2 A.1 false A.2.1 Ss K m) := by
  obtain ⟨e1, e2⟩ := ex_more (x := x) h.nx
  have N : Nx ((T.setRed R.2.1 R.2.2.1 R.2.2.2.2).more nx x) (nx + 1) := ⟨Nat.le_succ_of_le h.nx.lo, Nat.lt_succ_of_lt h.nx.rw, e1, e2⟩
  have U : Rx T ((T.setRed R.2.1 R.2.2.1 R.2.2.2.2).more nx x) R := ⟨rfl, rfl, rfl, rfl, rfl, rfl, rfl, rfl, rfl⟩
  have hr0 : ((T.setRed R.2.1 R.2.2.1 R.2.2.2.2).more nx x).rows.length ≤ 2 ^ 22 := by show T.rows.length ≤ _; rw [show T.rows = p.rows from h.is.rows]; exact h.rl hi
  have hI : Is ((T.setRed R.2.1 R.2.2.1 R.2.2.2.2).more nx x).cr p := h.is
  have h1 : ((T.setRed R.2.1 R.2.2.1 R.2.2.2.2).more nx x).eq = T.eq := rfl
  have h2 : ((T.setRed R.2.1 R.2.2.1 R.2.2.2.2).more nx x).pend = T.pend := rfl
  have h3 : ((T.setRed R.2.1 R.2.2.1 R.2.2.2.2).more nx x).eqn ≤ 1000 := h.en2 hi
  generalize (T.setRed R.2.1 R.2.2.1 R.2.2.2.2).more nx x = X at N U hr0 hI h1 h2 h3 ⊢
  have hg := c_redo hK (t := X) (nx := nx + 1) (p := p) (cnt := cnt) N hI hc (by rw [h1]; exact eq_dn h) (by rw [h1]; exact ok) h3 hr0
  rw [h1, h2, hA] at hg
  exact hg.imp (fun b o' nx' hp_ => by obtain ⟨a, e1, e2, e3, q, _, J, N'⟩ := hp_; exact ⟨(_, a.2.2), e1, e2, e3, q, h.redo B U J N'⟩) (fun o' nx' hp_ => by obtain ⟨a, e2, e3, q, _, J, N'⟩ := hp_; exact ⟨(_, a.2.2), e2, e3, q, h.redo B U J N'⟩)
theorem c_br7 (hK : KOk c) (HL : LamC c 867 863 lamQ) (h : LI i T nx ch we p Ss K m) (hcI : T.cI = some (.int (cnt : Nat))) (hi : i ≤ 9) (hc : cnt ≤ 100) (hw : (true ^^ ((w : Int) == 7)) = false) {Q : Fl → St → Prop} (hQ : ∀ σ, weakO σ (LpJ i w) → Q .next σ) :
    (wps 58 (lawP c (lawCs a0 a1 a2 a3) yd)).B (lawThen (lawMid (lawElse (lawTurn c.w.params)))) Q ⟨("was_edit", .bool false) :: lpL p.x w, E true T, nx⟩ := by
  obtain ⟨ok, B⟩ := Both.mk' h.core (by lia) (pow_le hi) cnt T.pend T.lp
  generalize hA : redos (decide (0 < cnt)) (max 1 cnt) p T.eq T.pend = A at B
  generalize hR : lawRed cnt T.groups T.leq p.x T.lp = R at B
  have hun := c_redoneL hK h hi hc hR
  have hf := fun x => redo_fin (x := x) hK h hi hc hA ok B
  have hne : rowsAt T ≠ nx := Nat.ne_of_lt h.nx.rw
  have hlo := h.nx.lo
  have hcB := h.cB
  have hcU := h.cU
  have hM := fun x => E_more (un := true) (t := T.setRed R.2.1 R.2.2.1 R.2.2.2.2) (k := nx) (x := x) hlo fun _ => hne
  have hM0 := fun x => E_more_at (un := true) (t := T.setRed R.2.1 R.2.2.1 R.2.2.2.2) (k := nx) (x := x) hlo fun _ => hne
  rw [← B.x, ← B.ok] at hun
  clear h hA hR ok
  walk_at "stjs"
  refine call_eq hun rfl ?_
  walk_at "stjs"
  intro hz
  refine R_lambda (qual := lamQ) (ks := [0, 2, 3]) HL rfl rfl rfl rfl rfl ⟨rfl, rfl, rfl, rfl, rfl, rfl, trivial⟩ ?_
  dsimp only
  rw [hM]
  generalize hx : MO.clo _ _ _ = x
  have hx1 := (hM0 x).trans (congrArg some hx.symm)
  have ht := c_told hK (nx := nx + 1) hx1 (fl_redo hK (hf x) hx1 (congrArg (fun z => some (MO.cell z)) hcB) (congrArg (fun z => some (MO.cell z)) hcI) (congrArg (fun z => some (MO.cell z)) hcU)) (Nat.le_refl _)
  walk_at "stjs"
  refine call_ex ht rfl fun b o' nx' q => ?_
  rcases q with ⟨s, rfl, rfl, rfl, q, Ss', K', m', hL⟩ | ⟨rfl, s, rfl, rfl, q, Ss', K', m', hL⟩
  · rw [q]
    walk_at "stjs"
    exact hQ _ ⟨[("the_told", .str "Redo"), ("word", .str "Redo"), ("due", .lst (iV A.2.1.x)), ("was_edit", .bool false), ("way", .int (w : Nat)), ("state", .ref 18), ("deck", .ref 5)], _, _, ⟨rfl, rfl, rfl, rfl, rfl, rfl, rfl, trivial⟩, fun _ _ e => e, Nat.le_refl _, .mk s.1 s.2 A.1 A.2.1 Ss' K' m' "Redo" hL (by rw [hw, q]; decide)⟩
  · rw [q]
    walk_at "stjs"
    exact hQ _ ⟨[("the_told", .str "refused"), ("word", .str "refused"), ("due", .lst (iV A.2.1.x)), ("was_edit", .bool false), ("way", .int (w : Nat)), ("state", .ref 18), ("deck", .ref 5)], _, _, ⟨rfl, rfl, rfl, rfl, rfl, rfl, rfl, trivial⟩, fun _ _ e => e, Nat.le_refl _, .mk s.1 s.2 A.1 A.2.1 Ss' K' m' "refused" hL (by rw [hw, q]; decide)⟩
end
theorem nl_out {n : Nat} {leq : Int → Option Int} {lp : Option Int} : newLp n leq lp false = some (n : Int) := if_neg fun q => nomatch q.1
theorem nl_none {n : Nat} {leq : Int → Option Int} {ch : Bool} : newLp n leq none ch = some (n : Int) := if_neg fun q => q.2.1 rfl
theorem nl_keep {n : Nat} {leq : Int → Option Int} {a b : Int} (h : leq n = some b) : newLp n leq (some a) true = some a := if_pos ⟨rfl, fun q => (nomatch q), fun q => by rw [h] at q; cases q.1⟩
theorem nl_new {n : Nat} {leq : Int → Option Int} {a : Int} (h : leq n = none) (ha : (true ^^ (a == 0)) = true) : newLp n leq (some a) true = some (n : Int) := if_neg fun q => q.2.2 ⟨h, fun z => by cases z; simp at ha⟩
theorem nl_zero {n : Nat} {leq : Int → Option Int} {a : Int} (ha : (true ^^ (a == 0)) = false) : newLp n leq (some a) true = some a := if_pos ⟨rfl, fun q => (nomatch q), fun q => q.2 (congrArg some (by simpa using ha))⟩
noncomputable def lp2 (w : Nat) (t : TS) (ch : Bool) : Option Int := if w = 7 then t.lp else newLp t.groups.length t.leq t.lp ch
theorem lp2_7 {w : Nat} {t : TS} {ch : Bool} (h : (true ^^ ((w : Int) == 7)) = false) : t.lp = lp2 w t ch := by
  have : w = 7 := by have h : (w : Int) = 7 := by simpa using h
                     lia
  exact (if_pos this).symm
theorem lp2_n {w : Nat} {t : TS} {ch : Bool} (h : (true ^^ ((w : Int) == 7)) = true) {v : Option Int} (e : newLp t.groups.length t.leq t.lp ch = v) : v = lp2 w t ch := by
  have : ¬ w = 7 := fun q => by subst q; simp at h
  rw [← e]; exact (if_neg this).symm
noncomputable def LpM (t : TS) (nx : Nat) (x : List Int) (w : Nat) (ch : Bool) (σ : St) : Prop := σ = ⟨[("text", .lst (iV x)), ("way", .int (w : Nat)), ("state", .ref 18), ("deck", .ref 5)], E true (t.sLp (lp2 w t ch)), nx⟩
theorem lpA {t : TS} {nx : Nat} {x : List Int} {w : Nat} {ch : Bool} (h : (true ^^ ((w : Int) == 7)) = true) (e : newLp t.groups.length t.leq t.lp ch = some (t.groups.length : Int)) : LpM t nx x w ch ⟨lpL x w, E true (t.sLp (some (((t.groups.map fun g => V.lst (iV g)).length : Nat) : Int))), nx⟩ := by
  rw [glen, lp2_n h e]; rfl
theorem lpB {t : TS} {nx : Nat} {x : List Int} {w : Nat} {ch : Bool} (e : t.lp = lp2 w t ch) : LpM t nx x w ch ⟨lpL x w, E true t, nx⟩ := by
  show _ = (⟨_, E true (t.sLp (lp2 w t ch)), nx⟩ : St)
  rw [← e]; rfl
section
variable {c : Cx} {cs : List (Str × Addr)} {yd : Dy} {QQ : Fl → St → Prop} {i w nx : Nat} {t : TS} {ch we : Bool} {p : Pv} {Ss : List (List Row)} {K : List Row} {m : Bool}
theorem LI.scc {v : Option V} (h : LI i t nx ch we p Ss K m) : LI i (t.sCC v) nx ch we p Ss K m := ⟨h.is, h.core, h.we, h.pd, h.gl, h.ln, h.en, ⟨h.nx.lo, h.nx.rw, h.nx.ex, h.nx.rx⟩, ⟨h.dk.d0, h.dk.m1, h.dk.m2⟩, h.cB, h.cU⟩
set_option tactic.hygienic true in
theorem c_tail (hK : KOk c) (hi : i ≤ 9) : ∀ σ1, LpJ i w σ1 → wBlock (wps 58) (lawP c cs yd) (lawMid (lawMid (lawElse (lawTurn c.w.params)))) (joinF QQ (LoopI (i + 1))) σ1 := by
  rintro σ1 (@⟨t, nx, ch, p, Ss, K, m, wd, h, hch⟩)
  have hcU := h.cU
  have hS := c_sizeP hK (nx := nx) h.is
  have hT := c_textP hK (nx := nx) h.is
  have hxd : ∀ b, (true ^^ decide (p.x = p.x)) = b → b = false := fun b q => by rw [← q, decide_eq_true rfl]; rfl
  have hwd : ∀ b, (true ^^ (wd == wd)) = b → b = false := fun b q => by rw [← q, beq_self_eq_true]; rfl
  repeat' (walk_at "stj")
  first | refine IfOr.one ?_ | refine AsgOr.one ?_ | refine Or.inl ?_
  walk_at "stjs"
  · rename_i hz
    exact nomatch hwd _ hz
  rename_i hz
  refine call_eq hS rfl ?_
  repeat' (walk_at "stj")
  refine call_eq hT rfl ?_
  walk_at "stjs"
  refine ⟨p.x, p.x, .lst, .lst, ?_⟩
  walk_at "stjs"
  · rename_i hz
    exact nomatch hxd _ hz
  · rename_i hz
    have e : ch = (true ^^ ((w : Int) == 7)) := by rw [← hch, hz]; rfl
    exact ⟨[("was_edit", .bool false), ("state", .ref 18), ("deck", .ref 5)], _, _, ⟨rfl, rfl, rfl, trivial⟩, fun _ _ e => e, Nat.le_refl _, .mk _ nx _ false p Ss K m (LI.scc (e ▸ h)) rfl⟩
  · rename_i hz
    have e : ch = (true ^^ (wd == "refused")) := by rw [← hch, hz]; rfl
    exact ⟨[("was_edit", .bool false), ("state", .ref 18), ("deck", .ref 5)], _, _, ⟨rfl, rfl, rfl, trivial⟩, fun _ _ e => e, Nat.le_refl _, .mk _ nx _ false p Ss K m (LI.scc (e ▸ h)) rfl⟩
theorem sLp_dk {t : TS} {v : Option Int} {d : List Int × Int} {x : Option V} : ((t.sLp v).dk d).sCI x = ((t.dk d).sCI x).sLp v := by induction t; rfl
theorem LI.sci {v : Option V} (h : LI i t nx ch we p Ss K m) : LI i (t.sCI v) nx ch we p Ss K m := ⟨h.is, h.core, h.we, h.pd, h.gl, h.ln, h.en, ⟨h.nx.lo, h.nx.rw, h.nx.ex, h.nx.rx⟩, ⟨h.dk.d0, h.dk.m1, h.dk.m2⟩, h.cB, h.cU⟩
theorem sLp_eta {T : TS} {v : Option Int} (h : T.lp = v) : T.sLp v = T := by subst h; induction T; rfl
theorem c_mid (hK : KOk c) (HL : LamC c 867 863 lamQ) (h : LI i t nx ch we p Ss K m) (hc : t.cC = some (.bool ch)) (hi : i ≤ 9) {a0 a1 a2 a3 : Addr} : ∀ σ1, LpM t nx p.x w ch σ1 →
    wBlock (wps 58) (lawP c (lawCs a0 a1 a2 a3) yd) (lawMid (lawElse (lawTurn c.w.params))) (joinF QQ (LoopI (i + 1))) σ1 := by
  rintro σ1 rfl
  have hd := c_drawE hK (un := true) (t := t.sLp (lp2 w t ch)) (nx := nx) (many := 4) ⟨h.dk.d0, h.dk.m1, h.dk.m2⟩ (by decide) (by decide)
  have hT := c_tail (cs := lawCs a0 a1 a2 a3) (yd := yd) (w := w) (QQ := QQ) hK hi
  repeat' (walk_at "stj")
  refine call_of3 hd rfl fun a r => ?_
  obtain ⟨cnt, d⟩ := a
  obtain ⟨hcnt, D⟩ := r
  have hT1 : LI i ((t.dk d).sCI (some (.int (cnt : Nat)))) nx ch we p Ss K m := LI.sci (h.dkd ⟨D.d0, D.m1, D.m2⟩)
  have hc1 : ((t.dk d).sCI (some (.int (cnt : Nat)))).cC = some (.bool ch) := hc
  have hc2 : ((t.dk d).sCI (some (.int (cnt : Nat)))).cI = some (.int (cnt : Nat)) := rfl
  have hlp : lp2 w t ch = lp2 w ((t.dk d).sCI (some (.int (cnt : Nat)))) ch := rfl
  have hsd : ((t.sLp (lp2 w t ch)).dk d).sCI (some (.int (cnt : Nat))) = ((t.dk d).sCI (some (.int (cnt : Nat)))).sLp (lp2 w t ch) := sLp_dk
  clear D hd h hc
  walk_at "stjs"
  dsimp only
  rw [hsd, hlp]
  generalize (t.dk d).sCI (some (.int (cnt : Nat))) = T at hT1 hc1 hc2 ⊢
  first | refine IfOr.two (LpJ i w) ?_ hT | refine AsgOr.two (LpJ i w) ?_ hT
  clear hT
  conv => whnf
  refine brB_mk (fun hw => ?_) (fun hw => ?_)
  · have h7 : (true ^^ ((w : Int) == 7)) = false := by rw [show ((w : Int) == 7) = true by simpa using hw]; rfl
    rw [sLp_eta (lp2_7 h7)]
    exact c_br7 hK HL hT1 hc2 hi (Nat.le_trans (Nat.le_of_lt hcnt) (by decide)) h7 fun σ q => q
  · have h7 : (true ^^ ((w : Int) == 7)) = true := by rw [show ((w : Int) == 7) = false by simpa using hw]; rfl
    obtain ⟨a, ea, hP⟩ := goes_of hT1
    rw [← lp2_n h7 ea]
    conv => whnf
    first | refine IfOr.one ?_ | refine AsgOr.one ?_ | refine Or.inl ?_
    conv => whnf
    refine brB_mk (fun h6 => ?_) (fun h6 => ?_)
    · exact c_br6 hK HL hT1 hc1 hc2 hi h7 hP fun σ q => q
    · exact c_br0 hK HL hT1 hc1 hc2 hi h7 hP fun σ q => q
set_option tactic.hygienic true in
theorem c_else (hK : KOk c) (HL : LamC c 867 863 lamQ) (h : LI i t nx ch we p Ss K m) (hc : t.cC = some (.bool ch)) (hi : i ≤ 9) {a0 a1 a2 a3 : Addr} :
    (wps 59 (lawP c (lawCs a0 a1 a2 a3) yd)).B (lawElse (lawTurn c.w.params)) (joinF QQ (LoopI (i + 1))) ⟨lawL p.x w i we, E true t, nx⟩ := by
  have hg : (t.groups.map fun g => V.lst (iV g)).length ≤ 2 ^ 24 := by rw [List.length_map]; exact Nat.le_trans h.gl (by lia)
  have hev : (eqV t.leq ((t.groups.map fun g => V.lst (iV g)).length : Nat)).isSome = (t.leq (t.groups.length : Nat)).isSome := by rw [glen t.groups]; unfold eqV; rw [Option.isSome_map]
  have hM := c_mid (w := w) (yd := yd) (QQ := QQ) (a0 := a0) (a1 := a1) (a2 := a2) (a3 := a3) hK HL h hc hi
  have hA := fun ch => lpA (t := t) (nx := nx) (x := p.x) (w := w) (ch := ch)
  have hB := fun ch => lpB (t := t) (nx := nx) (x := p.x) (w := w) (ch := ch)
  have h7 := fun ch => lp2_7 (w := w) (t := t) (ch := ch)
  have hn := fun ch v => lp2_n (w := w) (t := t) (ch := ch) (v := v)
  clear h hi
  walk_at "stjs"
  · rename_i hin
    have hin : t.leq (t.groups.length : Nat) = none := by
      rw [hev] at hin
      cases e : t.leq (t.groups.length : Nat) with
      | none => rfl
      | some b => rw [e] at hin; cases hin
    cases hl : t.lp with
    | none =>
      repeat' (walk_at "stj")
      first | refine IfOr.two (LpM t nx p.x w ch) ?_ hM | refine AsgOr.two (LpM t nx p.x w ch) ?_ hM
      clear hM
      walk_at "stjs"
      all_goals first
        | (refine put_as E_lp ?_
           walk_at "stjs"
           exact ⟨lpL p.x w, _, _, ⟨rfl, rfl, rfl, rfl, trivial⟩, fun _ _ e => e, Nat.le_refl _, hA _ (by assumption) (by rw [hl]; exact nl_none)⟩)
        | exact ⟨lpL p.x w, _, _, ⟨rfl, rfl, rfl, rfl, trivial⟩, fun _ _ e => e, Nat.le_refl _, hB _ (h7 _ (by assumption))⟩
    | some a =>
      repeat' (walk_at "stj")
      first | refine IfOr.two (LpM t nx p.x w ch) ?_ hM | refine AsgOr.two (LpM t nx p.x w ch) ?_ hM
      clear hM
      walk_at "stjs"
      all_goals first
        | (refine put_as E_lp ?_
           walk_at "stjs"
           exact ⟨lpL p.x w, _, _, ⟨rfl, rfl, rfl, rfl, trivial⟩, fun _ _ e => e, Nat.le_refl _, hA _ (by assumption) (by first | (rw [hl]; exact nl_new hin (by assumption)) | exact nl_out | (rw [oV_none (p := t.lp) (by assumption)]; exact nl_none))⟩)
        | exact ⟨lpL p.x w, _, _, ⟨rfl, rfl, rfl, rfl, trivial⟩, fun _ _ e => e, Nat.le_refl _, hB _ (by first | exact h7 _ (by assumption) | exact hn _ _ (by assumption) (by rw [hl]; exact nl_zero (by assumption)))⟩
  · rename_i hin
    obtain ⟨b, hb⟩ : ∃ b, t.leq (t.groups.length : Nat) = some b := by
      rw [hev] at hin
      cases e : t.leq (t.groups.length : Nat) with
      | none => rw [e] at hin; cases hin
      | some b => exact ⟨b, rfl⟩
    first | refine IfOr.two (LpM t nx p.x w ch) ?_ hM | refine AsgOr.two (LpM t nx p.x w ch) ?_ hM
    clear hM
    walk_at "stjs"
    all_goals first
      | (refine put_as E_lp ?_
         walk_at "stjs"
         exact ⟨lpL p.x w, _, _, ⟨rfl, rfl, rfl, rfl, trivial⟩, fun _ _ e => e, Nat.le_refl _, hA _ (by assumption) (by first | exact nl_out | (rw [oV_none (p := t.lp) (by assumption)]; exact nl_none))⟩)
      | exact ⟨lpL p.x w, _, _, ⟨rfl, rfl, rfl, rfl, trivial⟩, fun _ _ e => e, Nat.le_refl _, hB _ (h7 _ (by assumption))⟩
      | (rename_i hx; exact absurd (hin.symm.trans hx) (by decide))
      | skip
    obtain ⟨a, ha⟩ := oV_some (p := t.lp) (by assumption)
    exact ⟨lpL p.x w, _, _, ⟨rfl, rfl, rfl, rfl, trivial⟩, fun _ _ e => e, Nat.le_refl _, hB _ (hn _ _ (by assumption) (by rw [ha]; exact nl_keep hb))⟩
end
theorem Ek_cell {n : Nat} {t t' : TS} {i : Nat} {x : MO} (h : upd (E true t) i x = E true t') (hi : i < n) : upd (Ek n t) i x = Ek n t' := by
  funext k
  have h := congrFun h k
  unfold upd at h ⊢
  unfold Ek
  by_cases e : k = i
  · rw [if_pos e] at h ⊢; rw [if_pos (e ▸ hi), h]
  · rw [if_neg e] at h ⊢; rw [h]
theorem Ek_full {t : TS} (h : t.ex = fun _ => none) (hr : t.rid = 0) : Ek 19 t = E true t := by
  funext k
  unfold Ek
  by_cases l : k < 19
  · rw [if_pos l]
  · rw [if_neg l]
    unfold E
    rw [List.getElem?_eq_none (by rw [tab_len]; lia)]
    show none = if true = true ∧ k = rowsAt t then _ else t.ex k
    have : rowsAt t = 13 := by unfold rowsAt; rw [hr]
    rw [if_neg (fun q => by lia), h]
theorem Ek_dict {t : TS} (h : t.ex = fun _ => none) (hr : t.rid = 0) (hg : t.groups = []) (hl : t.leq = fun _ => none) (hn : t.leqn = 0) (hp : t.lp = none) :
    upd (upd (upd (Ek 16 t) 16 (.list [])) (16 + 1) (.imap (fun _ => none) 0)) (16 + 1 + 1) (.smap (updS (updS (updS (fun _ => none) "groups" (some (.ref 16))) "equal" (some (.ref (16 + 1)))) "pending" (some .none)) 3) = E true t := by
  rw [← Ek_full h hr, Ek_up (n := 16) (t := t)]
  · rw [Ek_up (n := 17) (t := t)]
    · rw [Ek_up (n := 18) (t := t)]
      show some (MO.smap (stF t) 3) = _
      unfold stF; rw [hp]; rfl
    · show some (MO.imap (eqV t.leq) t.leqn) = _
      rw [hl, hn]; rfl
  · show some (MO.list (t.groups.map fun g => .lst (iV g))) = _
    rw [hg]; rfl
noncomputable def T00 : TS := ⟨none, none, none, none, [], [], 0, 1, 1, 1, 1, 1, 0, 8, List.replicate 8 0, [], 0, none, none, none, fun _ => none, 0, [], fun _ => none, 0, none, fun _ => none⟩
theorem Ek4 : updCs (fun _ => none) 0 [none, none, none, none] = Ek 4 T00 := by
  funext k
  rcases Nat.lt_or_ge k 4 with h | h
  · have : k = 0 ∨ k = 1 ∨ k = 2 ∨ k = 3 := by lia
    rcases this with rfl | rfl | rfl | rfl <;> rfl
  · show upd _ 3 _ k = _
    unfold upd Ek
    rw [if_neg (by lia)]
    show upd (upd (upd (fun _ => none) 0 _) (0 + 1) _) (0 + 1 + 1) _ k = _
    unfold upd
    rw [if_neg (by lia), if_neg (by lia), if_neg (by lia), if_neg (by lia)]
noncomputable def T0d (d m : List Int) (n : Int) : TS := ((T00.sD0 d).sMix m).sDn n
theorem E5_deck {d m : List Int} {n : Int} : deckO (Ek 4 T00) d m n = E5 (T0d d m n) := by
  funext k
  unfold deckO upd E5
  rcases Nat.lt_or_ge k 6 with h | h
  · have : k = 0 ∨ k = 1 ∨ k = 2 ∨ k = 3 ∨ k = 4 ∨ k = 5 := by lia
    rcases this with rfl | rfl | rfl | rfl | rfl | rfl <;> rfl
  · rw [if_neg (by lia), if_neg (by lia), if_neg (by lia)]
    unfold Ek; rw [if_neg (by lia)]
theorem c_deck5 {c} (hK : KOk c) {l : List Int} (hl : l.length ≤ 2 ^ 20) : FC c 38 2 (.ref 819) [.lst (iV l)] (Ek 4 T00) 4 (fun b o' nx' => b = .ref 5 ∧ o' = E5 (T0d (bigs l) (mixOf l) 0) ∧ nx' = 6) (fun _ _ => False) :=
  (c_deck hK (o := Ek 4 T00) (nx := 4) hl).imp (fun b o' nx' q => ⟨q.1, q.2.1.trans E5_deck, q.2.2⟩) fun _ _ q => q
theorem c_draw5 {c} (hK : KOk c) {d m : List Int} {n : Int} {many : Nat} (hm : 0 < many) (hM : many ≤ 2 ^ 20) (D : DkOk (T0d d m n)) : FC c 38 1 (.ref 826) [.ref 5, .int (many : Nat)] (E5 (T0d d m n)) 6
    (fun b o' nx' => ∃ a : Nat × List Int × Int, b = .int (a.1 : Nat) ∧ o' = E5 (T0d a.2.1 m a.2.2) ∧ nx' = 6 ∧ a.1 < many ∧ DkOk (T0d a.2.1 m a.2.2)) (fun _ _ => False) := by
  have h := c_draw hK (o := Ek 4 T00) (d0 := d) (mix := m) (dn := n) (nx := 6) (many := many) hm hM D.d0 D.m1 D.m2
  rw [E5_deck] at h
  exact h.imp (fun b o' nx' hp_ => by obtain ⟨a, e1, e2, e3, e4, e5⟩ := hp_; exact ⟨a, e1, e2.trans E5_deck, e3, e4, ⟨Nat.le_trans e5 D.d0, D.m1, D.m2⟩⟩) fun _ _ q => q
theorem dk0 {l : List Int} (hl : l.length ≤ 2 ^ 20) : DkOk (T0d (bigs l) (mixOf l) 0) := by
  have h1 : (cellsOf l).length ≤ 20 := by unfold cellsOf; rw [List.length_map]; exact List.length_take_le _ _
  refine ⟨Nat.le_trans (List.length_filter_le _ _) (Nat.le_trans h1 (by decide)), ?_, ?_⟩
  · show 0 < (mixOf l).length; unfold mixOf; rw [List.length_append]; exact Nat.succ_pos _
  · show (mixOf l).length ≤ _; unfold mixOf; rw [List.length_append, List.length_singleton]; exact Nat.le_trans (Nat.succ_le_succ h1) (by decide)
noncomputable def rangeI (n : Nat) : List Int := (List.range n).map fun (i : Nat) => (i : Int)
theorem range_iV (n : Nat) : (List.range ((n : Nat) : Int).toNat).map (fun (i : Nat) => V.int (i : Nat)) = iV (rangeI n) := by unfold rangeI iV; rw [List.map_map]; rfl
theorem rangeI_len (n : Nat) : (rangeI n).length = n := by unfold rangeI; rw [List.length_map, List.length_range]
theorem c_und {c} (hK : KOk c) {t : TS} {a : Cr} : FC c 38 2 (.ref 353) [] (Ek 14 (t.start a)) 14 (fun b o' nx' => b = .ins 353 14 ∧ o' = Ek 16 (t.start a) ∧ nx' = 16) (fun _ _ => False) :=
  (k_undoing hK).imp (fun b o' nx' q => ⟨q.1, q.2.1.trans ((congrArg (fun z => upd z 15 (.imap (fun _ => none) 0)) (Ek_up (n := 14) (t := t.start a) rfl)).trans (Ek_up (n := 15) (t := t.start a) rfl)), q.2.2⟩) fun _ _ q => q
theorem wAllT_or {r : W3} {Q : Bool → St → Prop} {σ : St} (h : Q false σ) : wAllT r .Or [] Q σ := h
theorem opB_t {a b d : Prop} (h : d) : opB .Or true a b d := h
theorem opB_f {a b d : Prop} (h : a) : opB .Or false a b d := h
theorem brB_t {a b : Prop} (h : a) : brB true a b := h
theorem brB_f {a b : Prop} (h : b) : brB false a b := h
section
variable {c : Cx} {cs : List (Str × Addr)} {yd : Dy} {QQ : Fl → St → Prop} {i nx : Nat} {t : TS} {ch we : Bool} {p : Pv} {Ss : List (List Row)} {K : List Row} {m : Bool}
theorem c_turn (hK : KOk c) (HL : LamC c 867 863 lamQ) (h : LI i t nx ch we p Ss K m) (hc : t.cC = some (.bool ch)) (hi : i ≤ 9) {a0 a1 a2 a3 : Addr} :
    wBlock (wps 59) (lawP c (lawCs a0 a1 a2 a3) yd) (lawTurn c.w.params) (fun f σ3 => wLoop QQ (LoopI (i + 1)) f σ3) ⟨("the_turn", .int (i : Nat)) :: [("was_edit", .bool we), ("state", .ref 18), ("deck", .ref 5)], E true t, nx⟩ := by
  have hw := c_drawE hK (un := true) (nx := nx) (many := 8) h.dk (by decide) (by decide)
  have hcU := h.cU
  have hF := c_flag (cs := lawCs a0 a1 a2 a3) (yd := yd) (QQ := QQ) hK hi
  repeat' (walk_at "stj")
  refine call_of3 hw rfl fun a r => ?_
  obtain ⟨w, d⟩ := a
  obtain ⟨hw8, D⟩ := r
  have h := h.dkd D
  have hc : (t.dk d).cC = some (.bool ch) := hc
  have hcU : (t.dk d).cU = some (.ins 751 6) := hcU
  clear hw D
  generalize t.dk d = t at h hc hcU ⊢
  have hS := c_sizeP hK (nx := nx) h.is
  have hT := c_textP hK (nx := nx) h.is
  repeat' (walk_at "stj")
  refine call_eq hS rfl ?_
  repeat' (walk_at "stj")
  refine call_eq hT rfl ?_
  clear hS hT
  repeat' (walk_at "stj")
  first | refine IfOr.two (LoopI (i + 1)) ?_ hF | refine AsgOr.two (LoopI (i + 1)) ?_ hF
  clear hF
  conv => whnf
  refine brB_mk (fun h1 => ?_) (fun h1 => ?_)
  · refine opB_t ?_
    refine brB_t ?_
    exact c_edbr hK h hc hi
  · refine opB_f ?_
    conv => whnf
    refine brB_mk (fun h2 => ?_) (fun h2 => ?_)
    · refine opB_t ?_
      refine brB_t ?_
      exact c_edbr hK h hc hi
    · refine opB_f ?_
      refine wAllT_or ?_
      refine brB_f ?_
      exact c_else hK HL h hc hi
end
theorem cs_cons {cs : List (Str × Addr)} {x : Str} {l : List Str} (h : cs.map (·.1) = x :: l) : ∃ a r, cs = (x, a) :: r ∧ r.map (·.1) = l := by
  induction cs with
  | nil => cases h
  | cons p r =>
    obtain ⟨e1, e2⟩ := List.cons.inj h
    exact ⟨p.2, r, by rw [← e1], e2⟩
theorem law_cs {cs : List (Str × Addr)} (h : cs.map (·.1) = [("undoing" : Str), ("the_is_chained" : Str), ("count" : Str), ("buffer" : Str)]) : ∃ a0 a1 a2 a3, cs = lawCs a0 a1 a2 a3 := by
  obtain ⟨a0, r1, e1, h1⟩ := cs_cons h
  obtain ⟨a1, r2, e2, h2⟩ := cs_cons h1
  obtain ⟨a2, r3, e3, h3⟩ := cs_cons h2
  obtain ⟨a3, r4, e4, h4⟩ := cs_cons h3
  have e5 := List.map_eq_nil_iff.mp h4
  exact ⟨a0, a1, a2, a3, by rw [e1, e2, e3, e4, e5]; rfl⟩
theorem c_law {c} (hK : KOk c) {l : List Int} (hl : l.length ≤ 2 ^ 20) (HL : LamC c 867 863 lamQ) : FC c 38 20 (.ref 868) [.lst (iV l)] (fun _ => none) 0 (fun b o' nx' => b = .bool true) (fun _ _ => False) := by
  have hdk := c_deck5 hK hl
  have hd0 := c_draw5 hK (many := 4) (by decide) (by decide) (dk0 hl)
  refine FC_KC 60 hK (.cons (g_Undoing hK) (.cons (g_law_buffer hK) (.cons (g_law_deck hK) (.cons (g_law_draw hK) (.cons (g_law_edit hK) (.cons (g_law_redone hK) (.cons (g_law_told hK) (.cons (g_law_undone hK) (.cons (g_len hK) (.cons (g_list hK) (.cons (g_range hK) .nil))))))))))) ["script"] rfl (by kernel_rfl) (fun xs hl => by obtain ⟨_, e⟩ := len1 hl; subst e; rfl) (by decide +kernel) (by decide +kernel) (by decide +kernel) rfl rfl rfl Ek4 ?_
  intro yd QR cs hcs hQX hQR
  repeat' (walk_at "stq")
  refine call_eq hdk rfl ?_
  repeat' (walk_at "stq")
  refine call_of3 hd0 rfl fun a r => ?_
  obtain ⟨r0, d0⟩ := a
  obtain ⟨hr0, D0⟩ := r
  have hb := c_buffer hK (t := T0d d0.1 (mixOf l) d0.2) (y := rangeI r0) (by rw [rangeI_len]; lia) rfl rfl
  walk_at "stsq"
  rw [range_iV]
  refine call_of3 hb rfl fun a J => ?_
  have hu := c_und hK (t := T0d d0.1 (mixOf l) d0.2) (a := a)
  repeat' (walk_at "stq")
  refine call_eq hu rfl ?_
  repeat' (walk_at "stq")
  refine put_as (Ek_cell E_cU (by decide)) ?_
  repeat' (walk_at "stq")
  refine put_as (Ek_cell E_cB (by decide)) ?_
  walk_at "stsq"
  intro hP
  refine R_dict3 hP.ok (R_listM (A_nil ⟨Nat.zero_le _, R_dict0 (R_none ?_)⟩))
  dsimp only
  rw [Ek_dict (t := ((((T0d d0.1 (mixOf l) d0.2).start a).sCU (some (.ins 751 6))).sCB (some (.ins 353 14)))) rfl rfl rfl rfl rfl rfl]
  have hI := LI.init (t := T0d d0.1 (mixOf l) d0.2) (b := false) (by rw [rangeI_len]; exact Nat.le_of_lt_succ hr0) J.2 D0
  walk_at "stsq"
  obtain ⟨T, eT, hT, hc⟩ : ∃ T, ((((T0d d0.1 (mixOf l) d0.2).start a).sCU (some (.ins 751 6))).sCB (some (.ins 353 14))).sCC (some (.bool false)) = T ∧ (∃ p Ss K m, LI 0 T 19 false false p Ss K m) ∧ T.cC = some (.bool false) := ⟨_, rfl, ⟨_, _, _, _, hI⟩, rfl⟩
  rw [eT]
  obtain ⟨p, Ss, K, m, hT⟩ := hT
  clear eT hI J D0 hr0 hd0 hdk hP
  refine call_of3 (c_drawE hK (un := true) (t := T) (nx := 19) (many := 6) hT.dk (by decide) (by decide)) rfl fun a r => ?_
  obtain ⟨n, d⟩ := a
  obtain ⟨hn, D⟩ := r
  have hT := hT.dkd D
  have hc : (T.dk d).cC = some (.bool false) := hc
  generalize T.dk d = T at hT hc ⊢
  walk_at "stsq"
  refine ⟨LoopI, ⟨[("was_edit", .bool false), ("state", .ref 18), ("deck", .ref 5)], ⟨rfl, rfl, rfl, trivial⟩, .mk T 19 false false p Ss K m hT hc⟩, ?_, ?_⟩
  · clear hT hc T
    rintro i σ2 hi (@⟨t, nx, ch, we, p, Ss, K, m, h, hc⟩)
    have hi : i < 5 + n := hi
    have hi : i ≤ 9 := by lia
    obtain ⟨a0, a1, a2, a3, rfl⟩ := law_cs hcs
    exact c_turn hK HL h hc hi
  · rintro σ2 (@⟨t, nx, ch, we, p, Ss, K, m, h, hc⟩)
    walk_at "stsq"
    exact useQ hQR ⟨_, _, fun _ _ e => e, Nat.le_refl _, rfl⟩
end Mine
end

section
open PySem PySem.W PySem.Calls PyProof.Rows
set_option Elab.async false
set_option linter.unusedVariables false
set_option autoImplicit true
set_option maxRecDepth 100000
set_option tactic.hygienic false
namespace Mine
set_option tactic.hygienic true in
theorem trimH : ∀ (n : Nat) (h : Heap), h.objs.size = n → ∃ h' : Heap, (∀ b, h'.get? b = h.get? b) ∧ (∀ b x, h'.get? b = some x → ∃ y, h'.get? (h'.objs.size - 1) = some y)
  | 0, h, e => ⟨h, fun _ => rfl, fun b x q => absurd (Heap.lt_size q) (by rw [e]; exact Nat.not_lt_zero _)⟩
  | n + 1, h, e => by
    cases q : h.get? n with
    | some y => exact ⟨h, fun _ => rfl, fun b x _ => ⟨y, by rw [e]; exact q⟩⟩
    | none =>
      obtain ⟨h', h1, h2⟩ := trimH n { h with objs := h.objs.pop } (by simp [e])
      refine ⟨h', fun b => (h1 b).trans ?_, h2⟩
      by_cases hb : b = n
      · subst hb
        rw [q]
        unfold Heap.get?
        have : (h.objs.pop)[b]? = none := by rw [Array.getElem?_eq_none_iff]; simp [e]
        rw [this] <;> rfl
      · unfold Heap.get?
        have : (h.objs.pop)[b]? = h.objs[b]? := by
          rw [Array.getElem?_pop]
          split
          · rfl
          · rename_i z
            rw [e] at z
            rw [eq_comm, Array.getElem?_eq_none_iff, e]
            exact Nat.lt_of_le_of_ne (Nat.le_of_not_lt z) (Ne.symm hb)
        rw [this] <;> rfl

theorem intsVR {W : Wd} : ∀ {vs : List Value} {l : List Int}, IntsAre vs l → VRs W (iV l) vs
  | _, _, .nil => .nil
  | _, _, .cons n t h => .cons .int (intsVR h)
end Mine
end

section
open PySem PySem.W PySem.Calls PyProof.Rows
set_option Elab.async false
set_option linter.unusedVariables false
set_option autoImplicit true
set_option maxRecDepth 100000
set_option tactic.hygienic false
namespace Mine
set_option tactic.hygienic true in
theorem law_end {prog p : Program} {w : World} {s₁ : Shared} {loose : List Str} {mean : ExcName → Option Value} {mg mb : Str → Option Value} (KX : (Mine.hx.heap_1_39 w.params).In s₁.heap) (hT : TabsAt [(867, 863)] s₁.heap) (T : Top p loose mean mg mb s₁.heap) (hg : s₁.gens = #[])
    {a : Addr} {vs : List Value} {l : List Int} (hL : s₁.heap.get? a = some (lstO vs 0)) (hI : IntsAre vs l) (hl : l.length ≤ 2 ^ 20) :
    codeAny (model prog w) callerA (.call (.ref 868) ⟨[.ref a], []⟩) (fun r s' => r = .ok (.ret (.bool true)) ∧ (∀ b o, (ghostOf s₁.heap [(867, 863)]).get? b = some o → s'.heap.get? b = some o) ∧ GrownAll [(867, 863)] s'.heap ∧ s'.os = s₁.os ∧ s'.gens = #[]) s₁ := by
  refine hideG fun R_ k_ => ?_
  obtain ⟨h₀, e0, l0⟩ := trimH _ (ghostOf s₁.heap [(867, 863)]) rfl
  refine k_ ?_
  clear k_
  have k0 : ∀ b o, (ghostOf s₁.heap [(867, 863)]).get? b = some o → h₀.get? b = some o := fun b o e => (e0 b).trans e
  have cd : CodeHd h₀ 867 863 := (ghost_code hT).1.keeps k0
  have T' := ghost_top hT T
  have ok : (Cx.mk prog w (Mine.hx.heap_1_39 w.params) h₀ s₁.os mg mb (some (863, lamQ))).Ok := by
    obtain ⟨o, e⟩ : ∃ o, h₀.get? 867 = some o := by obtain ⟨o, _, _, _, _, _, _, _, _, e, _⟩ := cd; exact ⟨o, e⟩
    refine ⟨(ghost_K hT KX (by kernel_rfl)).keeps k0, T'.g.keeps k0, T'.b.keeps k0, T'.builtins, T'.nolimit.keeps k0, l0 867 _ e, ?_⟩
    exact Nat.le_trans (by decide) (Nat.le_of_lt (Heap.lt_size e))
  have HL : LamC (Cx.mk prog w (Mine.hx.heap_1_39 w.params) h₀ s₁.os mg mb (some (863, lamQ))) 867 863 lamQ :=
    ⟨rfl, cd, by obtain ⟨bm, ob, b1, b2, b3, r⟩ := T'.bmain; exact ⟨bm, ob, b1, b2, k0 _ _ b3, r⟩⟩
  have gs : GS (Cx.mk prog w (Mine.hx.heap_1_39 w.params) h₀ s₁.os mg mb (some (863, lamQ))) ⟨h₀.get?, fun _ => none, fun b => if b = 863 then some Any else none⟩ (fun _ => none) 0 s₁ := by
    refine ⟨ok, fun a x e => of_hideAll _ ((e0 a).symm.trans e), fun _ _ e => e, (fun n x e => by cases e), (fun n x e => by cases e), (fun n k a e => by cases e), fun _ _ => rfl, fun b m e => ?_, rfl, hg, (fun n a e => by cases e), fun P q e => ?_⟩
    · dsimp only at e
      split at e
      · rename_i z
        subst z; cases e
        exact ⟨trivial, ⟨_, (hT (867, 863) (.head _)).2⟩, (e0 863).trans (hideAll_none _ (.head _))⟩
      · cases e
    · cases e
      exact ⟨rfl, #[], (hT (867, 863) (.head _)).2, trivial, fun pos cv h => by cases h⟩
  have iv : VRs ⟨h₀.get?, fun _ => none, fun b => if b = 863 then some Any else none⟩ (iV l) vs := intsVR hI
  have h := c_law (c := Cx.mk prog w (Mine.hx.heap_1_39 w.params) h₀ s₁.os mg mb (some (863, lamQ))) rfl hl HL callerA [] _ s₁ [.ref a] rfl rfl (by decide) (by decide) gs (fun e he => by cases he)
    (.cons (.lst (k0 _ _ (ghost_get hT hL (fun q => by cases q))) iv.1 iv.2) .nil)
  refine codeAny_mono h fun r s' h => ?_
  split at h
  · refine hideG fun R_ k_ => ?_
    obtain ⟨W', b, o', nx', l, r, g, rfl⟩ := h
    refine k_ ?_
    clear k_
    cases r
    refine hideG fun R_ k_ => ?_
    obtain ⟨_, ps, e, _⟩ := g.new.2 863 lamQ rfl
    refine k_ ?_
    clear k_
    exact ⟨rfl, fun b o e => g.fz _ _ (l.F _ _ (k0 _ _ e)), ⟨⟨ps, e⟩, trivial⟩, g.os, g.gens⟩
  · exact h.elim
  · refine hideG fun R_ k_ => ?_
    obtain ⟨_, _, _, _, _, _, h⟩ := h
    refine k_ ?_
    clear k_
    exact h.elim
end Mine
end

section
open PySem PySem.W PyProof.Rows
set_option Elab.async false
set_option maxRecDepth 100000
set_option maxHeartbeats 8000000
set_option pp.maxSteps 3000
set_option tactic.hygienic false
namespace Mine
theorem well_ints {P : Params} {h : Heap} {a : Addr} {vs : List Value} {d' : List PyData} (hL : h.IsList a vs.toArray) (w : Well P h (.ref a) (ofPy (.list d'))) : h.get? a = some (lstO vs 0) := by
  obtain ⟨o, e, hc, n, hd⟩ := hL
  unfold ofPy at w
  cases w with
  | list e1 _ =>
    rw [e1] at e
    cases e
    dsimp only at hd
    rw [show (lstO vs 0) = ⟨.type "list", none, .seq vs.toArray 0, #[]⟩ from rfl]
    injection hd with h1 h2
    rw [e1, h1]
theorem law_fa {w : World} {h : Heap} {mg : Str → Option Value} (X : (Mine.hx.heap_1_39 w.params).In h) (G : h.Ns mainGlobals mg) {fa : Addr} (hm : mg "law" = some (.ref fa)) : fa = 868 := by
  have := mg_of X G (n := "law") (v := .ref 868) (by kernel_rfl)
  rw [hm] at this
  cases this; rfl
end Mine
set_option tactic.hygienic true in
theorem PySem.Challenge.cw_rg0138_01_holds : PySem.Challenge.rw_rg0138_01.Holds :=
  Mine.hx._proof_1_1113 fun said => Mine.hx._proof_1_1112 said (by
  clear said
  k_fill
  intro w s₀ s₁ mg mb G Y fa o pm cd doc dV kV ho hd hcd hD hmg hg args vals as hpre hlay hrd hwl hlo
  have KX := km_in_of Y
  km_tabs Y
  have X := (Ground.X G).1
  have V := (Ground.X G).2
  refine Ground.open G ?_
  intro T B D TE TW
  try (refine guard_noD D (by decide +kernel) ?_; clear D)
  have hfa := Mine.law_fa KX T.g hmg
  km_lay T hmg ho hd cd
  clear hmg
  wrow_args hpre hlay hrd hwl hlo
  all_goals (
    first | refine callC_kw (enter_call ?_) | refine enter_call ?_)
  refine kn_post (tabs := [(867, 863)]) (by assumption) (fun a x => ?_) ?_
  · rfl
  · subst hfa
    rename_i w1 r0 hI hr hc1 hc2
    have hl := hc1
    refine codeAny_mono (Mine.law_end KX (by assumption) T hg (Mine.well_ints (by assumption) w1) hI (by omega)) fun r s' ⟨hr, k, g, os, gn⟩ => ⟨⟨.inl ⟨.bool true, .bool true, [], hr, fun _ => rfl, .bool true, ?_, fun _ => ⟨.nil, nofun⟩⟩, k, os, gn⟩, g⟩
    w_top on
    wrow_post)
end
