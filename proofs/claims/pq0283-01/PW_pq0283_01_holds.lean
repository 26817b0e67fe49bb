import PyProof.Rows.All
import Wide.All
import OpenK.AllK
import Wide.FinOn
import KE.KLam
import KE.IntBitsLaws
import KE.KDictList
import KE.KNestM
import Lean
import PySem.Challenge.RW_pq0283_01
section
open PySem PySem.W PyProof.Rows
set_option Elab.async false
set_option maxRecDepth 100000
set_option maxHeartbeats 0
section
open S
name_quick tw5648269764923273639 for findZ by findZ_eq
name_quick tw861502493610598483 for findZ by findZ_eq
name_quick tw12765443698636745519 for findZ by findZ_eq
name_quick tw2376611553592684631 for findZ by findZ_eq
name_quick tw10358149463496502979 for findZ by findZ_eq
name_quick tw14973956641053794197 for findZ by findZ_eq
name_quick tw7774113678449685934 for findZ by findZ_eq
name_quick tw14971226682549688720 for findZ by findZ_eq
name_quick tw10095648818634518890 for findZ by findZ_eq
name_quick tw7928351937004015129 for findZ by findZ_eq
name_quick tw8579255650390675538 for findZ by findZ_eq
name_quick tw4976532014690838185 for findZ by findZ_eq
name_quick tw10343897247872263085 for findZ by findZ_eq
name_quick tw14037974667727170046 for findZ by findZ_eq
name_quick tw14329579894275425762 for findZ by findZ_eq
name_quick tw20248706157231231 for findZ by findZ_eq
name_quick tw15702583709834301711 for findZ by findZ_eq
name_quick tw102665633916901851 for findZ by findZ_eq
name_quick tw4225071011193888407 for findZ by findZ_eq
name_quick tw9705477135408329381 for findZ by findZ_eq
name_quick tw7001957589650049515 for findZ by findZ_eq
name_quick tw17986951261819808105 for findZ by findZ_eq
name_quick tw8392358500681263680 for findZ by findZ_eq
name_quick tw16739744695852559722 for findZ by findZ_eq
name_quick tw2741014181512449073 for findZ by findZ_eq
name_quick tw18438055454900119596 for findZ by findZ_eq
name_quick tw6828597562223498359 for findZ by findZ_eq
name_quick tw13348088958985639553 for findZ by findZ_eq
name_quick tw8319933024895762948 for findZ by findZ_eq
name_quick tw628631919661052299 for findZ by findZ_eq
name_quick tw9469130538284437310 for findZ by findZ_eq
name_quick tw3778530596728393105 for findZ by findZ_eq
name_quick tw4625118829043911747 for findZ by findZ_eq
name_quick tw1956775160557780875 for findZ by findZ_eq
name_quick tw7091221385724896812 for findZ by findZ_eq
name_quick tw2474200967059427378 for findZ by findZ_eq
name_quick tw2595618661548880785 for findZ by findZ_eq
name_quick tw6344153461787385748 for findZ by findZ_eq
name_quick tw9402243437249704421 for findZ by findZ_eq
name_quick tw18003772858949239459 for findZ by findZ_eq
name_quick tw16132249320637822498 for findZ by findZ_eq
name_quick tw2527701527901579348 for findZ by findZ_eq
name_quick tw17590876675597686902 for findZ by findZ_eq
name_quick tw12901003280762261817 for findZ by findZ_eq
name_quick tw11205608169257636508 for findZ by findZ_eq
name_quick tw4841897428166931638 for findZ by findZ_eq
name_quick tw14387916025512776202 for findZ by findZ_eq
name_quick tw8758443347247461665 for findZ by findZ_eq
name_quick tw6702445572142316249 for findZ by findZ_eq
name_quick tw1599053048872161195 for findZ by findZ_eq
name_quick tw11153475782318119604 for findZ by findZ_eq
name_quick tw3671519592330383864 for findZ by findZ_eq
name_quick tw3099597729799864441 for findZ by findZ_eq
name_quick tw3328118118096588273 for findZ by findZ_eq
name_quick tw10888863842102328177 for findZ by findZ_eq
name_quick tw12550775161083096063 for findZ by findZ_eq
name_quick tw5872530126848033075 for findZ by findZ_eq
name_quick tw18293242582946804979 for findZ by findZ_eq
name_quick tw8865387616306378214 for findZ by findZ_eq
name_quick tw10741264400317747893 for findZ by findZ_eq
name_quick tw10539347186207431242 for findZ by findZ_eq
name_quick tw6427576097997697322 for findZ by findZ_eq
name_quick tw12188032599808994241 for findZ by findZ_eq
name_quick tw17464319187374939960 for findZ by findZ_eq
name_quick tw12459912946257978736 for findZ by findZ_eq
name_quick tw9399754086935153974 for findZ by findZ_eq
name_quick tw5289818103960998278 for findZ by findZ_eq
name_quick tw16873086082458093902 for findZ by findZ_eq
name_quick tw15895094517606616290 for findZ by findZ_eq
name_quick tw13394580363473044415 for findZ by findZ_eq
name_quick tw16493865465440409018 for findZ by findZ_eq
name_quick tw866652123128751154 for findZ by findZ_eq
name_quick tw15142666989864626641 for findZ by findZ_eq
name_quick tw10698057553749749337 for findZ by findZ_eq
name_quick tw7086961617601330827 for findZ by findZ_eq
name_quick tw9113380124883318265 for findZ by findZ_eq
name_quick tw13557862171009465336 for findZ by findZ_eq
name_quick tw4046790133079468173 for findZ by findZ_eq
name_quick tw16721508838639397229 for findZ by findZ_eq
name_quick tw8122695690928665766 for findZ by findZ_eq
name_quick tw12269216009862288129 for findZ by findZ_eq
name_quick tw7424060955962978353 for findZ by findZ_eq
name_quick tw5960047855520388891 for findZ by findZ_eq
name_quick tw8535803893964050539 for findZ by findZ_eq
name_quick tw13855379610559885079 for findZ by findZ_eq
name_quick tw6631347999910079877 for findZ by findZ_eq
name_quick tw4946147512530127568 for findZ by findZ_eq
name_quick tw6229817132586351632 for findZ by findZ_eq
name_quick tw10910644110388302437 for findZ by findZ_eq
name_quick tw13946496683202179788 for findZ by findZ_eq
name_quick tw3365755272349913518 for findZ by findZ_eq
name_quick tw14226173905949225808 for findZ by findZ_eq
name_quick tw12147665669636231765 for findZ by findZ_eq
name_quick tw1293241653719404408 for findZ by findZ_eq
name_quick tw3592811809046731828 for findZ by findZ_eq
name_quick tw17744993626210230056 for findZ by findZ_eq
name_quick tw14963028359598502718 for findZ by findZ_eq
name_quick tw5323657890516693427 for findZ by findZ_eq
name_quick tw12773500944031208451 for findZ by findZ_eq
name_quick tw10611411778653204182 for findZ by findZ_eq
name_quick tw9331231397406362311 for findZ by findZ_eq
name_quick tw6060609690816243450 for findZ by findZ_eq
name_quick tw2358075552688931204 for findZ by findZ_eq
name_quick tw16766484511958638138 for findZ by findZ_eq
name_quick tw4971374062829452455 for findZ by findZ_eq
name_quick tw2492000799826889573 for findZ by findZ_eq
name_quick tw12717557048674177747 for findZ by findZ_eq
name_quick tw17382457898008728272 for findZ by findZ_eq
name_quick tw896878414759379649 for findZ by findZ_eq
name_quick tw819570635367399668 for findZ by findZ_eq
name_quick tw2259672571474061568 for findZ by findZ_eq
name_quick tw694261584828832409 for findZ by findZ_eq
name_quick tw14520296925931582552 for findZ by findZ_eq
name_quick tw10551173667578312727 for findZ by findZ_eq
name_quick tw11898673842065290130 for findZ by findZ_eq
name_quick tw11033627544408312984 for findZ by findZ_eq
name_quick tw2694234056635809718 for findZ by findZ_eq
name_quick tw12003660372656728261 for findZ by findZ_eq
name_quick tw5404398260228975080 for findZ by findZ_eq
name_quick tw6945566481307383155 for findZ by findZ_eq
name_quick tw9201617497623189827 for findZ by findZ_eq
name_quick tw8115137120850386438 for findZ by findZ_eq
name_quick tw15593559885672580101 for findZ by findZ_eq
name_quick tw14284835775768690865 for findZ by findZ_eq
name_quick tw3300257896294614128 for findZ by findZ_eq
name_quick tw6216382948874008006 for findZ by findZ_eq
name_quick tw13215348057498601715 for findZ by findZ_eq
name_quick tw16260866306193365299 for findZ by findZ_eq
name_quick tw17397653436517662659 for findZ by findZ_eq
name_quick tw8997383693586321770 for findZ by findZ_eq
name_quick tw13034982811429478159 for findZ by findZ_eq
name_quick tw10016166984437732892 for findZ by findZ_eq
name_quick tw1937721966566455358 for findZ by findZ_eq
name_quick tw17267597263503486738 for findZ by findZ_eq
name_quick tw13861969467909019144 for findZ by findZ_eq
name_quick tw15254633091992210921 for findZ by findZ_eq
name_quick tw14904681115217272601 for findZ by findZ_eq
name_quick tw446995266069924076 for findZ by findZ_eq
name_quick tw17817366049700826239 for findZ by findZ_eq
name_quick tw15433366417846715934 for findZ by findZ_eq
name_quick tw11962351593759143498 for findZ by findZ_eq
name_quick tw991626836265849350 for findZ by findZ_eq
name_quick tw14404928986312190071 for findZ by findZ_eq
name_quick tw15925456577456769635 for findZ by findZ_eq
name_quick tw16607193741793207195 for findZ by findZ_eq
name_quick tw7933485763601977624 for findZ by findZ_eq
name_quick tw17339309145561079191 for findZ by findZ_eq
name_quick tw1708089923452030704 for findZ by findZ_eq
name_quick tw12297992134047619483 for findZ by findZ_eq
name_quick tw6105849179199505303 for findZ by findZ_eq
name_quick tw7322748291113730364 for findZ by findZ_eq
name_quick tw443766864951011646 for findZ by findZ_eq
name_quick tw8995945545434573385 for findZ by findZ_eq
name_quick tw4321966507151631593 for findZ by findZ_eq
name_quick tw11766667032028208565 for findZ by findZ_eq
name_quick tw4171853373547519906 for findZ by findZ_eq
name_quick tw14664691819916384248 for findZ by findZ_eq
name_quick tw5072417060200589145 for findZ by findZ_eq
name_quick tw13160504802963445071 for findZ by findZ_eq
name_quick tw18157406047293677543 for findZ by findZ_eq
name_quick tw6056707288978253535 for findZ by findZ_eq
name_quick tw6420159726195949164 for findZ by findZ_eq
name_quick tw615563214671542189 for findZ by findZ_eq
name_quick tw1205274952441263945 for findZ by findZ_eq
name_quick tw8171798328758944481 for findZ by findZ_eq
name_quick tw8498532028676091811 for findZ by findZ_eq
name_quick tw14154597600763967237 for findZ by findZ_eq
name_quick tw13547939009206843870 for findZ by findZ_eq
name_quick tw2187251505897268136 for findZ by findZ_eq
name_quick tw1825500878602426610 for findZ by findZ_eq
name_quick tw13307065042914920193 for findZ by findZ_eq
name_quick tw514280064592716601 for findZ by findZ_eq
name_quick tw354308444213283272 for findZ by findZ_eq
name_quick tw11421057715548341654 for findZ by findZ_eq
name_quick tw3303267245142563540 for findZ by findZ_eq
name_quick tw12549542988036985293 for findZ by findZ_eq
name_quick tw12330612334027959195 for findZ by findZ_eq
name_quick tw10876078143196172821 for findZ by findZ_eq
name_quick tw1725486776273817318 for findZ by findZ_eq
name_quick tw1972164579936704799 for findZ by findZ_eq
name_quick tw17351735930882485243 for findZ by findZ_eq
name_quick tw209982475168477708 for findZ by findZ_eq
name_quick tw6968137755033780318 for findZ by findZ_eq
name_quick tw6784737039638806343 for findZ by findZ_eq
name_quick tw8912161614967838395 for findZ by findZ_eq
name_quick tw9919008367099125623 for findZ by findZ_eq
name_quick tw4015202173357781934 for findZ by findZ_eq
name_quick tw8159993647027272844 for findZ by findZ_eq
name_quick tw9197174079833555027 for findZ by findZ_eq
name_quick tw16003985067176294414 for findZ by findZ_eq
name_quick tw12798174099139212305 for findZ by findZ_eq
name_quick tw2107523057676978006 for findZ by findZ_eq
name_quick tw5890639436620234070 for findZ by findZ_eq
name_quick tw6607644564249050058 for findZ by findZ_eq
name_quick tw13343918040275786880 for findZ by findZ_eq
name_quick tw17062427158221528723 for findZ by findZ_eq
name_quick tw16919654943277366748 for findZ by findZ_eq
name_quick tw4684226298888400098 for findZ by findZ_eq
name_quick tw12768989823518198380 for findZ by findZ_eq
name_quick tw5994696166404524948 for findZ by findZ_eq
name_quick tw3641951560692057861 for findZ by findZ_eq
name_quick tw11212356425047092601 for findZ by findZ_eq
name_quick tw18328257000508772394 for findZ by findZ_eq
name_quick tw12917704675397863716 for findZ by findZ_eq
name_quick tw1383625962624193546 for findZ by findZ_eq
name_quick tw8972062959192195235 for findZ by findZ_eq
name_quick tw539538531456391632 for findZ by findZ_eq
name_quick tw6549852094080907030 for findZ by findZ_eq
name_quick tw1342123614928995077 for findZ by findZ_eq
name_quick tw14689541978594310382 for findZ by findZ_eq
name_quick tw726351398001015727 for findZ by findZ_eq
name_quick tw16108870410212019532 for findZ by findZ_eq
name_quick tw2576523973992343609 for findZ by findZ_eq
name_quick tw16835776778646405275 for findZ by findZ_eq
name_quick tw2646887283097553488 for findZ by findZ_eq
name_quick tw13484562703626004877 for findZ by findZ_eq
name_quick tw3475869608268796686 for findZ by findZ_eq
name_quick tw8356303796347215682 for findZ by findZ_eq
name_quick tw9757595895972200118 for findZ by findZ_eq
name_quick tw1070438729232803039 for findZ by findZ_eq
name_quick tw2080317491765294665 for findZ by findZ_eq
name_quick tw11925974296885277660 for findZ by findZ_eq
name_quick tw9536688357841153863 for findZ by findZ_eq
name_quick tw8737599933303070863 for findZ by findZ_eq
name_quick tw4683681711962371626 for findZ by findZ_eq
name_quick tw3049343062529576306 for findZ by findZ_eq
name_quick tw7217548393331319763 for findZ by findZ_eq
name_quick tw14560624547652848805 for findZ by findZ_eq
name_quick tw5537553045615171315 for findZ by findZ_eq
name_quick tw6248682570935725439 for findZ by findZ_eq
name_quick tw7374399212775623666 for findZ by findZ_eq
name_quick tw9317495090193701157 for findZ by findZ_eq
name_quick tw16864618592142003386 for findZ by findZ_eq
name_quick tw4189273013823423559 for findZ by findZ_eq
name_quick tw9104974531708491489 for findZ by findZ_eq
name_quick tw8331849164307833061 for findZ by findZ_eq
name_quick tw8374155422468719031 for findZ by findZ_eq
name_quick tw1378205811072252300 for findZ by findZ_eq
name_quick tw13669536469129627823 for findZ by findZ_eq
name_quick tw561727478393794602 for findZ by findZ_eq
name_quick tw4323258101793500111 for findZ by findZ_eq
name_quick tw9381626543082597023 for findZ by findZ_eq
name_quick tw10294118229990073760 for findZ by findZ_eq
name_quick tw18383651708701053236 for findZ by findZ_eq
name_quick tw13769103115541136327 for findZ by findZ_eq
name_quick tw17410218998227585676 for findZ by findZ_eq
name_quick tw11151835277377553703 for findZ by findZ_eq
name_quick tw16217903435359918192 for findZ by findZ_eq
name_quick tw258204147387103276 for findZ by findZ_eq
name_quick tw12488014758255163090 for findZ by findZ_eq
name_quick tw8733291241859026926 for findZ by findZ_eq
name_quick tw15127105006835628225 for findZ by findZ_eq
name_quick tw16053306600634468012 for findZ by findZ_eq
name_quick tw17187875760726034783 for findZ by findZ_eq
name_quick tw13367274342830030513 for findZ by findZ_eq
name_quick tw6125853113672642322 for findZ by findZ_eq
name_quick tw3919386906821981792 for findZ by findZ_eq
name_quick tw13913613514976480042 for findZ by findZ_eq
name_quick tw13622603851894308203 for findZ by findZ_eq
name_quick tw1922157984580058403 for findZ by findZ_eq
name_quick tw18418582437962087742 for findZ by findZ_eq
name_quick tw8760152093665844161 for findZ by findZ_eq
name_quick tw13813618637161013713 for findZ by findZ_eq
name_quick tw3308634892276815127 for findZ by findZ_eq
name_quick tw16378183091871739711 for findZ by findZ_eq
name_quick tw14454166528178196959 for findZ by findZ_eq
name_quick tw10341888390210383824 for findZ by findZ_eq
name_quick tw1950803216711332702 for findZ by findZ_eq
name_quick tw938635154573522699 for findZ by findZ_eq
name_quick tw1142673529048489019 for findZ by findZ_eq
name_quick tw14022695629967993375 for findZ by findZ_eq
name_quick tw1956260828630720203 for findZ by findZ_eq
name_quick tw8297923619242306668 for findZ by findZ_eq
name_quick tw15173544498738437827 for findZ by findZ_eq
name_quick tw15779231459743154856 for findZ by findZ_eq
name_quick tw16654469307462801742 for findZ by findZ_eq
name_quick tw11823594873375168262 for findZ by findZ_eq
name_quick tw5702276774652866934 for findZ by findZ_eq
name_quick tw28018229315631829 for findZ by findZ_eq
name_quick tw11738243743197964597 for findZ by findZ_eq
name_quick tw9689729476882780088 for findZ by findZ_eq
name_quick tw13953587524928339648 for findZ by findZ_eq
name_quick tw547895379624588593 for findZ by findZ_eq
name_quick tw17760279517084355780 for findZ by findZ_eq
name_quick tw10295913840692754127 for findZ by findZ_eq
name_quick tw11907897558876765624 for findZ by findZ_eq
name_quick tw17338325484393633139 for findZ by findZ_eq
name_quick tw11692469974320434101 for findZ by findZ_eq
name_quick tw6030501089693204938 for findZ by findZ_eq
name_quick tw9433028549170029634 for findZ by findZ_eq
name_quick tw4884199854448574 for findZ by findZ_eq
name_quick tw7538781388859322016 for findZ by findZ_eq
name_quick tw9510108024173832781 for findZ by findZ_eq
name_quick tw9592300441314626372 for findZ by findZ_eq
name_quick tw10510056951384868246 for findZ by findZ_eq
name_quick tw14736888041290939073 for findZ by findZ_eq
name_quick tw8565224436197482051 for findZ by findZ_eq
name_quick tw1825952489489211193 for findZ by findZ_eq
name_quick tw15805137534098808535 for findZ by findZ_eq
name_quick tw3985964047577975286 for findZ by findZ_eq
name_quick tw9630203353718772412 for findZ by findZ_eq
name_quick tw9387514328989991554 for findZ by findZ_eq
name_quick tw2789304352393801511 for findZ by findZ_eq
name_quick tw6084841979344569690 for findZ by findZ_eq
name_quick tw5444512763150141072 for findZ by findZ_eq
name_quick tw8432719020341155521 for findZ by findZ_eq
name_quick tw18105302477358141223 for findZ by findZ_eq
name_quick tw8222940686941784037 for findZ by findZ_eq
name_quick tw2228412568605170491 for findZ by findZ_eq
name_quick tw5467331546851215429 for findZ by findZ_eq
name_quick tw5217270863462422736 for findZ by findZ_eq
name_quick tw5010956058597451964 for findZ by findZ_eq
name_quick tw17348111734160510231 for findZ by findZ_eq
name_quick tw4039707410889071942 for findZ by findZ_eq
name_quick tw14564479935002850509 for findZ by findZ_eq
name_quick tw14553807712399142462 for findZ by findZ_eq
name_quick tw12314708539913122752 for findZ by findZ_eq
name_quick tw2692750590507578028 for findZ by findZ_eq
name_quick tw5449601097390414333 for findZ by findZ_eq
name_quick tw1607123104830579860 for findZ by findZ_eq
name_quick tw16773468814595293053 for findZ by findZ_eq
name_quick tw18094105663378112561 for findZ by findZ_eq
name_quick tw11076892268299887525 for findZ by findZ_eq
name_quick tw4493901809537577575 for findZ by findZ_eq
name_quick tw9003107776662980439 for findZ by findZ_eq
name_quick tw14219159868682941630 for findZ by findZ_eq
name_quick tw6557801498797044033 for findZ by findZ_eq
name_quick tw8285278889055680438 for findZ by findZ_eq
name_quick tw3042748168174471775 for findZ by findZ_eq
name_quick tw140001813534094272 for findZ by findZ_eq
name_quick tw9456574344343218679 for findZ by findZ_eq
name_quick tw10519837036962490867 for findZ by findZ_eq
name_quick tw5622701340561072331 for findZ by findZ_eq
name_quick tw7943549864190904611 for findZ by findZ_eq
name_quick tw18310463660012746435 for findZ by findZ_eq
name_quick tw7212858340449540239 for findZ by findZ_eq
name_quick tw8924819469995637033 for findZ by findZ_eq
name_quick tw8422229294311615681 for findZ by findZ_eq
name_quick tw3992765435912101610 for findZ by findZ_eq
name_quick tw14061609134260724683 for findZ by findZ_eq
name_quick tw16309811473084048462 for findZ by findZ_eq
name_quick tw2144661209622563809 for findZ by findZ_eq
name_quick tw17318462890700432884 for findZ by findZ_eq
name_quick tw447263597446747957 for findZ by findZ_eq
name_quick tw17963105932079019327 for findZ by findZ_eq
name_quick tw18073898193381586223 for findZ by findZ_eq
name_quick tw8431482922422412695 for findZ by findZ_eq
name_quick tw14647417624928369756 for findZ by findZ_eq
name_quick tw4512776594637900181 for findZ by findZ_eq
name_quick tw9977182230042388008 for findZ by findZ_eq
name_quick tw7007286002206832825 for findZ by findZ_eq
name_quick tw4483904966330829159 for findZ by findZ_eq
name_quick tw1205604411410820431 for findZ by findZ_eq
name_quick tw16412085850373738351 for findZ by findZ_eq
name_quick tw4309217394794523951 for findZ by findZ_eq
name_quick tw3713540243193553862 for findZ by findZ_eq
name_quick tw3382625519597670723 for findZ by findZ_eq
name_quick tw10159399881129095643 for findZ by findZ_eq
name_quick tw2466311954974566718 for findZ by findZ_eq
name_quick tw890339118813698166 for findZ by findZ_eq
name_quick tw14827714588952709054 for findZ by findZ_eq
name_quick tw18146532975450069615 for findZ by findZ_eq
name_quick tw8919978131948313185 for findZ by findZ_eq
name_quick tw9950792792127014553 for findZ by findZ_eq
name_quick tw14819390147424179368 for findZ by findZ_eq
name_quick tw12960429369202013873 for findZ by findZ_eq
name_quick tw13674586047789940208 for findZ by findZ_eq
name_quick tw6953138203311097117 for findZ by findZ_eq
name_quick tw10258873121960336067 for findZ by findZ_eq
name_quick tw599730875272715187 for findZ by findZ_eq
name_quick tw2399617604181995578 for findZ by findZ_eq
name_quick tw10374632558016547081 for findZ by findZ_eq
name_quick tw5285915839522022235 for findZ by findZ_eq
name_quick tw4607425872040536859 for findZ by findZ_eq
name_quick tw14391293386007564604 for findZ by findZ_eq
name_quick tw16756451883985382160 for findZ by findZ_eq
name_quick tw14782954611325821827 for findZ by findZ_eq
name_quick tw17590705303994421779 for findZ by findZ_eq
name_quick tw8080008513338510535 for findZ by findZ_eq
name_quick tw15590096980072825465 for findZ by findZ_eq
name_quick tw10297410513487048360 for findZ by findZ_eq
name_quick tw1835071406663858368 for findZ by findZ_eq
name_quick tw2084650752826471497 for findZ by findZ_eq
name_quick tw13956191218907399338 for findZ by findZ_eq
name_quick tw13757698761724263525 for findZ by findZ_eq
name_quick tw4547051000311932777 for findZ by findZ_eq
name_quick tw11502921971960690029 for findZ by findZ_eq
name_quick tw16859961878692490766 for findZ by findZ_eq
name_quick tw16248296213531012650 for findZ by findZ_eq
name_quick tw5274481202262711730 for findZ by findZ_eq
name_quick tw7480016910919988345 for findZ by findZ_eq
name_quick tw6575520176995025181 for findZ by findZ_eq
name_quick tw9646623106273453227 for findZ by findZ_eq
name_quick tw12382822922155266910 for findZ by findZ_eq
name_quick tw1000662321505670351 for findZ by findZ_eq
name_quick tw5438652380644606353 for findZ by findZ_eq
name_quick tw12903330217458380548 for findZ by findZ_eq
name_quick tw2403389108928632939 for findZ by findZ_eq
name_quick tw16279288168775177219 for findZ by findZ_eq
name_quick tw15042883488752021643 for findZ by findZ_eq
name_quick tw17170472223608059050 for findZ by findZ_eq
name_quick tw11429584451438056573 for findZ by findZ_eq
name_quick tw11662115353561507501 for findZ by findZ_eq
name_quick tw4290864757253303354 for findZ by findZ_eq
name_quick tw8060666987683057360 for findZ by findZ_eq
name_quick tw855453113358079251 for findZ by findZ_eq
name_quick tw11401859456886640639 for findZ by findZ_eq
name_quick tw17214186515701724070 for findZ by findZ_eq
name_quick tw4734895289157585001 for findZ by findZ_eq
end
open_top hd for PySem.Challenge.rw_pq0283_01
end
section
section
open PySem PySem.W PySem.Calls PyProof.Rows
namespace Mine
abbrev aN:=@Nat.le_trans
abbrev bT:=@Nat.le_of_eq
abbrev cc:=@List.forall_mem_cons
abbrev cD:=@Exists.imp
abbrev cH:=@Option.some.inj
abbrev cL:=@List.length_map
abbrev cY:=@Nat.lt_of_le_of_lt
abbrev dC:=@List.mem_map
abbrev dX:=@List.mem_singleton
abbrev dY:=@Nat.le_of_ble_eq_true
abbrev bl:=@List.getElem?_eq_some_iff
abbrev bz:=@Nat.le_refl
abbrev bG:=@Heap.get?_push_of_some
abbrev bK:=@List.length_append
abbrev bL:=@List.mem_of_getElem?
abbrev bQ:=@Exists.elim
abbrev bV:=@List.nodup_cons
abbrev bY:=@List.map_append
abbrev b9:=@Nat.le_add_right
abbrev cA:=@Heap.lt_size
abbrev cB:=@List.mem_append_right
abbrev cF:=@List.mem_cons
abbrev cJ:=@Nat.le_add_left
abbrev cS:=@List.not_mem_nil
abbrev cU:=@List.mem_append
abbrev cV:=@Nat.lt_trans
abbrev dh:=@List.map_cons
abbrev dj:=@List.map_map
abbrev dA:=@Nat.add_le_add_left
abbrev dB:=@Int.natCast_nonneg
abbrev dF:=@List.mem_append_left
abbrev et:=@Nat.zero_le
abbrev eu:=@Nat.le_of_lt
abbrev ew:=@Nat.succ_le_succ
abbrev eR:=@Nat.ne_of_lt
abbrev eU:=@List.lookup_cons
abbrev fu:=@Nat.lt_of_lt_of_le
abbrev fy:=@Nat.add_comm
abbrev fA:=@List.append_assoc
abbrev fS:=@Nat.le_succ_of_le
abbrev fT:=@List.isEmpty_iff
abbrev gm:=@List.getElem?_eq_getElem
abbrev gp:=@List.getElem?_map
abbrev gq:=@List.append_nil
abbrev hX:=@Nat.le_succ
abbrev hY:=@List.nodup_append
abbrev iO:=@Nat.lt_succ_self
abbrev iP:=@Nat.add_le_add_right
abbrev iQ:=@List.all_eq_true
abbrev iR:=@List.size_toArray
abbrev jZ:=@Prod.ext
abbrev j0:=@List.reverse_cons
abbrev j7:=@List.length_reverse
abbrev j8:=@Nat.add_right_comm
abbrev j9:=@List.forall_mem_singleton
abbrev ka:=@Nat.add_le_add
abbrev lA:=@Nat.succ.inj
abbrev lB:=@Int.le_refl
abbrev nC:=@Int.ofNat_lt
abbrev lC:=@List.cons.inj
abbrev nD:=@List.getElem?_concat_length
abbrev nE:=@Nat.sub_le
abbrev nF:=@Nat.lt_irrefl
abbrev nG:=@Ne.symm
abbrev nH:=@Heap.get?_push_size
abbrev ow:=@List.getElem?_append_left
abbrev oA:=@List.filter_cons
abbrev rr:=@Nat.not_lt
abbrev rt:=@Nat.zero_add
abbrev ru:=@List.mem_map_of_mem
abbrev rv:=@Bool.false_eq_true
abbrev rx:=@Bool.false_ne_true
abbrev ry:=@Int.ofNat_le
abbrev uE:=@Nat.sub_pos_of_lt
abbrev uF:=@Nat.add_assoc
abbrev uG:=@List.length_eq_zero_iff
abbrev uH:=@List.mem_iff_getElem?
abbrev uI:=@List.getElem?_set_ne
abbrev uJ:=@Int.le_trans
abbrev uK:=@List.length_range
abbrev uL:=@Decidable.not_not
abbrev wu:=@Nat.le_antisymm
abbrev wx:=@Nat.add_lt_add_left
abbrev wy:=@Nat.add_sub_of_le
abbrev wz:=@Nat.lt_of_succ_lt
abbrev wA:=@Heap.get?_update_other
abbrev wB:=@Heap.get?_update_self
abbrev wC:=@Heap.SameBut.update
abbrev wD:=@Heap.size_push
abbrev wF:=@List.length_set
abbrev wG:=@Heap.dictOf_iff
abbrev wH:=@List.drop_eq_getElem_cons
abbrev wI:=@Bool.eq_false_iff
abbrev wJ:=@List.length_take
abbrev wK:=@List.length_drop
abbrev z7:=@Nat.le_of_lt_succ
abbrev z8:=@Nat.sub_lt
abbrev z9:=@Nat.two_pos
abbrev Aa:=@Nat.ne_of_gt
abbrev Ab:=@List.of_mem_zip
abbrev px:=@List.getElem?_set_self
abbrev ub:=@Int.lt_trans
abbrev pz:=@List.mem_range
abbrev pA:=@Int.eq_ofNat_of_zero_le
abbrev pB:=@Int.le_of_eq
abbrev pC:=@Nat.succ_pos
abbrev pD:=@Nat.le_of_succ_le
abbrev uc:=@Nat.le_of_not_lt
abbrev ud:=@Nat.lt_of_not_le
abbrev ue:=@Nat.lt_add_of_pos_right
abbrev uf:=@Nat.le_mul_of_pos_left
abbrev ug:=@Nat.mul_add
abbrev uh:=@List.zip_cons_cons
abbrev ui:=@List.any_eq_true
abbrev uj:=@Array.getElem?_eq_some_iff
abbrev uk:=@Bool.or_eq_true
abbrev um:=@Int.toNat_lt
abbrev uq:=@List.take_append_drop
abbrev ur:=@List.nil_append
abbrev uu:=@List.map_congr_left
abbrev uv:=@Int.add_sub_cancel
abbrev uw:=@Nat.le_of_succ_le_succ
abbrev uy:=@Int.le_add_one
abbrev uz:=@Nat.succ_lt_succ
abbrev uB:=@List.mem_filter
abbrev uC:=@List.length_filter_le
abbrev uD:=@Nat.pow_le_pow_right
abbrev yx:=@Nat.lt_of_le_of_ne
abbrev yy:=@Nat.max_eq_right
abbrev yz:=@Nat.min_le_right
abbrev yA:=@Nat.not_lt_of_le
abbrev yB:=@Array.length_toList
abbrev yC:=@Looks.of_pure
abbrev yD:=@Obj.data_mapFields
abbrev yE:=@Bool.or_eq_true_iff
abbrev yF:=@List.find?_cons_of_pos
abbrev yG:=@List.contains_iff_mem
abbrev yH:=@List.forIn_cons
abbrev yI:=@List.length_nil
abbrev yJ:=@Int.add_assoc
abbrev yK:=@List.getElem_mem
abbrev yL:=@Option.isSome_iff_exists
abbrev yM:=@Int.add_zero
abbrev yN:=@Nat.not_lt_zero
abbrev yO:=@Nat.not_succ_le_zero
abbrev yP:=@Nat.div_le_div_right
abbrev yQ:=@Nat.add_add_add_comm
abbrev yR:=@Nat.mul_le_mul_left
abbrev E7:=@Array.toList_append
abbrev E8:=@Nat.add_pos_left
abbrev E9:=@Nat.lt_succ_of_le
abbrev Fb:=@Code.quiet_builtin
abbrev Fc:=@List.lookup_eq_none_iff
abbrev Fd:=@Option.eq_none_iff_forall_ne_some
abbrev Fe:=@Option.bind_eq_some_iff
abbrev Ff:=@List.mem_of_find?_eq_some
abbrev Fg:=@List.filterMap_cons
abbrev Fh:=@List.getElem_inj
abbrev Fi:=@PySem.W.cellsFrom_some
abbrev Fj:=@Bool.not_eq_true'
abbrev Fn:=@List.find?_cons_of_neg
abbrev Fo:=@Int.toNat_natCast
abbrev Fp:=@List.contains_cons
abbrev Fq:=@List.drop_eq_nil_of_le
abbrev Ft:=@List.length_cons
abbrev Fu:=@List.cons_append
abbrev Fv:=@List.getElem?_eq_none
abbrev Fw:=@Nat.sub_lt_sub_left
abbrev Fx:=@Int.add_le_add_left
abbrev Fy:=@List.cons_ne_nil
abbrev Fz:=@Int.emod_lt_of_pos
abbrev FA:=@List.filter_cons_of_pos
abbrev FD:=@Nat.not_succ_le_self
abbrev FE:=@Nat.le_add_right_of_le
abbrev FF:=@List.map_dropLast
abbrev FG:=@IntMulOk.of_right
abbrev FH:=@Nat.succ_add_eq_add_succ
abbrev LJ:=@List.eq_nil_of_length_eq_zero
abbrev aD:=@congrArg
abbrev aJ:=@wpAny_bind
abbrev aW:=@if_neg
abbrev a9:=@wpS_bind
abbrev bE:=@if_pos
abbrev bA:=@wpS_pure
abbrev bR:=@wpAny_pure
abbrev dW:=@wpAny_mono
abbrev f3:=@of_decide_eq_true
abbrev jY:=@decide_eq_false
abbrev gM:=@sizeLine_eq
abbrev hM:=@decide_eq_true
abbrev hW:=@wpAny_holding
abbrev iN:=@beq_self_eq_true
abbrev nA:=@wpS_get
abbrev nB:=@wpAny_newObj_type
abbrev ou:=@if_false
abbrev rp:=@wpS_modify
abbrev rq:=@wpAny_standAt
abbrev t9:=@wpAny_Name
abbrev ua:=@wpAny_field
abbrev wj:=@wpS_lift
abbrev wk:=@wpS_forRange
abbrev wo:=@wpAny_rule
abbrev wq:=@wpAny_loadPart_at
abbrev z6:=@looks_findIn
abbrev E4:=@looks_clsIn
abbrev E5:=@wpAny_loadPart
abbrev E6:=@intKind_is
abbrev Jp:=@wpAny_loadName_local
abbrev Jq:=@wpAny_storeName_local
abbrev OK:=@Name_function_global
abbrev OL:=@wpAny_isSubtype_exc
abbrev OM:=@beq_eq_false_iff_ne
abbrev ON:=@wpAny_loadName_cell
abbrev OO:=@getMethod_builtin
abbrev OP:=@wpAny_dictEntries
abbrev OQ:=@wpAny_newFunctionEnv
abbrev OS:=@wpAny_comprehension_free
abbrev Uz:=@plainObj_wpAny_Assign_Attribute
end Mine
end
set_option maxHeartbeats 2000000
set_option genSizeOf false
set_option tactic.hygienic false
set_option genInjectivity false
set_option bootstrap.genMatcherCode false
set_option autoImplicit true
set_option maxRecDepth 100000
set_option Elab.async false
set_option linter.unusedVariables false
set_option linter.unusedSimpArgs false
set_option genSizeOfSpec false
set_option linter.unusedSectionVars false
section
namespace Mine
theorem fg {α:Type} {o:Option α} {x:α} (h:o=some x) (h':o=none):False:=nomatch h.symm.trans h'
theorem none_of {α:Type} {o:Option α} (h:∀x,o=some x→False):o=none:=by
 cases o with
 | none=>rfl
 | some x=>exact (h x rfl).elim
theorem nh {α:Type} {l:List α} {a b:α} {i:Nat} (h:(l++[a])[i]?=some b):l[i]?=some b∧i<l.length∨i=l.length∧b=a:=by
 by_cases hi:i<l.length
 ·exact .inl ⟨(ow hi).symm.trans h,hi⟩
 ·have e:i=l.length:=wu (z7 (Nat.lt_of_lt_of_eq (bl.mp h).1 (bK (as:=l) (bs:=[a])))) (uc hi)
  exact .inr ⟨e,cH (h.symm.trans (e▸nD))⟩
theorem Em {α β:Type} {l:List α} {m:List β} (hl:l.length=m.length) {a b:α} {c d:β} {i:Nat} (h:(l++[a])[i]?=some b) (k:(m++[c])[i]?=some d):(l[i]?=some b∧m[i]?=some d)∨(b=a∧d=c):=
 (nh h).elim (fun x=>(nh k).elim (fun y=>.inl ⟨x.1,y.1⟩) fun y=>absurd x.2 (rr.mpr (bT (hl.trans y.1.symm)))) fun x=>(nh k).elim (fun y=>absurd y.2 (rr.mpr (bT (hl.symm.trans x.1.symm)))) fun y=>.inr ⟨x.2,y.2⟩
section
variable {A:Sort _} {p q r s t:A→Prop} {R:Prop}
theorem bc (h:∃x,p x∧q x) (k:∀x,p x→q x→R):R:=h.elim fun x h=>k x h.1 h.2
theorem iL (h:∃x,p x∧q x∧r x) (k:∀x,p x→q x→r x→R):R:=h.elim fun x h=>k x h.1 h.2.1 h.2.2
theorem cX (h:∃x,p x∧q x∧r x∧s x) (k:∀x,p x→q x→r x→s x→R):R:=h.elim fun x h=>k x h.1 h.2.1 h.2.2.1 h.2.2.2
theorem E0 (h:∃x,p x∧q x∧r x∧s x∧t x) (k:∀x,p x→q x→r x→s x→t x→R):R:=h.elim fun x h=>k x h.1 h.2.1 h.2.2.1 h.2.2.2.1 h.2.2.2.2
end
section
variable {A:Sort _} {B:Sort _} {p q r s t i j l m:A→B→Prop} {R:Prop}
theorem b8 (h:∃x y,p x y∧q x y) (k:∀x y,p x y→q x y→R):R:=h.elim fun x h=>h.elim fun y h=>k x y h.1 h.2
theorem jX (h:∃x y,p x y) (k:∀x y,p x y→R):R:=h.elim fun x h=>h.elim fun y h=>k x y h
theorem bX (h:∃x y,p x y∧q x y∧r x y∧s x y) (k:∀x y,p x y→q x y→r x y→s x y→R):R:=h.elim fun x h=>h.elim fun y h=>k x y h.1 h.2.1 h.2.2.1 h.2.2.2
theorem fZ (h:∃x y,p x y∧q x y∧r x y) (k:∀x y,p x y→q x y→r x y→R):R:=h.elim fun x h=>h.elim fun y h=>k x y h.1 h.2.1 h.2.2
theorem jw (h:∃x y,p x y∧q x y∧r x y∧s x y∧t x y) (k:∀x y,p x y→q x y→r x y→s x y→t x y→R):R:=h.elim fun x h=>h.elim fun y h=>k x y h.1 h.2.1 h.2.2.1 h.2.2.2.1 h.2.2.2.2
theorem wh (h:∃x y,p x y∧q x y∧r x y∧s x y∧t x y∧i x y∧j x y∧l x y) (k:∀x y,p x y→q x y→r x y→s x y→t x y→i x y→j x y→l x y→R):R:=h.elim fun x h=>h.elim fun y h=>k x y h.1 h.2.1 h.2.2.1 h.2.2.2.1 h.2.2.2.2.1 h.2.2.2.2.2.1 h.2.2.2.2.2.2.1 h.2.2.2.2.2.2.2
end
section
variable {p q r s t i:Prop} {R:Prop}
theorem wg (h:p∧q∧r) (k:p→q→r→R):R:=k h.1 h.2.1 h.2.2
theorem jW (h:p∧q∧r∧s) (k:p→q→r→s→R):R:=k h.1 h.2.1 h.2.2.1 h.2.2.2
end
theorem lR {A:Sort _} {B:Sort _} {C:Sort _} {D:Sort _} {p:Prop} {q r:A→B→C→D→Prop} {R:Prop} (h:p∧∃x y z u,q x y z u∧r x y z u) (k:p→∀x y z u,q x y z u→r x y z u→R):R:=h.2.elim fun x hx=>hx.elim fun y hy=>hy.elim fun z hz=>hz.elim fun u hu=>k h.1 x y z u hu.1 hu.2
theorem Uu {A:Sort _} {p q:Prop} {r:A→Prop} {R:Prop} (h:p∧q∧∃x,r x) (k:p→q→∀x,r x→R):R:=h.2.2.elim fun x hx=>k h.1 h.2.1 x hx
theorem EZ {A:Sort _} {B:Sort _} {C:Sort _} {D:Sort _} {p:Prop} {q r s:A→B→C→D→Prop} {R:Prop} (h:p∧∃x y z u,q x y z u∧r x y z u∧s x y z u) (k:p→∀x y z u,q x y z u→r x y z u→s x y z u→R):R:=h.2.elim fun x hx=>hx.elim fun y hy=>hy.elim fun z hz=>hz.elim fun u hu=>k h.1 x y z u hu.1 hu.2.1 hu.2.2
theorem LD {A:Sort _} {B:Sort _} {p q:A→Prop} {r:A→B→Prop} {R:Prop} (h:∃x,p x∧q x∧∃y,r x y) (k:∀x,p x→q x→∀y,r x y→R):R:=h.elim fun x h=>h.2.2.elim fun y hy=>k x h.1 h.2.1 y hy
theorem yq {A:Sort _} {B:Sort _} {p q:Prop} {r s t:A→B→Prop} {R:Prop} (h:p∧q∧∃x y,r x y∧s x y∧t x y) (k:p→q→∀x y,r x y→s x y→t x y→R):R:=h.2.2.elim fun x hx=>hx.elim fun y hy=>k h.1 h.2.1 x y hy.1 hy.2.1 hy.2.2
theorem EY {A:Sort _} {B:Sort _} {p q:Prop} {r s:A→B→Prop} {R:Prop} (h:p∧q∧∃x y,r x y∧s x y) (k:p→q→∀x y,r x y→s x y→R):R:=h.2.2.elim fun x hx=>hx.elim fun y hy=>k h.1 h.2.1 x y hy.1 hy.2
theorem Jm {A:Sort _} {p:Prop} {q r:A→Prop} {R:Prop} (h:p∧∃x,q x∧r x) (k:p→∀x,q x→r x→R):R:=h.2.elim fun x hx=>k h.1 x hx.1 hx.2
theorem Jl {A:Sort _} {p q r:Prop} {s t i:A→Prop} {R:Prop} (h:p∧q∧r∧∃x,s x∧t x∧i x) (k:p→q→r→∀x,s x→t x→i x→R):R:=h.2.2.2.elim fun x hx=>k h.1 h.2.1 h.2.2.1 x hx.1 hx.2.1 hx.2.2
theorem Uv {A:Sort _} {p q:Prop} {r s:A→Prop} {R:Prop} (h:p∧q∧∃x,r x∧s x) (k:p→q→∀x,r x→s x→R):R:=h.2.2.elim fun x hx=>k h.1 h.2.1 x hx.1 hx.2
theorem z0 {A:Sort _} {B:Sort _} {C:Sort _} {p:A→Prop} {q r s t i:A→B→C→Prop} {R:Prop} (h:∃x,p x∧∃y z,q x y z∧r x y z∧s x y z∧t x y z∧i x y z) (k:∀x,p x→∀y z,q x y z→r x y z→s x y z→t x y z→i x y z→R):R:=h.elim fun x h=>h.2.elim fun y hy=>hy.elim fun z hz=>k x h.1 y z hz.1 hz.2.1 hz.2.2.1 hz.2.2.2.1 hz.2.2.2.2
theorem EX {A:Sort _} {p q r:Prop} {s t:A→Prop} {R:Prop} (h:p∧q∧r∧∃x,s x∧t x) (k:p→q→r→∀x,s x→t x→R):R:=h.2.2.2.elim fun x hx=>k h.1 h.2.1 h.2.2.1 x hx.1 hx.2
section
variable {A:Sort _} {B:Sort _} {C:Sort _} {D:Sort _} {p q r s t i:A→B→C→D→Prop} {R:Prop}
theorem gK (h:∃x y z u,p x y z u∧q x y z u∧r x y z u∧s x y z u) (k:∀x y z u,p x y z u→q x y z u→r x y z u→s x y z u→R):R:=h.elim fun x h=>h.elim fun y h=>h.elim fun z h=>h.elim fun u h=>k x y z u h.1 h.2.1 h.2.2.1 h.2.2.2
theorem yt (h:∃x y z u,p x y z u) (k:∀x y z u,p x y z u→R):R:=h.elim fun x h=>h.elim fun y h=>h.elim fun z h=>h.elim fun u h=>k x y z u h
theorem yu (h:∃x y z u,p x y z u∧q x y z u∧r x y z u) (k:∀x y z u,p x y z u→q x y z u→r x y z u→R):R:=h.elim fun x h=>h.elim fun y h=>h.elim fun z h=>h.elim fun u h=>k x y z u h.1 h.2.1 h.2.2
theorem rn (h:∃x y z u,p x y z u∧q x y z u) (k:∀x y z u,p x y z u→q x y z u→R):R:=h.elim fun x h=>h.elim fun y h=>h.elim fun z h=>h.elim fun u h=>k x y z u h.1 h.2
end
section
variable {A:Sort _} {B:Sort _} {C:Sort _} {p q r s t i j:A→B→C→Prop} {R:Prop}
theorem g0 (h:∃x y z,p x y z∧q x y z∧r x y z∧s x y z∧t x y z∧i x y z) (k:∀x y z,p x y z→q x y z→r x y z→s x y z→t x y z→i x y z→R):R:=h.elim fun x h=>h.elim fun y h=>h.elim fun z h=>k x y z h.1 h.2.1 h.2.2.1 h.2.2.2.1 h.2.2.2.2.1 h.2.2.2.2.2
theorem nu (h:∃x y z,p x y z∧q x y z∧r x y z) (k:∀x y z,p x y z→q x y z→r x y z→R):R:=h.elim fun x h=>h.elim fun y h=>h.elim fun z h=>k x y z h.1 h.2.1 h.2.2
theorem E1 (h:∃x y z,p x y z) (k:∀x y z,p x y z→R):R:=h.elim fun x h=>h.elim fun y h=>h.elim fun z h=>k x y z h
theorem nv (h:∃x y z,p x y z∧q x y z∧r x y z∧s x y z∧t x y z∧i x y z∧j x y z) (k:∀x y z,p x y z→q x y z→r x y z→s x y z→t x y z→i x y z→j x y z→R):R:=h.elim fun x h=>h.elim fun y h=>h.elim fun z h=>k x y z h.1 h.2.1 h.2.2.1 h.2.2.2.1 h.2.2.2.2.1 h.2.2.2.2.2.1 h.2.2.2.2.2.2
theorem yr (h:∃x y z,p x y z∧q x y z∧r x y z∧s x y z) (k:∀x y z,p x y z→q x y z→r x y z→s x y z→R):R:=h.elim fun x h=>h.elim fun y h=>h.elim fun z h=>k x y z h.1 h.2.1 h.2.2.1 h.2.2.2
theorem E2 (h:∃x y z,p x y z∧q x y z∧r x y z∧s x y z∧t x y z) (k:∀x y z,p x y z→q x y z→r x y z→s x y z→t x y z→R):R:=h.elim fun x h=>h.elim fun y h=>h.elim fun z h=>k x y z h.1 h.2.1 h.2.2.1 h.2.2.2.1 h.2.2.2.2
theorem Uw (h:∃x y z,p x y z∧q x y z) (k:∀x y z,p x y z→q x y z→R):R:=h.elim fun x h=>h.elim fun y h=>h.elim fun z h=>k x y z h.1 h.2
end
section
variable {A:Sort _} {B:Sort _} {C:Sort _} {D:Sort _} {F:Sort _} {G:Sort _} {H:Sort _} {I:Sort _} {J:Sort _} {K:Sort _} {L:Sort _} {p q:A→B→C→D→F→G→H→I→J→K→L→Prop} {R:Prop}
theorem eQ (h:∃x y z u v w a b c d e,p x y z u v w a b c d e∧q x y z u v w a b c d e) (k:∀x y z u v w a b c d e,p x y z u v w a b c d e→q x y z u v w a b c d e→R):R:=h.elim fun x h=>h.elim fun y h=>h.elim fun z h=>h.elim fun u h=>h.elim fun v h=>h.elim fun w h=>h.elim fun a h=>h.elim fun b h=>h.elim fun c h=>h.elim fun d h=>h.elim fun e h=>k x y z u v w a b c d e h.1 h.2
end
section
variable {A:Sort _} {B:Sort _} {C:Sort _} {D:Sort _} {F:Sort _} {p q r s t:A→B→C→D→F→Prop} {R:Prop}
theorem iM (h:∃x y z u v,p x y z u v∧q x y z u v∧r x y z u v∧s x y z u v∧t x y z u v) (k:∀x y z u v,p x y z u v→q x y z u v→r x y z u v→s x y z u v→t x y z u v→R):R:=h.elim fun x h=>h.elim fun y h=>h.elim fun z h=>h.elim fun u h=>h.elim fun v h=>k x y z u v h.1 h.2.1 h.2.2.1 h.2.2.2.1 h.2.2.2.2
theorem yv (h:∃x y z u v,p x y z u v∧q x y z u v) (k:∀x y z u v,p x y z u v→q x y z u v→R):R:=h.elim fun x h=>h.elim fun y h=>h.elim fun z h=>h.elim fun u h=>h.elim fun v h=>k x y z u v h.1 h.2
theorem z4 (h:∃x y z u v,p x y z u v∧q x y z u v∧r x y z u v∧s x y z u v) (k:∀x y z u v,p x y z u v→q x y z u v→r x y z u v→s x y z u v→R):R:=h.elim fun x h=>h.elim fun y h=>h.elim fun z h=>h.elim fun u h=>h.elim fun v h=>k x y z u v h.1 h.2.1 h.2.2.1 h.2.2.2
end
section
variable {A:Sort _} {B:Sort _} {C:Sort _} {D:Sort _} {F:Sort _} {G:Sort _} {p q r s t:A→B→C→D→F→G→Prop} {R:Prop}
theorem t7 (h:∃x y z u v w,p x y z u v w∧q x y z u v w∧r x y z u v w∧s x y z u v w∧t x y z u v w) (k:∀x y z u v w,p x y z u v w→q x y z u v w→r x y z u v w→s x y z u v w→t x y z u v w→R):R:=h.elim fun x h=>h.elim fun y h=>h.elim fun z h=>h.elim fun u h=>h.elim fun v h=>h.elim fun w h=>k x y z u v w h.1 h.2.1 h.2.2.1 h.2.2.2.1 h.2.2.2.2
end
section
variable {A:Sort _} {B:Sort _} {C:Sort _} {D:Sort _} {F:Sort _} {G:Sort _} {H:Sort _} {p q r s t:A→B→C→D→F→G→H→Prop} {R:Prop}
theorem ro (h:∃x y z u v w a,p x y z u v w a∧q x y z u v w a∧r x y z u v w a∧s x y z u v w a∧t x y z u v w a) (k:∀x y z u v w a,p x y z u v w a→q x y z u v w a→r x y z u v w a→s x y z u v w a→t x y z u v w a→R):R:=h.elim fun x h=>h.elim fun y h=>h.elim fun z h=>h.elim fun u h=>h.elim fun v h=>h.elim fun w h=>h.elim fun a h=>k x y z u v w a h.1 h.2.1 h.2.2.1 h.2.2.2.1 h.2.2.2.2
theorem z5 (h:∃x y z u v w a,p x y z u v w a∧q x y z u v w a) (k:∀x y z u v w a,p x y z u v w a→q x y z u v w a→R):R:=h.elim fun x h=>h.elim fun y h=>h.elim fun z h=>h.elim fun u h=>h.elim fun v h=>h.elim fun w h=>h.elim fun a h=>k x y z u v w a h.1 h.2
end
end Mine
end
section
open PySem PySem.W PySem.Calls PyProof.Rows
namespace Mine.Z
noncomputable abbrev dN:Bool→Keyed→Array Keyed→Nat→Nat→Nat→StateT SortSt Sem (Option Nat):=sortPriv% PySem.Builtin.gallop
noncomputable abbrev mX:Array Keyed→Array Keyed→StateT SortSt Sem (Array Keyed):=sortPriv% PySem.Builtin.mergeLo
noncomputable abbrev mW:Array Keyed→Array Keyed→StateT SortSt Sem (Array Keyed):=sortPriv% PySem.Builtin.mergeHi
noncomputable abbrev Arr:=Array Keyed
noncomputable abbrev Ss:=StateT SortSt Sem
def KI (p:Keyed):Prop:=∃n t,p.1= .int n t
def Al (P:Keyed→Prop) (o:Arr):Prop:=∀p∈o.toList,P p
theorem dy {n m:Nat} (h:n≤m) (e:¬ (n == m)=true):n<m:=yx h fun q=>e (beq_iff_eq.mpr q)
section
variable {P:Keyed→Prop} {a b:Arr} {x:Keyed} {i j:Nat}
theorem Al.get (h:Al P a) (hi:i<a.size):P a[i]:=h _ (Array.getElem_mem_toList hi)
theorem Al.ex (h:Al P a) (i j:Nat):Al P (a.extract i j):=fun p hp=>h p (List.mem_of_mem_drop (List.mem_of_mem_take (show p∈a.toList.extract i j from Array.toList_extract▸hp)))
theorem Al.app (h:Al P a) (k:Al P b):Al P (a++b):=fun p hp=>(cU.mp (E7▸hp)).elim (h p) (k p)
theorem Al.push (h:Al P a) (k:P x):Al P (a.push x):=fun p hp=>(cU.mp (Array.toList_push▸hp)).elim (h p) fun e=>dX.mp e▸k
theorem Al.rev (h:Al P a):Al P a.reverse:=fun p hp=>h p (List.mem_reverse.mp (Array.toList_reverse▸hp))
theorem Al.one (k:P x):Al P #[x]:=fun p hp=>dX.mp hp▸k
end
noncomputable def setG (g:Nat) (s:SortSt):SortSt:=SortSt.mk' (kindOf s) (arrOf s) (pendingOf s) g (failedOf s)
structure GS (st aC:SortSt):Prop where
 k:kindOf aC=kindOf st
 a:arrOf aC=arrOf st
 p:pendingOf aC=pendingOf st
 f:failedOf aC=failedOf st
theorem GS.refl (st:SortSt):GS st st:=⟨rfl,rfl,rfl,rfl⟩
theorem GS.zj {st aC:SortSt} (G:GS st aC) (g:Nat):GS st (setG g aC):=⟨G.k,G.a,G.p,G.f⟩
section
variable {aab:Program} {w:World} {A:Around} {E:Value→Shared→Prop} {s:Shared} {st:SortSt} {M:Model}
theorem ag (e:m=k) (h:wpS M A E s k Q st):wpS M A E s m Q st:=e▸h
theorem ak [Decidable c] (h1:c→wpS M A E s m Q st) (h2:¬ c→wpS M A E s k Q st):wpS M A E s (if c then m else k) Q st:=
 if h:c then (bE h).symm▸h1 h else (aW h).symm▸h2 h
theorem tY (hk:kindOf st=oneType') (hx:KI x) (hy:KI y) (h:∀b,Q (some b) st):wpS (model aab w) A E s (lt' x y) Q st:=
 jX hx fun n t hx=>jX hy fun m u hy=>ag (lt'_eq x y) (a9 (nA (a9 (ag (by rw [hk,keyLt'_oneType,hx,hy]) (wj (wpAny_attempt (oneLt_int ⟨rfl,bA (h (decide (n<m)))⟩)))))))
theorem aM (hi:i<arr.size) (h:Q arr[i] st):wpS M A E s (elem' arr i) Q st:=
 ag ((elem'_eq arr i).trans (by rw [getElem?_pos arr i hi])) (bA h)
def Tn (Y N:ρ→SortSt→Prop) (F:Arr→SortSt→Prop) (r:ForInStep (Option Arr × ρ)) (aC:SortSt):Prop:=
 r.rec (motive:=fun O=>Prop) (fun c=>c.1.rec (motive:=fun O=>Prop) (N c.2 aC) fun x=>F x aC) fun c=>c.1=none∧Y c.2 aC
theorem lp {ρ:Type} {n:Nat} {f:Nat→Option Arr × ρ→Ss (ForInStep (Option Arr × ρ))} {Y:Nat→ρ→SortSt→Prop} {N:ρ→SortSt→Prop} {F:Arr→SortSt→Prop} {Q:Option Arr × ρ→SortSt→Prop} {x0:ρ}
  (h0:Y 0 x0 st) (hf:∀x gk,¬ Y n x gk) (hb:∀j x gk,Y j x gk→wpS M A E s (f j (none,x)) (Tn (Y (j+1)) N F) gk)
  (k1:∀x r gk,F r gk→Q (some r,x) gk) (k2:∀x gk,N x gk→Q (none,x) gk):wpS M A E s (forIn [0:n] (none,x0) f) Q st:=
 wk (I:=fun i c gk=>c.1=none∧Y i c.2 gk) (fun i c gk O O h=>wpS_mono ((aD (f i) (jZ h.1 rfl:c=(none,c.2)))▸hb i c.2 gk h.2) fun r iJ t=>by
  induction r with
  | done c=>
   obtain ⟨c1,c2⟩:=c
   induction c1 with
   | none=>exact k2 _ _ t
   | some r=>exact k1 _ _ _ t
  | yield c=>exact t) (fun c gk h=>(hf c.2 gk (by rw [yy (et n)] at h;exact h.2)).elim) ⟨rfl,h0⟩
def T0 (Y:ρ→Prop) (r:ForInStep (Option τ × ρ)):Prop:=r.rec (motive:=fun O=>Prop) (fun c=>c.1=none∧Y c.2) fun c=>c.1=none∧Y c.2
theorem RZ {ρ τ:Type} {n:Nat} {f:Nat→Option τ × ρ→Ss (ForInStep (Option τ × ρ))} {Y:ρ→Prop} {Q:Option τ × ρ→SortSt→Prop} {x0:ρ}
  (h0:Y x0) (hb:∀j x,Y x→wpS M A E s (f j (none,x)) (fun r aC=>st=aC∧T0 Y r) st) (k:∀x,Y x→Q (none,x) st):wpS M A E s (forIn [0:n] (none,x0) f) Q st:=
 wpS_mono (wk (I:=fun i c gk=>st=gk∧c.1=none∧Y c.2) (Q:=fun c gk=>st=gk∧c.1=none∧Y c.2) (fun i c gk O O h=>h.1▸wpS_mono ((aD (f i) (jZ h.2.1 rfl:c=(none,c.2)))▸hb i c.2 h.2.2) fun r iJ t=>by
  induction r with
  | done c=>exact t
  | yield c=>exact t) (fun O O h=>h) ⟨rfl,rfl,h0⟩) fun c gk h=>h.1▸(jZ h.2.1 rfl:c=(none,c.2))▸k _ h.2.2
noncomputable abbrev G2:=Option (Option Nat) × Nat × Nat
noncomputable def Ze (l:Bool) (key:Keyed) (arr:Arr) (base i:Nat):Ss (Option Bool):=elem' arr (base+i) >>= fun x=>if l=true then lt' x key else lt' key x >>= fun r=>pure (r.map (!·))
noncomputable def Zs:{T:Bool→Keyed→Arr→Nat→Nat→Nat→Option Bool→Ss (Option Nat) // ∀l key arr base n hint,dN l key arr base n hint=(Ze l key arr base hint >>= T l key arr base n hint)}:=⟨_,fun O O O O O O=>rfl⟩
noncomputable abbrev Y8:=Bool→Keyed→Arr→Nat→Nat→Nat→Nat→G2→Ss (ForInStep G2)
noncomputable abbrev Y9:=Bool→Keyed→Arr→Nat→Nat→Nat→G2→Ss (Option Nat)
noncomputable def V8:{T:(Y8 × Y9) × Y8 × Y9 // ∀l key arr base n hint r,Zs.1 l key arr base n hint (some r)=if r=true then (forIn [0:n] (none,0,1) (T.1.1 l key arr base n hint) >>= T.1.2 l key arr base n hint) else (forIn [0:n] (none,0,1) (T.2.1 l key arr base n hint) >>= T.2.2 l key arr base n hint)}:=⟨((_,_),_,_),fun O O O O O O O=>rfl⟩
noncomputable def UP:{T:(Bool→Keyed→Arr→Nat→Nat→G2→Ss (ForInStep G2)) × (G2→Ss (Option Nat)) // (∀l key arr base n hint x,V8.1.1.2 l key arr base n hint (none,x)=(forIn [0:n] (none,hint+x.1+1,hint+min x.2 (n - hint)) (T.1 l key arr base) >>= T.2))∧∀l key arr base n hint x,V8.1.2.2 l key arr base n hint (none,x)=(forIn [0:n] (none,hint+1 - min x.2 (hint+1),hint - x.1) (T.1 l key arr base) >>= T.2)}:=⟨(_,_),fun O O O O O O O=>rfl,fun O O O O O O O=>rfl⟩
section
variable {l:Bool} {key:Keyed} {arr:Arr} {base n hint:Nat} {P:Keyed→Prop}
theorem rh (hk:kindOf st=oneType') (hP:∀p,P p→KI p) (hK:P key) (hA:Al P arr) (hn:base+n≤arr.size) (hi:i<n) (hR:∀b,R (some b) st):wpS (model aab w) A E s (Ze l key arr base i) R st:=
 have hb:base+i<arr.size:=fu (wx hi _) hn
 a9 (aM hb (ak (fun O=>tY hk (hP _ (hA.get hb)) (hP _ hK) hR) fun O=>a9 (tY hk (hP _ hK) (hP _ (hA.get hb)) fun b=>bA (hR _))))
theorem BQ {lo hi:Nat} {Q:Option Nat→SortSt→Prop} (hk:kindOf st=oneType') (hP:∀p,P p→KI p) (hK:P key) (hA:Al P arr) (hn:base+n≤arr.size) (hh:hi≤n) (h:∀k,k≤n→Q (some k) st):wpS (model aab w) A E s (forIn [0:n] (none,lo,hi) (UP.1.1 l key arr base) >>= UP.1.2) Q st:=
 a9 (RZ (Y:=fun x:Nat × Nat=>x.2≤n) hh (fun j x hx=>ak (fun O=>bA ⟨rfl,rfl,hx⟩) fun cu=>
  have hm:x.1+(x.2 - x.1) / 2<x.2:=fu (wx (Nat.div_lt_self (uE (ud cu)) (iO 1)) _) (bT (wy (Nat.le_of_not_le cu)))
  a9 (rh hk hP hK hA hn (fu hm hx) fun b=>ak (fun O=>bA ⟨rfl,rfl,hx⟩) fun O=>bA ⟨rfl,rfl,aN (eu hm) hx⟩)) fun x hx=>bA (h _ hx))
theorem c9 {Q:Option Nat→SortSt→Prop} (hk:kindOf st=oneType') (hP:∀p,P p→KI p) (hK:P key) (hA:Al P arr) (hn:base+n≤arr.size) (hh:hint<n) (h:∀k,k≤n→Q (some k) st) :
  wpS (model aab w) A E s (dN l key arr base n hint) Q st:=
 ag (Zs.2 ..) (a9 (rh hk hP hK hA hn hh fun b=>ag (V8.2 ..) (ak
  (fun O=>a9 (RZ (Y:=fun O=>True) trivial (fun j x O=>ak (fun O=>bA ⟨rfl,rfl,trivial⟩) fun cu=>a9 (rh hk hP hK hA hn (Nat.add_lt_of_lt_sub' (ud cu)) fun b=>ak (fun O=>bA ⟨rfl,rfl,trivial⟩) fun O=>bA ⟨rfl,rfl,trivial⟩)) fun x O=>
   ag (UP.2.1 ..) (BQ hk hP hK hA hn (aN (dA (yz _ _) _) (bT (wy (eu hh)))) h)))
  fun O=>a9 (RZ (Y:=fun O=>True) trivial (fun j x O=>ak (fun O=>bA ⟨rfl,rfl,trivial⟩) fun cu=>a9 (rh hk hP hK hA hn (cY (nE _ _) hh) fun b=>ak (fun O=>bA ⟨rfl,rfl,trivial⟩) fun O=>bA ⟨rfl,rfl,trivial⟩)) fun x O=>
   ag (UP.2.2 ..) (BQ hk hP hK hA hn (eu (cY (nE _ _) hh)) h)))))
end
end
structure Mg (P:Keyed→Prop) (a b:Arr) (st:SortSt):Prop where
 k:kindOf st=oneType'
 hP:∀p,P p→KI p
 A:Al P a
 B:Al P b
def Fin (P:Keyed→Prop) (st:SortSt) (x:Arr) (aC:SortSt):Prop:=GS st aC∧Al P x
structure On (P:Keyed→Prop) (a b:Arr) (st:SortSt) (m:Nat) (o:Arr) (i k:Nat) (aC:SortSt):Prop where
 g:GS st aC
 o:Al P o
 hi:i+1<a.size
 hk:k<b.size
 hm:m≤i+k
noncomputable abbrev C5:=Option Arr × Arr × Nat × Nat × Nat
noncomputable abbrev C6:=Option Arr × Arr × Nat × Nat × Nat × Nat
noncomputable abbrev C7:=Option Arr × Arr × Nat × Nat × Nat × Nat × Nat
noncomputable def Z9:{T:Arr→Arr→Keyed→Ss Arr // ∀a b,mX a b=(liftM (rule "list.sort.merge-lo") >>= fun O=>elem' b 0 >>= fun x=>T a b x)}:=⟨_,fun O O=>rfl⟩
noncomputable def loY:{T:Arr→Arr→Keyed→Ss Arr // ∀a b x,Z9.1 a b x=if (1 == b.size)=true then pure (#[x]++a.extract 0 a.size++b.extract 1 b.size) else if (0+1 == a.size)=true then pure (#[x]++b.extract 1 b.size++a.extract 0 a.size) else T a b x}:=⟨_,fun O O O=>rfl⟩
noncomputable def Xk:{T:(Arr→Arr→Nat→C5→Ss (ForInStep C5)) × (Arr→Arr→C5→Ss Arr) // ∀a b x,loY.1 a b x=(get >>= fun s=>forIn [:a.size+b.size] (none, #[x],0,1,gallopOf s) (T.1 a b) >>= T.2 a b)}:=⟨(_,_),fun O O O=>rfl⟩
noncomputable def RU:{T:(Arr→Arr→C5→Nat→C6→Ss (ForInStep C6)) × (Arr→Arr→C5→C6→Ss (ForInStep C5)) // ∀a b j c,Xk.1.1 a b j c=(forIn [:a.size+b.size] (none,c.2.1,c.2.2.1,c.2.2.2.1,0,0) (T.1 a b c) >>= T.2 a b c)}:=⟨(_,_),fun O O O O=>rfl⟩
noncomputable def loJ:{T:Arr→Arr→C5→C6→Option Bool→Ss (ForInStep C6) // ∀a b c j d,RU.1.1 a b c j d=(elem' b d.2.2.2.1 >>= fun x=>elem' a d.2.2.1 >>= fun y=>lt' x y >>= T a b c d)}:=⟨_,fun O O O O O=>rfl⟩
noncomputable def Xj:{T:(Arr→Arr→Nat→C7→Ss (ForInStep C7)) × (Arr→Arr→C7→Ss (ForInStep C5)) // ∀a b c x,RU.1.2 a b c (none,x)=(liftM (rule "list.sort.gallop") >>= fun O=>forIn [:a.size+b.size] (none,x.1,x.2.1,x.2.2.1,c.2.2.2.2+1,x.2.2.2) (T.1 a b) >>= T.2 a b)}:=⟨(_,_),fun O O O O=>rfl⟩
noncomputable def RV:{T:(Arr→Arr→C7→Ss (ForInStep C7)) × (Arr→Arr→C7→Ss (ForInStep C7)) // ∀a b j d,Xj.1.1 a b j d=if d.2.2.2.2.1>1 then T.1 a b d else T.2 a b d}:=⟨(_,_),fun O O O O=>rfl⟩
theorem loZ (a b r) (x:Arr × Nat × Nat × Nat × Nat × Nat):Xj.1.2 a b (some r,x)=pure (.done (some r,x.1,x.2.1,x.2.2.1,x.2.2.2.1)):=rfl
theorem Xl (a b c r) (x:Arr × Nat × Nat × Nat × Nat):RU.1.2 a b c (some r,x)=pure (.done (some r,x.1,x.2.1,x.2.2.1,c.2.2.2.2)):=rfl
theorem RW (a b:Arr):∀d,d.2.2.2.2.1>1→RV.1.1 a b d=RV.1.2 a b (d.1,d.2.1,d.2.2.1,d.2.2.2.1,d.2.2.2.2.1 - 1,d.2.2.2.2.2):=fun ⟨_,_,_,_,m,_,_⟩ h=>by
 cases m with
 | zero=>exact nomatch h
 | succ m=>rfl
noncomputable def Z7:{T:Arr→Arr→C7→Option Nat→Ss (ForInStep C7) // ∀a b d,RV.1.2 a b d=(modify (setG d.2.2.2.2.1) >>= fun O=>elem' b d.2.2.2.1 >>= fun x=>dN false x a d.2.2.1 (a.size - d.2.2.1) 0 >>= T a b d)}:=⟨_,fun O O O=>rfl⟩
noncomputable def RT:{T:(Arr→Arr→C7→Nat→Ss (ForInStep C7)) × (Arr→Arr→C7→Nat→Ss (ForInStep C7)) // ∀a b d k,Z7.1 a b d (some k)=if k>0 then T.1 a b d k else T.2 a b d k}:=⟨(_,_),fun O O O O=>rfl⟩
noncomputable abbrev CZ (α:Type):=Arr→Arr→C7→Nat→α
noncomputable def loS:{Z:CZ (Arr × Nat × Nat × Nat × Nat × Nat) × CZ (Arr × Nat × Nat × Nat × Nat × Nat) // ∀a b d k,RT.1.1 a b d k=if (d.2.2.1+k+1 == a.size)=true then pure (.done (some (d.2.1++a.extract d.2.2.1 (d.2.2.1+k)++b.extract d.2.2.2.1 b.size++a.extract (d.2.2.1+k) a.size),Z.1 a b d k)) else if (d.2.2.1+k == a.size)=true then pure (.done (some (d.2.1++a.extract d.2.2.1 (d.2.2.1+k)++a.extract (d.2.2.1+k) a.size++b.extract d.2.2.2.1 b.size),Z.2 a b d k)) else RT.1.2 a b (d.1,d.2.1++a.extract d.2.2.1 (d.2.2.1+k),d.2.2.1+k,d.2.2.2) k}:=⟨(_,_),fun O O O O=>rfl⟩
noncomputable def Z8:{T:Arr→Arr→C7→Nat→Keyed→Ss (ForInStep C7) // ∀a b d k,RT.1.2 a b d k=(elem' b d.2.2.2.1 >>= T a b d k)}:=⟨_,fun O O O O=>rfl⟩
noncomputable def loV:{T:CZ (Keyed→Option Nat→Ss (ForInStep C7)) × CZ (Keyed→Arr × Nat × Nat × Nat × Nat × Nat) // ∀a b d k e,Z8.1 a b d k e=if (d.2.2.2.1+1 == b.size)=true then pure (.done (some (d.2.1.push e++a.extract d.2.2.1 a.size++b.extract (d.2.2.2.1+1) b.size),T.2 a b d k e)) else (elem' a d.2.2.1 >>= fun y=>dN true y b (d.2.2.2.1+1) (b.size - (d.2.2.2.1+1)) 0 >>= T.1 a b d k e)}:=⟨(_,_),fun O O O O O=>rfl⟩
section
variable {aab:Program} {w:World} {A:Around} {E:Value→Shared→Prop} {s:Shared} {st aC:SortSt} {P:Keyed→Prop} {a b o:Arr} {i k j m n:Nat}
theorem On.le (H:On P a b st m o i k aC) (h:n≤m):On P a b st n o i k aC:=⟨H.g,H.o,H.hi,H.hk,aN h H.hm⟩
theorem On.vC (H:On P a b st m o i k aC) (h:n≤i+k):On P a b st n o i k aC:=⟨H.g,H.o,H.hi,H.hk,h⟩
theorem On.full (h:a.size+b.size≤m) (H:On P a b st m o i k aC):False:=nF _ (fu (Nat.add_lt_add (wz H.hi) H.hk) (aN h H.hm))
theorem On.zj (H:On P a b st m o i k aC) (g:Nat):On P a b st m o i k (setG g aC):=⟨H.g.zj g,H.o,H.hi,H.hk,H.hm⟩
theorem On.pb (C:Mg P a b st) (H:On P a b st m o i k aC) (e:¬ (k+1 == b.size)=true):On P a b st (m+1) (o.push (b[k]'H.hk)) i (k+1) aC:=⟨H.g,H.o.push (C.B.get H.hk),H.hi,dy H.hk e,ew H.hm⟩
theorem On.pa (C:Mg P a b st) (H:On P a b st m o i k aC) (e:¬ (i+1+1 == a.size)=true):On P a b st (m+1) (o.push (a[i]'(wz H.hi))) (i+1) k aC:=⟨H.g,H.o.push (C.A.get _),dy H.hi e,H.hk,(Nat.succ_add i k).symm▸ew H.hm⟩
theorem On.xa (C:Mg P a b st) (H:On P a b st m o i k aC) (h:n≤a.size - i) (e1:¬ (i+n+1 == a.size)=true) (e2:¬ (i+n == a.size)=true):On P a b st m (o++a.extract i (i+n)) (i+n) k aC:=
 ⟨H.g,H.o.app (C.A.ex _ _),dy (dy (Nat.add_le_of_le_sub' (eu (wz H.hi)) h) e2) e1,H.hk,aN H.hm (iP (b9 _ _) _)⟩
theorem On.xb (C:Mg P a b st) (H:On P a b st m o i k aC) (h:n≤b.size - k) (e:¬ (k+n == b.size)=true):On P a b st m (o++b.extract k (k+n)) i (k+n) aC:=
 ⟨H.g,H.o.app (C.B.ex _ _),H.hi,dy (Nat.add_le_of_le_sub' (eu H.hk) h) e,aN H.hm (dA (b9 _ _) _)⟩
theorem On.done (C:Mg P a b st) (H:On P a b st m o i k aC) (u v x y:Nat):Fin P st (o++a.extract u v++b.extract x y) aC:=⟨H.g,(H.o.app (C.A.ex _ _)).app (C.B.ex _ _)⟩
theorem On.last (C:Mg P a b st) (H:On P a b st m o i k aC) (u v x y:Nat):Fin P st (o++b.extract u v++a.extract x y) aC:=⟨H.g,(H.o.app (C.B.ex _ _)).app (C.A.ex _ _)⟩
theorem On.i' (H:On P a b st m o i k aC):i<a.size:=wz H.hi
theorem On.pu (H:On P a b st m o i k aC) (h:P p):On P a b st m (o.push p) i k aC:=⟨H.g,H.o.push h,H.hi,H.hk,H.hm⟩
theorem On.ex (H:On P a b st m o i k aC) {p:Arr} (h:Al P p):On P a b st m (o++p) i k aC:=⟨H.g,H.o.app h,H.hi,H.hk,H.hm⟩
theorem room (h:k≤n):k+(n - k)≤n:=bT (wy h)
theorem CT (C:Mg P a b st) (H:On P a b st m x.1 x.2.1 x.2.2.1 aC) (hn:n≤m+1) :
  wpS (model aab w) A E s (RU.1.1 a b c j (none,x)) (Tn (fun y=>On P a b st (m+1) y.1 y.2.1 y.2.2.1) (fun y=>On P a b st n y.1 y.2.1 y.2.2.1) (Fin P st)) aC:=
 ag (loJ.2 ..) (a9 (aM H.hk (a9 (aM H.i' (a9 (tY (H.g.k.trans C.k) (C.hP _ (C.B.get _)) (C.hP _ (C.A.get _)) fun bw=>ak
  (fun O=>a9 (aM H.hk (ak (fun O=>bA ((H.pu (C.B.get _)).done C _ _ _ _)) fun e=>ak (fun O=>bA ((H.pb C e).le hn)) fun O=>bA ⟨rfl,H.pb C e⟩)))
  fun O=>a9 (aM H.i' (ak (fun O=>bA ((H.pu (C.A.get _)).last C _ _ _ _)) fun e=>ak (fun O=>bA ((H.pa C e).le hn)) fun O=>bA ⟨rfl,H.pa C e⟩))))))))
theorem xS (C:Mg P a b st) (H:On P a b st m x.1 x.2.1 x.2.2.1 aC) (hn:n≤m+1) :
  wpS (model aab w) A E s (RT.1.2 a b (r,x) k) (Tn (fun y=>On P a b st (m+1) y.1 y.2.1 y.2.2.1) (fun y=>On P a b st n y.1 y.2.1 y.2.2.1) (Fin P st)) aC:=
 ag (Z8.2 ..) (a9 (aM H.hk (ag (loV.2 ..) (ak (fun O=>bA ((H.pu (C.B.get _)).done C _ _ _ _)) fun e=>
  have H1:=H.pb C e
  a9 (aM H.i' (a9 (c9 (H.g.k.trans C.k) C.hP (C.A.get _) C.B (room H.hk) (uE H1.hk) fun n2 oS=>ak
   (fun O=>ak (fun O=>bA ((H1.ex (C.B.ex _ _)).done C _ _ _ _)) fun e4=>
    have H2:=H1.xb C oS e4
    a9 (aM H.i' (ak (fun O=>bA ((H2.pu (C.A.get _)).last C _ _ _ _)) fun e5=>ak (fun O=>bA ((H2.pa C e5).le (fS hn))) fun O=>bA ⟨rfl,(H2.pa C e5).le (hX _)⟩)))
   fun O=>a9 (aM H.i' (ak (fun O=>bA ((H1.pu (C.A.get _)).last C _ _ _ _)) fun e5=>ak (fun O=>bA ((H1.pa C e5).le (fS hn))) fun O=>bA ⟨rfl,(H1.pa C e5).le (hX _)⟩)))))))))
theorem th (C:Mg P a b st) (H:On P a b st m x.1 x.2.1 x.2.2.1 aC) (hn:n≤m+1) :
  wpS (model aab w) A E s (RV.1.2 a b (r,x)) (Tn (fun y=>On P a b st (m+1) y.1 y.2.1 y.2.2.1) (fun y=>On P a b st n y.1 y.2.1 y.2.2.1) (Fin P st)) aC:=
 ag (Z7.2 ..) (a9 (rp (a9 (aM H.hk (a9 (c9 (H.g.k.trans C.k) C.hP (C.B.get _) C.A (room (eu H.i')) (uE H.i') fun n2 oS=>ag (RT.2 ..) (ak
  (fun O=>ag (loS.2 ..) (ak (fun O=>bA (((H.zj _).ex (C.A.ex _ _)).last C _ _ _ _)) fun e1=>ak (fun O=>bA (((H.zj _).ex (C.A.ex _ _)).done C _ _ _ _)) fun e2=>xS C ((H.zj _).xa C oS e1 e2) hn))
  fun O=>xS C (H.zj _) hn)))))))
theorem HR {c:C5} (C:Mg P a b st) (H:On P a b st m c.2.1 c.2.2.1 c.2.2.2.1 aC):wpS (model aab w) A E s (Xk.1.1 a b j c) (Tn (fun y=>On P a b st (m+1) y.1 y.2.1 y.2.2.1) (fun O O=>False) (Fin P st)) aC:=by
 refine ag (RU.2 ..) (a9 (lp (Y:=fun j y=>On P a b st (c.2.2.1+c.2.2.2.1+j) y.1 y.2.1 y.2.2.1) (N:=fun y=>On P a b st (c.2.2.1+c.2.2.2.1) y.1 y.2.1 y.2.2.1) (F:=Fin P st) (H.vC (bz _)) (fun O O=>On.full (cJ _ _)) (fun j y iJ H2=>CT C H2 (fS (b9 _ _))) (fun y r iJ h=>ag (Xl ..) (bA h)) fun y iJ H2=> ?_))
 refine ag (Xj.2 ..) (a9 (wj (wo ⟨rfl,a9 (lp (Y:=fun j z=>On P a b st (y.2.1+y.2.2.1+j) z.1 z.2.1 z.2.2.1) (N:=fun z=>On P a b st (y.2.1+y.2.2.1+1) z.1 z.2.1 z.2.2.1) (F:=Fin P st) (H2.vC (bz _)) (fun O O=>On.full (cJ _ _)) ?_ (fun z r Ao h=>ag (loZ ..) (bA h)) ?_)⟩)))
 ·exact fun j z Ao H3=>ag (RV.2 ..) (ak (fun hg=>ag (RW _ _ _ hg) (th C H3 (ew (b9 _ _)))) fun O=>th C H3 (ew (b9 _ _)))
 ·exact fun z Ao H3=>a9 (rp (bA ⟨rfl,(H3.zj _).vC (aN (ew (aN H.hm H2.hm)) H3.hm)⟩))
theorem we {Q:Arr→SortSt→Prop} (C:Mg P a b st) (ha:0<a.size) (hb:0<b.size) (h:∀r aC,Fin P st r aC→Q r aC):wpS (model aab w) A E s (mX a b) Q st:=
 have hx:Al P #[b[0]]:=.one (C.B.get _)
 ag (Z9.2 ..) (a9 (wj (wo ⟨rfl,a9 (aM hb (ag (loY.2 ..) (ak
  (fun O=>bA (h _ _ ⟨.refl _,(hx.app (C.A.ex _ _)).app (C.B.ex _ _)⟩)) fun e1=>ak (fun O=>bA (h _ _ ⟨.refl _,(hx.app (C.B.ex _ _)).app (C.A.ex _ _)⟩)) fun e2=>
  ag (Xk.2 ..) (a9 (nA (a9 (lp (Y:=fun i y=>On P a b st (i+1) y.1 y.2.1 y.2.2.1) (N:=fun O O=>False) (F:=Fin P st) ⟨.refl _,hx,dy ha e2,dy hb e1,bz _⟩ (fun O O=>On.full (hX _))
   (fun i x gk H=>HR C H) (fun x r gk h'=>bA (h _ _ h')) fun O O h=>h.elim)))))))⟩)))
end
noncomputable abbrev H5:=Option Arr × Nat × Nat × Arr × Nat
noncomputable abbrev H6:=Option Arr × Nat × Nat × Arr × Nat × Nat
noncomputable abbrev H7:=Option Arr × Nat × Nat × Arr × Nat × Nat × Nat
noncomputable abbrev X6:=Nat × Nat × Arr × Nat × Nat
noncomputable abbrev X7:=Nat × Nat × Arr × Nat × Nat × Nat
noncomputable def vq (a b o:Arr) (na nb:Nat):Arr:=a.extract 0 na++b.extract 0 nb++o.reverse
noncomputable def qt (a b o:Arr) (na nb:Nat):Arr:=b.extract 0 nb++a.extract 0 na++o.reverse
noncomputable def ZE:{T:Arr→Arr→Keyed→Ss Arr // ∀a b,mW a b=(liftM (rule "list.sort.merge-hi") >>= fun O=>elem' a (a.size - 1) >>= fun x=>T a b x)}:=⟨_,fun O O=>rfl⟩
noncomputable def ZF:{T:Arr→Arr→Keyed→Ss Arr // ∀a b x,ZE.1 a b x=if (a.size - 1 == 0)=true then pure (vq a b #[x] (a.size - 1) b.size) else if (b.size == 1)=true then pure (qt a b #[x] (a.size - 1) b.size) else T a b x}:=⟨_,fun O O O=>rfl⟩
noncomputable def WC:{T:(Arr→Arr→Nat→H5→Ss (ForInStep H5)) × (Arr→Arr→H5→Ss Arr) // ∀a b x,ZF.1 a b x=(get >>= fun s=>forIn [:a.size+b.size] (none,a.size - 1,b.size, #[x],gallopOf s) (T.1 a b) >>= T.2 a b)}:=⟨(_,_),fun O O O=>rfl⟩
noncomputable def Q2:{T:(Arr→Arr→H5→Nat→H6→Ss (ForInStep H6)) × (Arr→Arr→H5→H6→Ss (ForInStep H5)) // ∀a b j c,WC.1.1 a b j c=(forIn [:a.size+b.size] (none,c.2.1,c.2.2.1,c.2.2.2.1,0,0) (T.1 a b c) >>= T.2 a b c)}:=⟨(_,_),fun O O O O=>rfl⟩
noncomputable def hiJ:{T:Arr→Arr→H5→H6→Option Bool→Ss (ForInStep H6) // ∀a b c j d,Q2.1.1 a b c j d=(elem' b (d.2.2.1 - 1) >>= fun x=>elem' a (d.2.1 - 1) >>= fun y=>lt' x y >>= T a b c d)}:=⟨_,fun O O O O O=>rfl⟩
noncomputable def WB:{T:(Arr→Arr→Nat→H7→Ss (ForInStep H7)) × (Arr→Arr→H7→Ss (ForInStep H5)) // ∀a b c x,Q2.1.2 a b c (none,x)=(liftM (rule "list.sort.gallop") >>= fun O=>forIn [:a.size+b.size] (none,x.1,x.2.1,x.2.2.1,c.2.2.2.2+1,x.2.2.2) (T.1 a b) >>= T.2 a b)}:=⟨(_,_),fun O O O O=>rfl⟩
theorem hiZ (a b r) (x:X7):WB.1.2 a b (some r,x)=pure (.done (some r,x.1,x.2.1,x.2.2.1,x.2.2.2.1)):=rfl
theorem WD (a b c r) (x:X6):Q2.1.2 a b c (some r,x)=pure (.done (some r,x.1,x.2.1,x.2.2.1,c.2.2.2.2)):=rfl
noncomputable def Q3:{T:(Arr→Arr→H7→Ss (ForInStep H7)) × (Arr→Arr→H7→Ss (ForInStep H7)) // ∀a b j d,WB.1.1 a b j d=if d.2.2.2.2.1>1 then T.1 a b d else T.2 a b d}:=⟨(_,_),fun O O O O=>rfl⟩
theorem Q4 (a b:Arr):∀d,d.2.2.2.2.1>1→Q3.1.1 a b d=Q3.1.2 a b (d.1,d.2.1,d.2.2.1,d.2.2.2.1,d.2.2.2.2.1 - 1,d.2.2.2.2.2):=fun ⟨_,_,_,_,m,_,_⟩ h=>by
 cases m with
 | zero=>exact nomatch h
 | succ m=>rfl
noncomputable def ZC:{T:Arr→Arr→H7→Option Nat→Ss (ForInStep H7) // ∀a b d,Q3.1.2 a b d=(modify (setG d.2.2.2.2.1) >>= fun O=>elem' b (d.2.2.1 - 1) >>= fun x=>dN false x a 0 d.2.1 (d.2.1 - 1) >>= T a b d)}:=⟨_,fun O O O=>rfl⟩
noncomputable abbrev HZ (α:Type):=Arr→Arr→H7→Nat→α
noncomputable def UW:{T:HZ (Ss (ForInStep H7)) × HZ (Ss (ForInStep H7)) // ∀a b d k,ZC.1 a b d (some k)=if d.2.1 - k>0 then T.1 a b d k else T.2 a b d k}:=⟨(_,_),fun O O O O=>rfl⟩
noncomputable def WA:{T:HZ (Keyed→Ss (ForInStep H7)) × HZ X7 // ∀a b d k,UW.1.1 a b d k=if (k == 0)=true then pure (.done (some (vq a b (d.2.2.2.1++(a.extract k d.2.1).reverse) k d.2.2.1),T.2 a b d k)) else (elem' b (d.2.2.1 - 1) >>= T.1 a b d k)}:=⟨(_,_),fun O O O O=>rfl⟩
noncomputable def ZD:{T:HZ (Keyed→Ss (ForInStep H7)) // ∀a b d k,UW.1.2 a b d k=(elem' b (d.2.2.1 - 1) >>= T a b d k)}:=⟨_,fun O O O O=>rfl⟩
noncomputable def hiU:{T:HZ (Keyed→Option Nat→Ss (ForInStep H7)) × HZ (Keyed→X7) // ∀a b d k e,WA.1.1 a b d k e=if (d.2.2.1 - 1 == 1)=true then pure (.done (some (qt a b ((d.2.2.2.1++(a.extract k d.2.1).reverse).push e) k (d.2.2.1 - 1)),T.2 a b d k e)) else (elem' a (k - 1) >>= fun y=>dN true y b 0 (d.2.2.1 - 1) (d.2.2.1 - 1 - 1) >>= T.1 a b d k e)}:=⟨(_,_),fun O O O O O=>rfl⟩
noncomputable def hiV:{T:HZ (Keyed→Option Nat→Ss (ForInStep H7)) × HZ (Keyed→X7) // ∀a b d k e,ZD.1 a b d k e=if (d.2.2.1 - 1 == 1)=true then pure (.done (some (qt a b (d.2.2.2.1.push e) d.2.1 (d.2.2.1 - 1)),T.2 a b d k e)) else (elem' a (d.2.1 - 1) >>= fun y=>dN true y b 0 (d.2.2.1 - 1) (d.2.2.1 - 1 - 1) >>= T.1 a b d k e)}:=⟨(_,_),fun O O O O O=>rfl⟩
structure Oh (P:Keyed→Prop) (a b:Arr) (st:SortSt) (m na nb:Nat) (o:Arr) (aC:SortSt):Prop where
 g:GS st aC
 o:Al P o
 ha:0<na
 la:na≤a.size
 hb:1<nb
 lb:nb≤b.size
 hm:m+(na+nb)≤a.size+b.size
theorem iE (e:¬ (n == 0)=true):0<n:=Nat.pos_of_ne_zero fun q=>e (beq_iff_eq.mpr q)
theorem vO (h:0<n) (e:¬ (n == 1)=true):1<n:=yx h fun q=>e (beq_iff_eq.mpr q.symm)
theorem pred_lt (h:0<n) (l:n≤m):n - 1<m:=fu (z8 h Nat.one_pos) l
theorem pred_le (l:n≤m):n - 1≤m:=aN (nE _ _) l
theorem sh1 (h:0<n):m+(n+k)=m+1+(n - 1+k):=by
 cases n with
 | zero=>cases h
 | succ n=>exact ((uF m 1 _).trans (aD (m+ ·) ((uF 1 n k).symm.trans (aD (· +k) (fy 1 n))))).symm
theorem sh2 (h:0<n):m+(k+n)=m+1+(k+(n - 1)):=by
 cases n with
 | zero=>cases h
 | succ n=>exact ((uF m 1 _).trans (aD (m+ ·) (fy 1 (k+n)))).symm
section
variable {aab:Program} {w:World} {A:Around} {E:Value→Shared→Prop} {s:Shared} {st aC:SortSt} {P:Keyed→Prop} {a b o:Arr} {na nb j m n k:Nat}
theorem Al.jh (C:Mg P a b st) (H:Al P o) (i k:Nat):Al P (vq a b o i k):=((C.A.ex _ _).app (C.B.ex _ _)).app H.rev
theorem Al.oR (C:Mg P a b st) (H:Al P o) (i k:Nat):Al P (qt a b o i k):=((C.B.ex _ _).app (C.A.ex _ _)).app H.rev
theorem Oh.le (H:Oh P a b st m na nb o aC) (h:n≤m):Oh P a b st n na nb o aC:=⟨H.g,H.o,H.ha,H.la,H.hb,H.lb,aN (iP h _) H.hm⟩
theorem Oh.full (h:a.size+b.size≤m) (H:Oh P a b st m na nb o aC):False:=nF _ (fu (ue (E8 H.ha nb)) (aN H.hm h))
theorem Oh.zj (H:Oh P a b st m na nb o aC) (g:Nat):Oh P a b st m na nb o (setG g aC):=⟨H.g.zj g,H.o,H.ha,H.la,H.hb,H.lb,H.hm⟩
theorem Oh.ia (H:Oh P a b st m na nb o aC):na - 1<a.size:=pred_lt H.ha H.la
theorem Oh.ib (H:Oh P a b st m na nb o aC):nb - 1<b.size:=pred_lt (wz H.hb) H.lb
theorem Oh.XC (H:Oh P a b st m na nb o aC):0<nb - 1:=uE H.hb
theorem Oh.pa (C:Mg P a b st) (H:Oh P a b st m na nb o aC) (e:¬ (na - 1 == 0)=true):Oh P a b st (m+1) (na - 1) nb (o.push (a[na - 1]'H.ia)) aC:=⟨H.g,H.o.push (C.A.get _),iE e,pred_le H.la,H.hb,H.lb,sh1 H.ha▸H.hm⟩
theorem Oh.pb (C:Mg P a b st) (H:Oh P a b st m na nb o aC) (e:¬ (nb - 1 == 1)=true):Oh P a b st (m+1) na (nb - 1) (o.push (b[nb - 1]'H.ib)) aC:=⟨H.g,H.o.push (C.B.get _),H.ha,H.la,vO H.XC e,pred_le H.lb,sh2 (wz H.hb)▸H.hm⟩
theorem Oh.xa (C:Mg P a b st) (H:Oh P a b st m na nb o aC) (h:n≤na) (e:¬ (n == 0)=true):Oh P a b st m n nb (o++(a.extract n na).reverse) aC:=
 ⟨H.g,H.o.app (C.A.ex _ _).rev,iE e,aN h H.la,H.hb,H.lb,aN (dA (iP h _) _) H.hm⟩
theorem Oh.xb (C:Mg P a b st) (H:Oh P a b st m na nb o aC) (h:n≤nb) (e1:¬ (n == 1)=true) (e:¬ (n == 0)=true):Oh P a b st m na n (o++(b.extract n nb).reverse) aC:=
 ⟨H.g,H.o.app (C.B.ex _ _).rev,H.ha,H.la,vO (iE e) e1,aN h H.lb,aN (dA (dA h _) _) H.hm⟩
theorem fm (h:n≤m):0+n≤m:=(rt n).symm▸h
abbrev UD (P:Keyed→Prop) (a b:Arr) (st:SortSt) (m n:Nat):ForInStep (Option Arr × Nat × Nat × Arr × ρ)→SortSt→Prop:=Tn (fun y=>Oh P a b st m y.1 y.2.1 y.2.2.1) (fun y=>Oh P a b st n y.1 y.2.1 y.2.2.1) (Fin P st)
theorem B8 (C:Mg P a b st) (H:Oh P a b st m x.1 x.2.1 x.2.2.1 aC) (hn:n≤m+1):wpS (model aab w) A E s (Q2.1.1 a b c j (none,x)) (UD P a b st (m+1) n) aC:=
 ag (hiJ.2 ..) (a9 (aM H.ib (a9 (aM H.ia (a9 (tY (H.g.k.trans C.k) (C.hP _ (C.B.get _)) (C.hP _ (C.A.get _)) fun bw=>ak
  (fun O=>a9 (aM H.ia (ak (fun O=>bA ⟨H.g,(H.o.push (C.A.get _)).jh C _ _⟩) fun e=>ak (fun O=>bA ((H.pa C e).le hn)) fun O=>bA ⟨rfl,H.pa C e⟩)))
  fun O=>a9 (aM H.ib (ak (fun O=>bA ⟨H.g,(H.o.push (C.B.get _)).oR C _ _⟩) fun e=>ak (fun O=>bA ((H.pb C e).le hn)) fun O=>bA ⟨rfl,H.pb C e⟩))))))))
theorem B6 (C:Mg P a b st) (H:Oh P a b st m x.1 x.2.1 x.2.2.1 aC) (hn:n≤m+1):wpS (model aab w) A E s (UW.1.2 a b (r,x) k) (UD P a b st (m+1) n) aC:=
 ag (ZD.2 ..) (a9 (aM H.ib (ag (hiV.2 ..) (ak (fun O=>bA ⟨H.g,(H.o.push (C.B.get _)).oR C _ _⟩) fun e=>
  have H1:=H.pb C e
  a9 (aM H.ia (a9 (c9 (H.g.k.trans C.k) C.hP (C.A.get _) C.B (fm H1.lb) (z8 H.XC Nat.one_pos) fun n2 oS=>ak
   (fun O=>ak (fun O=>bA ⟨H.g,(H1.o.app (C.B.ex _ _).rev).oR C _ _⟩) fun e1=>ak (fun O=>bA ⟨H.g,(H1.o.app (C.B.ex _ _).rev).jh C _ _⟩) fun e2=>
    have H2:=H1.xb C oS e1 e2
    a9 (aM H.ia (ak (fun O=>bA ⟨H.g,(H2.o.push (C.A.get _)).jh C _ _⟩) fun e5=>ak (fun O=>bA ((H2.pa C e5).le (fS hn))) fun O=>bA ⟨rfl,(H2.pa C e5).le (hX _)⟩)))
   fun O=>a9 (aM H.ia (ak (fun O=>bA ⟨H.g,(H1.o.push (C.A.get _)).jh C _ _⟩) fun e5=>ak (fun O=>bA ((H1.pa C e5).le (fS hn))) fun O=>bA ⟨rfl,(H1.pa C e5).le (hX _)⟩)))))))))
theorem B7 (C:Mg P a b st) (H:Oh P a b st m k x.2.1 (x.2.2.1++(a.extract k x.1).reverse) aC) (hn:n≤m+1):wpS (model aab w) A E s (elem' b (x.2.1 - 1) >>= WA.1.1 a b (r,x) k) (UD P a b st (m+1) n) aC:=
 a9 (aM H.ib (ag (hiU.2 ..) (ak (fun O=>bA ⟨H.g,(H.o.push (C.B.get _)).oR C _ _⟩) fun e=>
  have H1:=H.pb C e
  a9 (aM H.ia (a9 (c9 (H.g.k.trans C.k) C.hP (C.A.get _) C.B (fm H1.lb) (z8 H.XC Nat.one_pos) fun n2 oS=>ak
   (fun O=>ak (fun O=>bA ⟨H.g,(H1.o.app (C.B.ex _ _).rev).oR C _ _⟩) fun e1=>ak (fun O=>bA ⟨H.g,(H1.o.app (C.B.ex _ _).rev).jh C _ _⟩) fun e2=>
    have H2:=H1.xb C oS e1 e2
    a9 (aM H.ia (ak (fun O=>bA ⟨H.g,(H2.o.push (C.A.get _)).jh C _ _⟩) fun e5=>ak (fun O=>bA ((H2.pa C e5).le (fS hn))) fun O=>bA ⟨rfl,(H2.pa C e5).le (hX _)⟩)))
   fun O=>a9 (aM H.ia (ak (fun O=>bA ⟨H.g,(H1.o.push (C.A.get _)).jh C _ _⟩) fun e5=>ak (fun O=>bA ((H1.pa C e5).le (fS hn))) fun O=>bA ⟨rfl,(H1.pa C e5).le (hX _)⟩))))))))
theorem sN (C:Mg P a b st) (H:Oh P a b st m x.1 x.2.1 x.2.2.1 aC) (hn:n≤m+1):wpS (model aab w) A E s (Q3.1.2 a b (r,x)) (UD P a b st (m+1) n) aC:=
 ag (ZC.2 ..) (a9 (rp (a9 (aM H.ib (a9 (c9 (H.g.k.trans C.k) C.hP (C.B.get _) C.A (fm H.la) (z8 H.ha Nat.one_pos) fun n2 oS=>ag (UW.2 ..) (ak
  (fun O=>ag (WA.2 ..) (ak (fun O=>bA ⟨H.g.zj _,(H.o.app (C.A.ex _ _).rev).jh C _ _⟩) fun e1=>B7 C ((H.zj _).xa C oS e1) hn))
  fun O=>B6 C (H.zj _) hn)))))))
theorem Hd (C:Mg P a b st) (H:Oh P a b st m c.2.1 c.2.2.1 c.2.2.2.1 aC):wpS (model aab w) A E s (WC.1.1 a b j c) (Tn (fun y=>Oh P a b st (m+1) y.1 y.2.1 y.2.2.1) (fun O O=>False) (Fin P st)) aC:=by
 refine ag (Q2.2 ..) (a9 (lp (Y:=fun j y=>Oh P a b st (m+j) y.1 y.2.1 y.2.2.1) (N:=fun y=>Oh P a b st m y.1 y.2.1 y.2.2.1) (F:=Fin P st) H (fun O O=>Oh.full (cJ _ _)) (fun j y iJ H2=>B8 C H2 (fS (b9 _ _))) (fun y r iJ h=>ag (WD ..) (bA h)) fun y iJ H2=> ?_))
 refine ag (WB.2 ..) (a9 (wj (wo ⟨rfl,a9 (lp (Y:=fun j z=>Oh P a b st (m+j) z.1 z.2.1 z.2.2.1) (N:=fun z=>Oh P a b st (m+1) z.1 z.2.1 z.2.2.1) (F:=Fin P st) H2 (fun O O=>Oh.full (cJ _ _)) ?_ (fun z r Ao h=>ag (hiZ ..) (bA h)) ?_)⟩)))
 ·exact fun j z Ao H3=>ag (Q3.2 ..) (ak (fun hg=>ag (Q4 _ _ _ hg) (sN C H3 (ew (b9 _ _)))) fun O=>sN C H3 (ew (b9 _ _)))
 ·exact fun z Ao H3=>a9 (rp (bA ⟨rfl,H3.zj _⟩))
theorem wd (C:Mg P a b st) (ha:0<a.size) (hb:0<b.size) (h:∀r aC,Fin P st r aC→Q r aC):wpS (model aab w) A E s (mW a b) Q st:=
 have J1:a.size - 1<a.size:=z8 ha Nat.one_pos
 have hx:Al P #[a[a.size - 1]]:=.one (C.A.get _)
 ag (ZE.2 ..) (a9 (wj (wo ⟨rfl,a9 (aM J1 (ag (ZF.2 ..) (ak
  (fun O=>bA (h _ _ ⟨.refl _,hx.jh C _ _⟩)) fun e1=>ak (fun O=>bA (h _ _ ⟨.refl _,hx.oR C _ _⟩)) fun e2=>
  ag (WC.2 ..) (a9 (nA (a9 (lp (Y:=fun i y=>Oh P a b st i y.1 y.2.1 y.2.2.1) (N:=fun O O=>False) (F:=Fin P st) ⟨.refl _,hx,iE e1,nE _ _,vO hb e2,bz _,fm (iP (nE _ _) _)⟩ (fun O O=>Oh.full (bz _))
   (fun i x gk H=>Hd C H) (fun x r gk h'=>bA (h _ _ h')) fun O O h=>h.elim)))))))⟩)))
end
noncomputable abbrev C2:=Option (Option Nat) × Nat
noncomputable abbrev C3:=Option (Option Nat) × Nat × Nat
noncomputable def Zk:{T:(Nat→Nat→C2→Ss (ForInStep C2)) × (Nat→Nat→C2→Ss (Option Nat)) // ∀lo bt,countRun' lo bt=(forIn [1:bt] (none,1) (T.1 lo) >>= T.2 lo bt)}:=⟨(_,_),fun O O=>countRun'_eq _ _⟩
noncomputable def P4:{T:(Nat→Nat→Nat→Ss (Option Nat)) × (Nat→Nat→Nat→Ss (Option Nat)) // ∀lo bt n,Zk.1.2 lo bt (none,n)=if (n == bt)=true then pure (some n) else if n>1 then T.1 lo bt n else T.2 lo bt n}:=⟨(_,_),fun O O O=>rfl⟩
noncomputable def Zl:{K:Nat→Nat→Nat→Option Bool→Ss (Option Nat) // ∀lo bt n,P4.1.1 lo bt n=(ltAt' lo (lo+n - 1) >>= K lo bt n)}:=⟨_,fun O O O=>rfl⟩
theorem P5 (lo bt n:Nat) (b:Bool):Zl.1 lo bt n (some b)=if b=true then pure (some n) else reverseSlice' lo (lo+n) >>= fun O=>P4.1.2 lo bt n:=by cases b <;> rfl
noncomputable def VS:{T:(Nat→Nat→C3→Ss (ForInStep C3)) × (Nat→Nat→C3→Ss (Option Nat)) // ∀lo bt n,P4.1.2 lo bt n=(liftM (rule "list.sort.descending-run") >>= fun O=>forIn [n+1:bt] (none,n+1,0) (T.1 lo) >>= T.2 lo bt)}:=⟨(_,_),fun O O O=>rfl⟩
noncomputable def VT:{K:Nat→Nat→Nat→Option Bool→Ss (ForInStep C3) // ∀lo i n q,VS.1.1 lo i (none,n,q)=(ltAt' (lo+n) (lo+n - 1) >>= K lo n q)}:=⟨_,fun O O O O=>rfl⟩
noncomputable def Zm:{K:Nat→Nat→Nat→Option Bool→Ss (ForInStep C3) // ∀lo n q,VT.1 lo n q (some false)=(ltAt' (lo+n - 1) (lo+n) >>= K lo n q)}:=⟨_,fun O O O=>rfl⟩
theorem P6 (lo n q:Nat) (b:Bool):VT.1 lo n q (some b)=if b=true then (if q>0 then (reverseSlice' (lo+n - (q+1)) (lo+n) >>= fun O=>pure (.yield (none,n+1,0))) else pure (.yield (none,n+1,0))) else (ltAt' (lo+n - 1) (lo+n) >>= Zm.1 lo n q):=by cases b <;> rfl
theorem P7 (lo n q:Nat) (b:Bool):Zm.1 lo n q (some b)=if b=true then pure (.done (none,n,q)) else pure (.yield (none,n+1,q+1)):=by cases b <;> rfl
noncomputable def UK:{T:Nat→Nat→Nat→Nat→Ss (Option Nat) // ∀lo bt n q,VS.1.2 lo bt (none,n,q)=if q>0 then (reverseSlice' (lo+n - (q+1)) (lo+n) >>= fun O=>T lo bt n q) else T lo bt n q}:=⟨_,fun O O O O=>rfl⟩
noncomputable def crE:{T:(Nat→Nat→Nat→Nat→Nat→C2→Ss (ForInStep C2)) × (C2→Ss (Option Nat)) // ∀lo bt n q,UK.1 lo bt n q=(reverseSlice' lo (lo+n) >>= fun O=>forIn [n:bt] (none,n) (T.1 lo bt n q) >>= T.2)}:=⟨(_,_),fun O O O O=>rfl⟩
structure gc (P:Keyed→Prop) (N:Nat) (st:SortSt):Prop where
 k:kindOf st=oneType'
 f:failedOf st=none
 n:(arrOf st).size=N
 m:Al P (arrOf st)
def Vz (lo:Nat) (f:Nat→C2→Ss (ForInStep C2)):Prop:=∀i m,∃K:Option Bool→Ss (ForInStep C2),f i (none,m)=(ltAt' (lo+m) (lo+m - 1) >>= K)∧∀b,K (some b)=if b=true then pure (.done (none,m)) else pure (.yield (none,m+1))
theorem ix {lo m n N:Nat} (h:lo+n≤N) (l:m<n):lo+m<N:=fu (wx l lo) h
theorem U9 {lo m n N:Nat} (h:lo+n≤N) (l:m<n):lo+m - 1<N:=cY (nE _ _) (ix h l)
section
variable {aab:Program} {w:World} {A:Around} {E:Value→Shared→Prop} {s:Shared} {st aC:SortSt} {P:Keyed→Prop} {N lo n bt:Nat}
theorem gc.arr (W:gc P N st) (h:xs.Perm (arrOf st)):gc P N (setArr st xs):=⟨W.k,W.f,h.size_eq.trans W.n,fun p hp=>W.m p ((Array.perm_iff_toList_perm.mp h).mem_iff.mp hp)⟩
theorem jv (h0:∀p,P p→KI p) (W:gc P N st) (hi:i<N) (hj:j<N) (h:∀b,Q (some b) st):wpS (model aab w) A E s (ltAt' i j) Q st:=
 ag (ltAt'_eq i j) (a9 (nA (a9 (aM (W.n.symm▸hi) (a9 (aM (W.n.symm▸hj) (tY W.k (h0 _ (W.m.get _)) (h0 _ (W.m.get _)) h)))))))
theorem nk (W:gc P N st) (h:∀aC,gc P N aC→pendingOf aC=pendingOf st→Q () aC):wpS (model aab w) A E s (reverseSlice' i j) Q st:=
 ag (reverseSlice'_eq i j) (rp (h _ (W.arr (mirror_perm _ _ _ _)) rfl))
theorem yp {f:Nat→C2→Ss (ForInStep C2)} {Q:C2→SortSt→Prop} (h0:∀p,P p→KI p) (W:gc P N st) (hl:lo+bt≤N) (h1:1≤n) (hn:n≤bt) (hf:Vz lo f)
  (h:∀m,n≤m→m≤bt→Q (none,m) st):wpS (model aab w) A E s (forIn [n:bt] (none,n) f) Q st:=
 wk (I:=fun i c aC=>st=aC∧c=(none,i)∧n≤i) (fun i c aC hi oQ z=>z.1▸z.2.1▸(hf i i).elim fun K e=>ag e.1 (a9 (jv h0 W (ix hl oQ) (U9 hl oQ) fun b=>ag (e.2 b)
  (ak (fun O=>bA (h _ hi (eu oQ))) fun O=>bA ⟨rfl,rfl,fS hi⟩))))
  (fun c aC z=>z.1▸z.2.1▸h _ z.2.2 (bT (yy hn))) ⟨rfl,rfl,bz _⟩
theorem qh (h0:∀p,P p→KI p) (hl:lo+bt≤N) (W:gc P N st) (h1:1≤n) (hn:n≤bt) (h:∀m aC,1≤m→m≤bt→gc P N aC→pendingOf aC=pendingOf st→Q (some m) aC):wpS (model aab w) A E s (UK.1 lo bt n q) Q st:=
 ag (crE.2 ..) (a9 (nk W fun iJ W2 Ah=>a9 (yp h0 W2 hl h1 hn (fun i m=>⟨_,rfl,fun b=>by cases b <;> rfl⟩) fun m hm Ag=>bA (h _ _ (aN h1 hm) Ag W2 Ah))))
theorem xk {Q:Option Nat→SortSt→Prop} (h0:∀p,P p→KI p) (hl:lo+bt≤N) (W:gc P N st) (hn:n<bt) (h:∀m aC,1≤m→m≤bt→gc P N aC→pendingOf aC=pendingOf st→Q (some m) aC):wpS (model aab w) A E s (P4.1.2 lo bt n) Q st:=
 ag (VS.2 ..) (a9 (wj (wo ⟨rfl,a9 (wk (I:=fun i (c:C3) iJ=>c.1=none∧c.2.1=i∧gc P N iJ∧pendingOf iJ=pendingOf st)
  (fun i c iJ hi oQ z=>
   have ec:c=(none,i,c.2.2):=jZ z.1 (jZ z.2.1 rfl)
   ec▸ag (VT.2 ..) (a9 (jv h0 z.2.2.1 (ix hl oQ) (U9 hl oQ) fun b=>ag (P6 ..) (ak
    (fun O=>ak (fun O=>a9 (nk z.2.2.1 fun Ao W3 Ai=>bA ⟨rfl,rfl,W3,Ai.trans z.2.2.2⟩)) fun O=>bA ⟨rfl,rfl,z.2.2⟩)
    fun O=>a9 (jv h0 z.2.2.1 (U9 hl oQ) (ix hl oQ) fun b=>ag (P7 ..) (ak
     (fun O=>bA (ag (UK.2 ..) (ak (fun O=>a9 (nk z.2.2.1 fun Ao W3 Ai=>qh h0 hl W3 (aN (cJ 1 n) hi) (eu oQ) fun m aC a b c d=>h m aC a b c ((d.trans Ai).trans z.2.2.2))) fun O=>qh h0 hl z.2.2.1 (aN (cJ 1 n) hi) (eu oQ) fun m aC a b c d=>h m aC a b c (d.trans z.2.2.2))))
     fun O=>bA ⟨rfl,rfl,z.2.2⟩))))))
  (fun c iJ z=>
   have e2:c.2.1=bt:=z.2.1.trans (yy hn)
   have ec:c=(none,bt,c.2.2):=jZ z.1 (jZ e2 rfl)
   ec▸ag (UK.2 ..) (ak (fun O=>a9 (nk z.2.2.1 fun Ao W3 Ai=>qh h0 hl W3 (aN (cJ 1 n) hn) (bz _) fun m aC a b c d=>h m aC a b c ((d.trans Ai).trans z.2.2.2))) fun O=>qh h0 hl z.2.2.1 (aN (cJ 1 n) hn) (bz _) fun m aC a b c d=>h m aC a b c (d.trans z.2.2.2))) ⟨rfl,rfl,W,rfl⟩)⟩)))
theorem tX {Q:Option Nat→SortSt→Prop} (h0:∀p,P p→KI p) (W:gc P N st) (hl:lo+bt≤N) (h1:1≤bt) (h:∀m aC,1≤m→m≤bt→gc P N aC→pendingOf aC=pendingOf st→Q (some m) aC) :
  wpS (model aab w) A E s (countRun' lo bt) Q st:=
 ag (Zk.2 ..) (a9 (yp h0 W hl (bz _) h1 (fun i m=>⟨_,rfl,fun b=>by cases b <;> rfl⟩) fun n hn mL=>ag (P4.2 ..) (ak (fun O=>bA (h _ _ hn mL W rfl)) fun e=>
  have cu:=dy mL e
  ak (fun O=>ag (Zl.2 ..) (a9 (jv h0 W (cY (b9 lo n) (ix hl cu)) (U9 hl cu) fun b=>ag (P5 ..) (ak (fun O=>bA (h _ _ hn mL W rfl))
   fun O=>a9 (nk W fun Ao W3 Ai=>xk h0 hl W3 cu fun m aC a b c d=>h m aC a b c (d.trans Ai)))))) fun O=>xk h0 hl W cu h)))
end
noncomputable abbrev B2:=Option Bool × Nat × Nat
noncomputable def PQ:{T:(Nat→Nat→Option Bool × Unit→Ss (ForInStep (Option Bool × Unit))) × (Option Bool × Unit→Ss Bool) // ∀lo n ok,binarySort' lo n ok=(forIn [max ok 1:n] (none,()) (T.1 lo) >>= T.2)}:=⟨(_,_),fun O O O=>binarySort'_eq _ _ _⟩
noncomputable def VI:{T:(Nat→Nat→Nat→B2→Ss (ForInStep B2)) × (Nat→Nat→B2→Ss (ForInStep (Option Bool × Unit))) // ∀lo k,PQ.1.1 lo k (none,())=(forIn [0:k] (none,0,k) (T.1 lo k) >>= T.2 lo k)}:=⟨(_,_),fun O O=>rfl⟩
noncomputable def bsC:{T:Nat→Nat→B2→Option Bool→Ss (ForInStep B2) // ∀lo k j x,VI.1.1 lo k j x=if x.2.1 ≥ x.2.2 then pure (.done (none,x.2)) else (ltAt' (lo+k) (lo+(x.2.1+x.2.2) / 2) >>= T lo k x)}:=⟨_,fun O O O O=>rfl⟩
theorem bsD (lo k x):VI.1.2 lo k (none,x)=(moveDown' (lo+k) (lo+x.1) >>= fun O=>pure (.yield (none,()))):=rfl
theorem bsE:PQ.1.2 (none,())=pure true:=rfl
section
variable {aab:Program} {w:World} {A:Around} {E:Value→Shared→Prop} {s:Shared} {st aC:SortSt} {P:Keyed→Prop} {N lo n bt:Nat}
theorem Dm (h:¬ l ≥ r) (hr:r≤k):(l+r) / 2<k:=fu (Nat.div_lt_of_lt_mul ((Nat.two_mul r).symm▸Nat.add_lt_add_right (ud h) r)) hr
theorem ot (h0:∀p,P p→KI p) (W:gc P N st) (hl:lo+n≤N) (h:∀aC,gc P N aC→pendingOf aC=pendingOf st→Q true aC):wpS (model aab w) A E s (binarySort' lo n ok) Q st:=
 ag (PQ.2 ..) (a9 (wk (I:=fun O c iJ=>c.1=none∧gc P N iJ∧pendingOf iJ=pendingOf st) (fun k c iJ O hk z=>
  ag ((aD (PQ.1.1 lo k) (jZ z.1 rfl:c=(none,()))).trans (VI.2 ..)) (a9 (RZ (Y:=fun x:Nat × Nat=>x.2≤k) (bz _)
   (fun j x hx=>ag (bsC.2 ..) (ak (fun O=>bA ⟨rfl,rfl,hx⟩) fun cu=>a9 (jv h0 z.2.1 (ix hl hk) (ix hl (cV (Dm cu hx) hk)) fun b=>ak (fun O=>bA ⟨rfl,rfl,eu (Dm cu hx)⟩) fun O=>bA ⟨rfl,rfl,hx⟩)))
   fun x hx=>ag (bsD ..) (a9 (ag (moveDown'_eq ..) (rp (bA ⟨rfl,z.2.1.arr (bubble_perm _ _ _),z.2.2⟩)))))))
  (fun c iJ z=>ag ((aD PQ.1.2 (jZ z.1 rfl:c=(none,()))).trans bsE) (bA (h _ z.2.1 z.2.2))) ⟨rfl,W,rfl⟩))
theorem BL {c:Nat} {l:List (Keyed × Nat)}:∀ {xs:Arr},Al P xs→(∀q∈l,P q.1)→(l.foldl (fun a q=>a.setIfInBounds (c+q.2) q.1) xs).size=xs.size∧Al P (l.foldl (fun a q=>a.setIfInBounds (c+q.2) q.1) xs):=by
 induction l with
 | nil=>exact fun h O=>⟨rfl,h⟩
 | cons q l ih=>exact fun {xs} h hl=>(ih (xs:=xs.setIfInBounds (c+q.2) q.1) (fun p hp=>(List.mem_or_eq_of_mem_set (Array.toList_setIfInBounds▸hp)).elim (h p) fun e=>e▸hl q (.head _)) fun p hp=>hl p (.tail _ hp)).imp (fun e=>e.trans Array.size_setIfInBounds) id
theorem Jk (h:Q ⟨⟩ x):wpS M A E s (set x:Ss PUnit) Q st:=by
 unfold wpS;rw [StateT.run_set];exact wpAny_pure ⟨rfl,h⟩
noncomputable abbrev Vy:=Array (Nat × Nat × Nat)
noncomputable def NK (n0 p0 n1 p1:Nat):Vy:= #[(0,n0,p0),(n0,n1,p1)]
noncomputable def Xr:{T:SortSt→Ss Bool // mergeAt' 0=(get >>= T)}:=⟨_,rfl⟩
noncomputable def maB:{T:SortKind→Arr→Nat→Option Value→Nat→Nat→Nat→Nat→Option Nat→Ss Bool // ∀k a g f n0 p0 n1 p1,Xr.1 (SortSt.mk' k a (NK n0 p0 n1 p1) g f)=(set (SortSt.mk' k a (((NK n0 p0 n1 p1).setIfInBounds 0 (0,n0+n1,p0)).eraseIdxIfInBounds 1) g f) >>= fun O=>elem' a n0 >>= fun x=>dN false x a 0 n0 0 >>= T k a g f n0 p0 n1 p1)}:=⟨_,fun O O O O O O O O=>rfl⟩
noncomputable def maC:{T:SortKind→Arr→Nat→Option Value→Nat→Nat→Nat→Nat→Nat→Option Nat→Ss Bool // ∀k a g f n0 p0 n1 p1 m,maB.1 k a g f n0 p0 n1 p1 (some m)=if (n0 - m == 0)=true then pure true else (elem' a (0+m+(n0 - m) - 1) >>= fun x=>dN true x a n0 n1 (n1 - 1) >>= T k a g f n0 p0 n1 p1 m)}:=⟨_,fun O O O O O O O O O=>rfl⟩
noncomputable def Ve:{T:Nat→Arr→Ss Bool // ∀k a g f n0 p0 n1 p1 m n,maC.1 k a g f n0 p0 n1 p1 m (some n)=if (n == 0)=true then pure true else if n0 - m≤n then (mX (a.extract (0+m) n0) (a.extract n0 (n0+n)) >>= T m) else (mW (a.extract (0+m) n0) (a.extract n0 (n0+n)) >>= T m)}:=⟨_,fun O O O O O O O O O O=>rfl⟩
theorem R5 (m:Nat) (xs:Arr):Ve.1 m xs=(modify (fun s=>setArr s (xs.toList.zipIdx.foldl (fun a q=>a.setIfInBounds (0+m+q.2) q.1) (arrOf s))) >>= fun O=>get >>= fun s=>pure (failedOf s).isNone):=rfl
theorem DE (n0 p0 n1 p1:Nat):((NK n0 p0 n1 p1).setIfInBounds 0 (0,n0+n1,p0)).eraseIdxIfInBounds 1= #[(0,n0+n1,p0)]:=by simp [NK]
theorem pn (st:SortSt) (h:pendingOf st=p):st=SortSt.mk' (kindOf st) (arrOf st) p (gallopOf st) (failedOf st):=h▸rfl
theorem BF {a:Arr} {i j:Nat} (h:i<j) (l:j≤a.size):0<(a.extract i j).size:=by
 rw [Array.size_extract,Nat.min_eq_left l];exact uE h
theorem Nv {m:Nat} {r:Arr} {gk:SortSt} {Q:Bool→SortSt→Prop} (W:gc P N gk) (F:Fin P gk r aC) (h:∀aC,gc P N aC→pendingOf aC=pendingOf gk→Q true aC):wpS (model aab w) A E s (Ve.1 m r) Q aC:=
 have f:=BL (c:=0+m) (l:=r.toList.zipIdx) (F.1.a▸W.m:Al P (arrOf aC)) fun q hq=>F.2 q.1 ((List.zipIdx_map_fst 0 r.toList)▸ru hq)
 have hf:=F.1.f.trans W.f
 ag (R5 ..) (a9 (rp (a9 (nA (bA ((aD Option.isNone hf:(failedOf aC).isNone=true)▸h _ ⟨F.1.k.trans W.k,hf,f.1.trans ((aD Array.size F.1.a).trans W.n),f.2⟩ F.1.p))))))
theorem wc {n0 n1 p0 p1:Nat} {Q:Bool→SortSt→Prop} (h0:∀p,P p→KI p) (W:gc P N st) (hp:pendingOf st=NK n0 p0 n1 p1) (h1:0<n0) (h2:0<n1) (hn:n0+n1≤N) (h:∀aC,gc P N aC→pendingOf aC= #[(0,n0+n1,p0)]→Q true aC) :
  wpS (model aab w) A E s (mergeAt' 0) Q st:=
 have W':gc P N (SortSt.mk' (kindOf st) (arrOf st) #[(0,n0+n1,p0)] (gallopOf st) (failedOf st)):=⟨W.k,W.f,W.n,W.m⟩
 have ln:n0+n1≤(arrOf st).size:=W.n.symm▸hn
 have e0:n0<(arrOf st).size:=fu (ue h2) ln
 have K1:∀ {m r aC},Fin P (SortSt.mk' (kindOf st) (arrOf st) #[(0,n0+n1,p0)] (gallopOf st) (failedOf st)) r aC→wpS (model aab w) A E s (Ve.1 m r) Q aC:=fun F=>Nv W' F h
 by
 refine ag Xr.2 (a9 (nA (ag ((aD Xr.1 (pn st hp)).trans (maB.2 ..)) (a9 (Jk ((aD (SortSt.mk' _ _ · _ _) (DE n0 p0 n1 p1)).symm▸a9 (aM e0 (a9 (c9 W'.k h0 (W.m.get e0) W.m (fm (eu e0)) h1 fun m hm=> ?_)))))))))
 refine ag (maC.2 ..) (ak (fun O=>bA (h _ W' rfl)) fun e=> ?_)
 have cu:m<n0:=Nat.lt_of_sub_pos (iE e)
 have e1:0+m+(n0 - m) - 1<(arrOf st).size:=pred_lt (fu (iE e) (cJ _ _)) ((rt m).symm▸(wy hm).symm▸eu e0)
 refine a9 (aM e1 (a9 (c9 W'.k h0 (W.m.get e1) W.m ln (z8 h2 Nat.one_pos) fun n mL=>ag (Ve.2 ..) (ak (fun O=>bA (h _ W' rfl)) fun e2=> ?_))))
 have s1:0<((arrOf st).extract (0+m) n0).size:=BF ((rt m).symm▸cu) (eu e0)
 have s2:0<((arrOf st).extract n0 (n0+n)).size:=BF (ue (iE e2)) (aN (dA mL _) ln)
 exact ak (fun O=>a9 (we ⟨W'.k,h0,W.m.ex _ _,W.m.ex _ _⟩ s1 s2 fun r aC=>K1)) fun O=>a9 (wd ⟨W'.k,h0,W.m.ex _ _,W.m.ex _ _⟩ s1 s2 fun r aC=>K1)
end
noncomputable abbrev O1:=Option Unit × Unit
noncomputable abbrev O2:=Option Unit × Nat
noncomputable abbrev zN (z:SortSt):Nat:=(arrOf z).size
noncomputable abbrev zM (z:SortSt):Nat:=minRun' (arrOf z).size (arrOf z).size 0
noncomputable def Ou:{T:SortSt→(Nat→O2→Ss (ForInStep O2)) × (O2→Ss Unit) // sortRuns'=(get >>= fun s=>forIn [0:(arrOf s).size] ((none,0):O2) (T s).1 >>= (T s).2)}:=⟨fun s=>(_,_),rfl⟩
noncomputable def YI:{T:SortSt→Nat→Option Nat→Ss (ForInStep O2) // ∀z x lo,(Ou.1 z).1 x (none,lo)=if lo ≥ zN z then pure (.done (none,lo)) else (countRun' lo (zN z - lo) >>= T z lo)}:=⟨_,fun O O O=>rfl⟩
noncomputable def IP:{T:(SortSt→Nat→Bool→Ss (ForInStep O2)) × (SortSt→Nat→Nat→SortSt→Ss (ForInStep O2)) // ∀z lo n,YI.1 z lo (some n)=if n<zM z then (liftM (rule "list.sort.binary-insertion") >>= fun O=>binarySort' lo (min (zN z - lo) (zM z)) n >>= T.1 z lo) else (get >>= T.2 z lo n)}:=⟨(_,_),fun O O O=>rfl⟩
theorem TP (z lo):IP.1.1 z lo true=(get >>= IP.1.2 z lo (min (zN z - lo) (zM z))):=rfl
noncomputable def uT (lo n:Nat):Ss (ForInStep O2):=modify (fun s=>setPending s ((pendingOf s).push (lo,n,0))) >>= fun O=>pure (.yield (none,lo+n))
theorem YJ (z lo n k a g f):IP.1.2 z lo n (SortSt.mk' k a #[] g f)=uT lo n:=rfl
theorem YK (z lo n k a g f n0 p0):∃F K K2 pw,IP.1.2 z lo n (SortSt.mk' k a #[(0,n0,p0)] g f)=(forIn [0:zN z] ((none,()):O1) F >>= K)∧(∀x,F x (none,())=(get >>= K2))∧(∀k a g f,K2 (SortSt.mk' k a #[(0,n0,p0)] g f)=pure (.done (none,())))∧K (none,())=(modify (fun s=>setPending s ((pendingOf s).modify ((pendingOf s).size - 1) fun (st,len,_)=>(st,len,pw))) >>= fun O=>uT lo n):=⟨_,_,_,_,rfl,fun O=>rfl,fun O O O O=>rfl,rfl⟩
theorem srE (z:SortSt) (c:Nat):∃F K K2,(Ou.1 z).2 (none,c)=(forIn [0:zN z] ((none,()):O1) F >>= K)∧(∀x,F x (none,())=(get >>= K2))∧(∀k a g f n0 p0,K2 (SortSt.mk' k a #[(0,n0,p0)] g f)=pure (.done (none,())))∧(∀k a g f n0 p0 n1 p1,∃K3:Bool→Ss (ForInStep O1),K2 (SortSt.mk' k a (NK n0 p0 n1 p1) g f)=(mergeAt' 0 >>= K3)∧K3 true=pure (.yield (none,())))∧K (none,())=pure ():=⟨_,_,_,rfl,fun O=>rfl,fun O O O O O O=>rfl,fun O O O O O O O O=>⟨_,rfl,rfl⟩,rfl⟩
theorem R7 (h:2≤N) (h':N≤127):minRun' N N 0≤N∧N≤2*minRun' N N 0:=by
 cases N with
 | zero=>cases h
 | succ f=>cases f with
  | zero=>exact absurd h (by decide)
  | succ f=>
   rw [minRun'_succ]
   by_cases hc:f+2<64
   ·rw [bE hc];exact ⟨bz _,uf _ z9⟩
   ·rw [aW hc,minRun'_succ,bE (Nat.div_lt_of_lt_mul (E9 h')),yy (et _)]
    have e:=Nat.div_add_mod (f+2) 2
    generalize (f+2) / 2=a at e ⊢
    generalize (f+2) % 2=b at e ⊢
    exact ⟨e▸iP (uf _ z9) _,e▸(ug 2 a b).symm▸dA (uf _ z9) _⟩
def RE (N:Nat) (st:SortSt):Prop:=(∃n p0,pendingOf st= #[(0,n,p0)])∨∃n0 p0 p1,pendingOf st=NK n0 p0 (N - n0) p1∧0<n0∧n0<N
def RI (N m x lo:Nat) (st:SortSt):Prop:=(pendingOf st= #[]∧x=0∧lo=0)∨(∃p0,pendingOf st= #[(0,lo,p0)]∧x=1∧0<lo∧m≤lo∧lo<N)∨lo=N∧RE N st
theorem DU (e:l=0) (hx:x=0) (hp:pendingOf gk= #[]) (Ah:pendingOf iJ=(pendingOf gk).push (l,n,0)) (hm:m≤N) (hn:1≤n) (mL:min (N - l) m≤n) (oS:n≤N - l):RI N m (x+1) (l+n) iJ:=by
 rw [e] at Ah mL oS ⊢
 rw [hx,rt n]
 have Ai:=Ah.trans (aD (·.push (0,n,0)) hp)
 exact (Nat.lt_or_eq_of_le oS).elim (fun hl=>.inr (.inl ⟨_,Ai,rfl,hn,aN (Nat.le_min.mpr ⟨hm,bz _⟩) mL,hl⟩)) fun e=>.inr (.inr ⟨e,.inl ⟨_,_,Ai⟩⟩)
section
variable {aab:Program} {w:World} {A:Around} {E:Value→Shared→Prop} {s:Shared} {st aC:SortSt} {P:Keyed→Prop} {N lo n n0 p0:Nat} {z:SortSt}
theorem ES (W:gc P N st) (h:∀aC,gc P N aC→pendingOf aC=(pendingOf st).push (lo,n,0)→Q (.yield (none,lo+n)) aC):wpS (model aab w) A E s (uT lo n) Q st:=
 a9 (rp (bA (h _ ⟨W.k,W.f,W.n,W.m⟩ rfl)))
theorem Ur (W:gc P N st) (hp:pendingOf st= #[(0,n0,p0)]) (h:∀pw aC,gc P N aC→pendingOf aC= #[(0,n0,pw),(lo,n,0)]→Q (.yield (none,lo+n)) aC):wpS (model aab w) A E s (IP.1.2 z lo n st) Q st:=
 gK (YK z lo n (kindOf st) (arrOf st) (gallopOf st) (failedOf st) n0 p0) fun F K K2 pw e e1 e2 e3=>ag ((aD (IP.1.2 z lo n) (pn st hp)).trans e) (a9 (RZ (Y:=fun O=>True) trivial
  (fun j x O=>ag (e1 j) (a9 (nA (ag ((aD K2 (pn st hp)).trans (e2 ..)) (bA ⟨rfl,rfl,trivial⟩)))))
  fun x O=>ag e3 (a9 (rp (ES ⟨W.k,W.f,W.n,W.m⟩ fun iJ W2 Ah=>h pw iJ W2 (Ah.trans (hp▸rfl)))))))
theorem ET (h0:∀p,P p→KI p) (W:gc P N st) (hz:zN z=N) (hl:lo<N)
  (h:∀n aC,gc P N aC→pendingOf aC=pendingOf st→1≤n→min (N - lo) (zM z)≤n→n≤N - lo→wpS (model aab w) A E s (IP.1.2 z lo n aC) Q aC) (hm:1≤zM z):wpS (model aab w) A E s (countRun' lo (zN z - lo) >>= YI.1 z lo) Q st:=
 have hb:lo+(N - lo)≤N:=bT (wy (eu hl))
 have h1:=uE hl
 a9 (tX h0 W (hz.symm▸hb) (hz.symm▸h1) fun n gk hn mL W1 MT=>ag (IP.2 ..) (ak
  (fun cu=>a9 (wj (wo ⟨rfl,a9 (ot h0 W1 (hz.symm▸aN (dA (Nat.min_le_left _ _) _) hb) fun iJ W2 Ah=>ag (TP ..) (a9 (nA (h _ iJ W2 (Ah.trans MT) (hz.symm▸Nat.le_min.mpr ⟨h1,hm⟩) (hz.symm▸bz _) (hz.symm▸Nat.min_le_left _ _)))))⟩)))
  fun FT=>a9 (nA (h n gk W1 MT hn (aN (yz _ _) (uc FT)) (hz▸mL)))))
theorem Jj (h0:∀p,P p→KI p) (hz:zN z=N) (hm:zM z≤N) (Ra:N≤2*zM z) (hc:c.1=none) (W:gc P N st) (H:RI N (zM z) x c.2 st) (hx:x<N) (hd:∀p aC,gc P N aC→RE N aC→Q (.done (none,p)) aC) (hy:∀p aC,gc P N aC→RI N (zM z) (x+1) p aC→Q (.yield (none,p)) aC):wpS (model aab w) A E s ((Ou.1 z).1 x c) Q st:=
 have h1:1≤zM z:=Nat.pos_of_ne_zero fun q=>Nat.not_le_of_lt (cY (et x) hx) (q▸Ra:N≤2*0)
 ag ((aD ((Ou.1 z).1 x) (jZ hc rfl:c=(none,c.2))).trans (YI.2 ..)) (H.elim
  (fun H=>ak (fun h=>absurd hx (yA (H.2.1.symm▸hz▸H.2.2▸h))) fun O=>ET h0 W hz (H.2.2.symm▸cY (et x) hx) (fun n gk W1 MT hn mL oS=>
   ag ((aD (IP.1.2 z c.2 n) (pn gk (MT.trans H.1))).trans (YJ ..)) (ES W1 fun iJ W2 Ah=>hy _ _ W2 (DU H.2.2 H.2.1 (MT.trans H.1) Ah hm hn mL oS))) h1) fun H=>H.elim
  (fun H=>E0 H fun p0 hp hx1 WH WL MQ=>ak (fun h=>absurd MQ (yA (hz▸h))) fun O=>ET h0 W hz MQ (fun n gk W1 MT hn mL oS=>
   have en:n=N - c.2:=wu oS (aN (Nat.le_min.mpr ⟨bz _,Nat.sub_le_of_le_add (aN Ra ((Nat.two_mul _).symm▸dA WL _))⟩) mL)
   Ur W1 (MT.trans hp) fun pw iJ W2 Ah=>hy _ _ W2 (.inr (.inr ⟨en▸wy (eu MQ),.inr ⟨_,_,_,en▸Ah,WH,MQ⟩⟩))) h1)
  fun H=>ak (fun O=>bA (hd _ _ W H.2)) fun h=>absurd (bT (hz.trans H.1.symm)) h)
theorem Ew (h0:∀p,P p→KI p) (W:gc P N st) (H:RE N st) (h:∀aC,gc P N aC→Q () aC):wpS (model aab w) A E s ((Ou.1 z).2 (none,p)) Q st:=
 E2 (srE z p) fun F K K2 e e1 e2 e3 e4=>ag e (a9 (wk (I:=fun O c aC=>c.1=none∧gc P N aC∧RE N aC)
  (fun j c aC O O z=>ag ((aD (F j) (jZ z.1 rfl:c=(none,()))).trans (e1 j)) (a9 (nA (z.2.2.elim
   (fun R=>jX R fun n p0 hp=>ag ((aD K2 (pn aC hp)).trans (e2 ..)) (bA (ag e4 (bA (h _ z.2.1)))))
   fun R=>nu R fun n0 p0 p1 hp WH MQ=>bc (e3 (kindOf aC) (arrOf aC) (gallopOf aC) (failedOf aC) n0 p0 (N - n0) p1) fun K3 e5 e6=>ag ((aD K2 (pn aC hp)).trans e5) (a9 (wc h0 z.2.1 hp WH (uE MQ) (bT (wy (eu MQ))) fun Ao W3 Ai=>ag e6 (bA ⟨rfl,W3,.inl ⟨_,_,Ai⟩⟩)))))))
  (fun c aC z=>ag ((aD K (jZ z.1 rfl:c=(none,()))).trans e4) (bA (h _ z.2.1))) ⟨rfl,W,H⟩))
theorem NU (h:2≤N) (hx:N≤x) (H:RI N m x lo st):RE N st:=H.elim (fun R=>absurd R.2.1 (Aa (fu z9 (aN h hx)))) fun R=>R.elim (fun R=>E0 R fun O O e O O O=>absurd e (Aa (fu h hx))) fun R=>R.2
theorem tZ (h0:∀p,P p→KI p) (W:gc P N st) (hp:pendingOf st= #[]) (h2:2≤N) (zo:N≤127) (h:∀aC,gc P N aC→Q () aC):wpS (model aab w) A E s sortRuns' Q st:=
 have hm:minRun' (arrOf st).size (arrOf st).size 0≤N∧N≤2*minRun' (arrOf st).size (arrOf st).size 0:=by rw [W.n];exact R7 h2 zo
 ag Ou.2 (a9 (nA (a9 (wk (I:=fun x c aC=>c.1=none∧gc P N aC∧RI N (zM st) x c.2 aC)
  (fun x c aC O hx H=>Jj h0 W.n hm.1 hm.2 H.1 H.2.1 H.2.2 (W.n▸hx) (fun p iJ W2 H2=>Ew h0 W2 H2 h) fun p iJ W2 H2=>⟨rfl,W2,H2⟩)
  (fun c aC H=>ag (aD (Ou.1 st).2 (jZ H.1 rfl:c=(none,c.2))) (Ew h0 H.2.1 (NU h2 (aN (bT W.n.symm) (Nat.le_max_right _ _)) H.2.2) h)) ⟨rfl,W,.inl ⟨hp,rfl,rfl⟩⟩))))
end
noncomputable def lsA:{T:Addr→Nat→Unit × SortSt→Sem PySem.Fin // ∀a,Builtin.«list.sort» ⟨[.ref a],[]⟩=(Builtin.List.listItems (.ref a) >>= fun items=>Builtin.List.listUpdate (.ref a) (fun O=> #[]) >>= fun O=>seqEpoch a >>= fun before=>newTuple items.toList >>= fun held=>newList [] >>= fun ks=>holding [held,ks] (if items.size<2 then (pure general' >>= fun kind=>(if items.size<2 then pure () else sortRuns').run (SortSt.mk' kind (items.zip items) #[] 7 none) >>= T a before) else (keyKind' items >>= fun kind=>(if items.size<2 then pure () else sortRuns').run (SortSt.mk' kind (items.zip items) #[] 7 none) >>= T a before)))}:=⟨_,list_sort_plain⟩
section
variable {aab:Program} {w:World} {A:Around} {E:Value→Shared→Prop} {s:Shared}
theorem Nf {a:Addr} {n:Nat} {st:SortSt} {P:PySem.Fin→Shared→Prop} (ho:s.heap.get? a=some (seqObj "list" #[] n)) (hf:failedOf st=none) (hs:(arrOf st).size≤sizeLine+1)
  (h:P (.done (.ret .none)) {s with heap:=s.heap.update a (Obj.mapSeq fun O=>(arrOf st).map (·.2))}):wpAny (model aab w) A (lsA.1 a n ((),st)) P E s:=by
 refine aJ (seqEpoch_at ho rfl ?_)
 refine aJ (listUpdate_at ho rfl ?_ (hsz2:=aN (bT Array.size_map) hs))
 rw [hf]
 simp only [bne_self_eq_false,rv,ou]
 exact bR h
theorem ls_run {vs:List Value} {α:Type} {K:Unit × SortSt→Sem α} {Q:α→Shared→Prop} (hI:∀v∈vs,∃n t,v= .int n t) (zo:vs.length≤127)
  (h:∀st,failedOf st=none→(arrOf st).size=vs.length→Al (fun p=>p∈(pairsOf vs).toList) (arrOf st)→wpAny (model aab w) A (K ((),st)) Q E s) :
  wpAny (model aab w) A (if vs.toArray.size<2 then (pure general' >>= fun kind=>(if vs.toArray.size<2 then pure () else sortRuns').run (SortSt.mk' kind (vs.toArray.zip vs.toArray) #[] 7 none) >>= K) else (keyKind' vs.toArray >>= fun kind=>(if vs.toArray.size<2 then pure () else sortRuns').run (SortSt.mk' kind (vs.toArray.zip vs.toArray) #[] 7 none) >>= K)) Q E s:=by
 by_cases h2:vs.toArray.size<2
 ·rw [bE h2,bE h2]
  exact aJ (bR (aJ (bR (h (SortSt.mk' general' (vs.toArray.zip vs.toArray) #[] 7 none) rfl (pairsOf_size vs) fun O h=>h))))
 ·rw [aW h2,aW h2]
  have hk:keyKind' vs.toArray=pure oneType':=by
   cases vs with
   | nil=>exact (h2 (by decide)).elim
   | cons v₁ vs=>cases vs with
    | nil=>exact (h2 (iO 1)).elim
    | cons v₂ rest=>exact keyKind_ints (intsAre_map _ hI)
  rw [hk]
  exact aJ (bR (aJ (dW (tZ (P:=fun p=>p∈(pairsOf vs).toList) (N:=vs.length) (st:=SortSt.mk' oneType' (vs.toArray.zip vs.toArray) #[] 7 none) (Q:=fun O aC=>failedOf aC=none∧(arrOf aC).size=vs.length∧Al (fun p=>p∈(pairsOf vs).toList) (arrOf aC))
   (fun p hp=>(intsAre_map _ hI).intKeys p hp) ⟨rfl,rfl,pairsOf_size vs,fun O h=>h⟩ rfl (uc h2) zo fun aC W=>⟨W.f,W.n,W.m⟩) (fun r s' z=>z.1▸h r.2 z.2.1 z.2.2.1 z.2.2.2) fun O O e=>e)))
theorem rj {a:Addr} {vs:List Value} {n:Nat} {P:PySem.Fin→Shared→Prop} (ho:s.heap.get? a=some (seqObj "list" vs.toArray n)) (hI:∀v∈vs,∃n t,v= .int n t) (zo:vs.length≤127)
  (h:∀(out:Array Value) h' c,(∀b o,b≠a→s.heap.get? b=some o→h'.get? b=some o)→h'.get? a=some (seqObj "list" out c)→out.size=vs.length→(∀v∈out.toList,v∈vs)→P (.done (.ret .none)) { s with heap:=h' }) :
  wpAny (model aab w) A (Builtin.«list.sort» ⟨[.ref a],[]⟩) P E s:=by
 rw [lsA.2]
 have ha:a<s.heap.objs.size:=cA ho
 have ZM:=get?_update_seq ho (fun O=> #[])
 refine aJ (listItems_at ho rfl ?_)
 refine aJ (listUpdate_at ho rfl ?_)
 refine aJ (seqEpoch_at ZM rfl (aJ (wpAny_newTuple (aJ (wpAny_newList (hW ?_))))))
 refine ls_run hI zo fun st hf hs hm=> ?_
 have ZN:=bG (seqObj "list" #[] 0) (bG (seqObj "tuple" vs.toArray 0) ZM)
 have hB:=get?_update_seq ZN fun O=>(arrOf st).map (·.2)
 refine Nf ZN hf (aN (bT hs) (aN zo (by rw [gM];exact dY rfl))) (h _ _ _ (fun b o hb e=>(wA _ _ (nG hb)).trans (bG _ (bG _ ((wA _ _ (nG hb)).trans e)))) hB (Array.size_map.trans hs) fun v hv=> ?_)
 obtain ⟨p,hp,e⟩:=dC.mp (Array.toList_map▸hv)
 have q:=mem_zip_self (pairsOf_toList vs▸hm p hp)
 exact e▸q.1▸q.2
theorem Ji (hh:A.handled=none) (lo:(d == sysModules)=false) (hm:s.heap.DictAt (intKind aab w) d kvs ep) (hn:kvs.length≤sizeLine)
  (h:∀h' tk acc c,(∀b o,s.heap.get? b=some o→h'.get? b=some o)→h'.get? s.heap.objs.size=some (seqObj "list" acc c)→acc.size=kvs.length→(∀v∈acc.toList,∃n t,v= .int n t∧n∈kvs.map (·.1))→R (.ok (.ret (.ref s.heap.objs.size))) { s with heap:=h',toks:=tk }) :
  codeAny (model aab w) A (.builtin "list.__iadd__" ⟨[.ref s.heap.objs.size,.ref d],[]⟩) R { s with heap:=s.heap.push (seqObj "list" #[] 0) }:=by
 refine codeAny_builtin entry_list_iadd' ?_
 have cu:=hm.lt_size
 have hk:(s.heap.push (seqObj "list" #[] 0)).DictAt (intKind aab w) d kvs ep:=hm.push _
 rw [Around.under_plainId (by decide +kernel)]
 refine kdl_extend (R:=R) (s:={ s with heap:=s.heap.push (seqObj "list" #[] 0) }) (kdl_dict lo) hh hk s.heap.objs.size (Aa cu) (Aa cu) _ 0 (nH _ rfl) (fun h' tk VD c' zq hS' Ha=> ?_) hn
 refine h h' tk VD c' (fun b o e=>zq b o (eR (cA e)) (bG _ e)) hS' Ha.1 fun v hv=> ?_
 obtain ⟨j,hj⟩:=List.getElem?_of_mem hv
 refine b8 (Ha.2 j v (((Array.getElem?_toList)▸(hj)))) fun k x e1 e2=> ?_
 obtain ⟨t,rfl⟩:=Value.isInt_shape e2
 exact ⟨k,t,rfl,dC.mpr ⟨_,bL e1,rfl⟩⟩
theorem wb (hh:A.handled=none) (lo:(d == sysModules)=false) (hm:s.heap.DictAt (intKind aab w) d kvs ep) (hn:kvs.length≤sizeLine)
  (h:∀h' tk vs,(∀b o,s.heap.get? b=some o→h'.get? b=some o)→vs.length=kvs.length→(∀v∈vs,∃n t,v= .int n t∧n∈kvs.map (·.1))→Q vs {s with heap:=h',toks:=tk}) :
  wpAny (model aab w) A (collect (.ref d)) Q E s:=by
 refine aJ (wpAny_runValue (codeAny_builtin entry_proto_collect' ?_))
 refine aJ (wpAny_newList (bR ⟨Fb _ (by decide +kernel),Ji hh lo hm hn fun h' tk acc c k1 e hs hI=> ?_⟩))
 show wpAny (model aab w) A (do
   let o ←load s.heap.objs.size
   match o.data with
   | .seq xs _=>pure xs.toList
   | _=>unsupported "internal:collect") Q E { s with heap:=h',toks:=tk }
 exact aJ (wpAny_load e (bR (h h' tk acc.toList k1 (by rw [yB];exact hs) hI)))
theorem zZ {d:Addr} {kvs:List (Int × Value)} {Q:Value→Shared→Prop} (hh:A.handled=none) (lo:(d == sysModules)=false) (hm:s.heap.DictOf (intKind aab w) d kvs) (hn:kvs.length≤127)
  (h:∀L h' tk xs c,(∀b o,s.heap.get? b=some o→h'.get? b=some o)→(∀b o,s.heap.get? b=some o→b<L)→h'.get? L=some (seqObj "list" xs c)→xs.size=kvs.length→(∀v∈xs.toList,∃n t,v= .int n t∧n∈kvs.map (·.1))→Q (.ref L) { s with heap:=h',toks:=tk }) :
  wpAny (model aab w) A (call (.builtin "sorted") [.ref d]) Q E s:=by
 obtain ⟨ep,hm⟩:=hm.dictAt
 refine Calls.call_function_entry kind_sorted plain_sorted entry_sorted (args_sorted1 _) ?_
 refine aJ (m:=checkCount "sorted" 1 1 _) (bR ?_)
 refine aJ (wb (A:=A.in1) hh lo hm (by rw [gM];lia) fun h1 t1 vs k1 hl hI=> ?_)
 refine aJ (wpAny_newList ?_)
 have ZO:(h1.push (seqObj "list" vs.toArray 0)).get? h1.objs.size=some (seqObj "list" vs.toArray 0):=nH _ rfl
 have hle:∀b o,s.heap.get? b=some o→b<h1.objs.size:=fun b o e=>cA (k1 b o e)
 refine aJ (hW (wpAny_call_entry slot_list_sort ⟨_,ZO,rfl⟩ entry_list_sort (rj ZO (fun v hv=>let ⟨n,t,e,_⟩:=hI v hv;⟨n,t,e⟩) (by lia) fun out h2 c k2 e2 hs hO=>⟨_,rfl,?_⟩) (args_list_sort _)))
 exact bR ⟨_,rfl,h _ h2 t1 out c (fun b o e=>k2 b o (eR (cA (k1 b o e))) (bG _ (k1 b o e))) hle e2 (hs.trans hl) fun v hv=>hI v (hO v hv)⟩
end
end Mine.Z
namespace Mine
noncomputable abbrev GH:=Addr→Option Obj
noncomputable def lJ (l:List Env):List Addr:=l.filterMap (·.frame)
theorem BP (h:env.frame=some L):lJ (env::r)=L::lJ r:=List.filterMap_cons_some h
noncomputable def H0:Heap:={}
theorem LM (a:Addr):H0.get? a=none:=by simp [H0,Heap.get?]
noncomputable def bF:List (Str × NameKind)→List (Option Value)→Str→Option Value
 | (y,_)::r,v::vs,x=>if x=y then v else bF r vs x
 | _,_,_=>none
structure yW (sc:Scope):Prop where
 kind:sc.kind= .function
 nd:(sc.names.map (·.1)).Nodup
 uO:∀p∈sc.names,(p.1 == ("__debug__":Str))=false
 cdt:∀p∈sc.names,(p.1 == ("__classdict__":Str))=false
 co:sc.isCoroutine=false
 gen:sc.isGenerator=false
noncomputable def qU:List Str→Bool
 | []=>true
 | x::r=>r.all (fun y=> !(x == y)) && qU r
theorem ae (h:(a && b)=true):a=true:=by cases a;exact h;rfl
theorem aa (h:(a && b)=true):b=true:=by cases a;cases h;exact h
theorem ft {P:Prop} (h:false=true):P:=nomatch h
theorem tf {P:Prop} (h:true=false):P:=nomatch h
theorem zB (h:(!b)=true):b=false:=by cases b;rfl;exact h.symm
theorem o7 {l:List Str}:qU l=true→l.Nodup:=by
 induction l with
 | nil=>exact fun O=>.nil
 | cons x r ih=>exact fun h=>bV.mpr ⟨fun hm=>tf ((iN x).symm.trans (zB (iQ.mp (ae h) x hm))),ih (aa h)⟩
noncomputable def D2 (sc:Scope):Bool:=sc.kind == .function && qU (sc.names.map (·.1)) && sc.names.all (fun p=> !(p.1 == ("__debug__":Str)) && !(p.1 == ("__classdict__":Str))) && !sc.isCoroutine && !sc.isGenerator
theorem bM (h:D2 sc=true):yW sc:=
 have h1:=ae h;have h2:=ae h1;have h3:=ae h2
 have q:=fun p hp=>iQ.mp (aa h2) p hp
 ⟨eq_of_beq (ae h3),o7 (aa h3),fun p hp=>zB (ae (q p hp)),fun p hp=>zB (aa (q p hp)),zB (aa h1),zB (aa h)⟩
inductive Loc:List (Str × NameKind)→List (Option Value)→Str→NameKind→Value→Prop
 | head {x k r v vs}:Loc ((x,k)::r) (some v::vs) x k v
 | tail {p r u vs x k v}:Loc r vs x k v→Loc (p::r) (u::vs) x k v
inductive FL:List (Str × NameKind)→List (Option Value)→Str→NameKind→Value→List (Option Value)→Prop
 | head {x k r u v vs}:FL ((x,k)::r) (u::vs) x k v (some v::vs)
 | tail {p r u vs cR x k v}:FL r vs x k v cR→FL (p::r) (u::vs) x k v (u::cR)
theorem aZ {ns:List (Str × NameKind)} {x:Str} {k:NameKind} (nd:(ns.map (·.1)).Nodup) (h:(x,k)∈ns):ns.lookup x=some k:=by
 induction ns with
 | nil=>exact absurd h cS
 | cons p r ih=>cases p with | mk y k'=>
  rw [dh,bV] at nd
  rw [eU]
  refine (cF.mp h).elim (fun e=> ?_) fun h=> ?_
  ·rw [(Prod.mk.inj e).1,(Prod.mk.inj e).2,iN]
  ·rw [beq_eq_false_iff_ne.mpr fun e:x=y=>nd.1 (dC.mpr ⟨(x,k),h,e⟩)];exact ih nd.2 h
theorem Loc.mem {ns vs x k v} (h:Loc ns vs x k v):(x,k)∈ns:=by
 induction h with
 | head=>exact .head _
 | tail _ ih=>exact .tail _ ih
theorem FL.mem {ns vs x k v cR} (h:FL ns vs x k v cR):(x,k)∈ns:=by
 induction h with
 | head=>exact .head _
 | tail _ ih=>exact .tail _ ih
theorem Loc.get {ns vs x k v} (nd:(ns.map (·.1)).Nodup) (h:Loc ns vs x k v):bF ns vs x=some v:=by
 induction h with
 | head=>exact bE rfl
 | @tail p r u vs x k v h ih=>cases p with | mk y k'=>
  rw [dh,bV] at nd
  exact (aW fun e:x=y=>nd.1 (dC.mpr ⟨(x,k),h.mem,e⟩)).trans (ih nd.2)
theorem FL.get {ns vs x k v cR} (nd:(ns.map (·.1)).Nodup) (h:FL ns vs x k v cR):∀y,bF ns cR y=if y=x then some v else bF ns vs y:=by
 induction h with
 | @head x k r u v vs=>
  intro y
  show (if y=x then some v else bF r vs y)=if y=x then some v else if y=x then u else bF r vs y
  by_cases h:y=x
  ·rw [bE h,bE h]
  ·rw [aW h,aW h,aW h]
 | @tail p r u vs cR x k v h ih=>cases p with | mk z k'=>
  intro y
  rw [dh,bV] at nd
  show (if y=z then u else bF r cR y)=if y=x then some v else if y=z then u else bF r vs y
  by_cases hy:y=z
  ·rw [bE hy,bE hy,aW fun q:y=x=>nd.1 (dC.mpr ⟨(x,k),h.mem,q.symm.trans hy⟩)]
  ·rw [aW hy,aW hy,ih nd.2]
structure At (hT:Heap) (l:List Env) (g:GH) (h:Heap):Prop where
 base:∀b o,hT.get? b=some o→g b=some o
 a5:∀b o,g b=some o→h.get? b=some o
 jx:∀b,b∈lJ l→g b=none
 cO:h.FunFrames H0 l
def Kp (l:List Env) (h h':Heap):Prop:=∀b∈lJ l,∀o,h.get? b=some o→∃sl,h'.get? b=some {o with slots:=sl}
theorem Kp.refl (l:List Env) (h:Heap):Kp l h h:=fun b O o e=>⟨o.slots,e⟩
theorem Kp.trans (x:Kp l aA cE) (y:Kp l cE ji):Kp l aA ji:=fun b hb o e=>
 let ⟨_,ql⟩:=x b hb o e;let ⟨sl,vj⟩:=y b hb _ ql;⟨sl,vj⟩
structure kg (env:Env) (L:Addr) (ns:List (Str × NameKind)):Prop where
 nm:env.scope.names=ns
 fr:env.frame=some L
 lo:env.locals=L
 gl:env.globals=mainGlobals
 bu:env.builtins=builtinsNs
 sc:yW env.scope
structure Fm (hT:Heap) (env:Env) (ns:List (Str × NameKind)) (aac:List Env) (h₀:Heap) (L:Addr) (vs:List (Option Value)) (g:GH) (h:Heap):Prop where
 at_:At hT (env::aac) g h
 ok:kg env L ns
 loc:h.Ns L (bF ns vs)
 Ae:Kp aac h₀ h
 out:L∉lJ aac
structure Tp (K:Frag) (hT:Heap):Prop where
 Hj:K.In hT
 top:∃p loose mg mb,TopRead p loose mg mb hT
 bi:∃mg bm ob,hT.Ns mainGlobals mg∧mg "__builtins__"=some (.ref bm)∧bm≠builtinsNs∧hT.get? bm=some ob∧ob.cls= .type "module"∧ob.dict=some builtinsNs∧ob.data= .plain
section
variable {hT:Heap} {env:Env} {ns:List (Str × NameKind)} {aac:List Env} {h₀ h:Heap} {L:Addr} {vs:List (Option Value)} {g:GH}
theorem At.a8 {l} (S:At hT l g h):∀b o,hT.get? b=some o→h.get? b=some o:=fun b o e=>S.a5 b o (S.base b o e)
theorem Fm.a8 (F:Fm hT env ns aac h₀ L vs g h):∀b o,hT.get? b=some o→h.get? b=some o:=F.at_.a8
theorem cN (ok:kg env L ns):lJ (env::aac)=L::lJ aac:=BP ok.fr
theorem Fm.nd (F:Fm hT env ns aac h₀ L vs g h):(ns.map (·.1)).Nodup:=by have:=F.ok.sc.nd;rwa [F.ok.nm] at this
theorem Fm.kind (F:Fm hT env ns aac h₀ L vs g h) {x:Str} {k:NameKind} (hm:(x,k)∈ns):env.kindOf x=some k:=aZ F.ok.sc.nd (by rw [F.ok.nm];exact hm)
theorem Fm.uO (F:Fm hT env ns aac h₀ L vs g h) (hm:(x,k)∈ns):(x == ("__debug__":Str))=false:=F.ok.sc.uO _ (by rw [F.ok.nm]; exact hm)
theorem Fm.gL (F:Fm hT env ns aac h₀ L vs g h):g L=none:=F.at_.jx L (by rw [cN F.ok];exact .head _)
theorem aS:Kp l h h'→h.FunFrames H0 l→h'.FunFrames H0 l:=by
 induction l with
 | nil=>exact fun O O=>trivial
 | cons env r ih=>exact fun k f=>⟨f.1,bX f.2.1 fun L o hf hn ho hd=>(k L (BP hf▸.head _) o ho).elim fun sl e=>⟨L,_,hf,hn,e,hd⟩,bX f.2.1 fun L o hf O O O=>ih (fun b hb=>k b (BP hf▸.tail _ hb)) f.2.2⟩
theorem Kp.of_keeps (k:∀b o,h.get? b=some o→h'.get? b=some o):Kp l h h':=fun b O o e=>⟨o.slots,k b o e⟩
theorem Du {h h':Heap} {a:Addr} {m:Str→Option Value} (n:h.Ns a m) (k:∀o,h.get? a=some o→∃sl,h'.get? a=some {o with slots:=sl}):h'.Ns a m:=
 yr n fun o es ep ho hd hk hf=>(k o ho).elim fun sl e=>⟨{o with slots:=sl},es,ep,e,hd,hk,hf⟩
theorem Fm.back {h':Heap} {g':GH} (F:Fm hT env ns aac h₀ L vs g h) (S:At hT (env::aac) g' h') (k:Kp (env::aac) h h'):Fm hT env ns aac h₀ L vs g' h' where
 at_:=S
 ok:=F.ok
 loc:=Du F.loc fun o e=>k L (by rw [cN F.ok];exact .head _) o e
 Ae:=F.Ae.trans fun b hb o e=>k b (by rw [cN F.ok];exact .tail _ hb) o e
 out:=F.out
theorem Fm.less (F:Fm hT env ns aac h₀ L vs g h) (l:∀b o,g' b=some o→g b=some o) (hb:∀b o,hT.get? b=some o→g' b=some o):Fm hT env ns aac h₀ L vs g' h where
 at_:={ base:=hb,a5:=fun b o e=>F.at_.a5 b o (l b o e),jx:=fun b hm=>(by
      cases e:g' b with
      | none=>rfl
      | some o=>have:=l b o e;rw [F.at_.jx b hm] at this;cases this),cO:=F.at_.cO}
 ok:=F.ok
 loc:=F.loc
 Ae:=F.Ae
 out:=F.out
theorem Fm.done (F:Fm hT env ns aac h₀ L vs g h):At hT aac g h:=
 ⟨F.at_.base,F.at_.a5,fun b hb=>F.at_.jx b (by rw [cN F.ok];exact .tail _ hb),F.at_.cO.2.2⟩
end
section
variable {aab:Program} {w:World} {K:Frag} {A:Around} {M:Model} {E:Value→Shared→Prop} {s:Shared} {hT:Heap} {env:Env} {ns:List (Str × NameKind)} {aac:List Env} {h₀ h:Heap} {L:Addr} {vs cR:List (Option Value)} {g:GH} {x:Str} {v:Value} {pos:Pos}
theorem zH (F:Fm hT env ns aac h₀ L vs g s.heap) (hl:Loc ns vs x .local v) (h:Q v s):wpAny M A (eval (.Name x pos) env) Q E s:=
 t9 (Jp F.ok.sc.kind (F.kind hl.mem) (by rw [F.ok.lo];exact F.loc) (hl.get F.nd) h) (F.uO hl.mem)
theorem iI (F:Fm hT env ns aac h₀ L vs g h) (hs:Heap.SameBut L h h') (hn:h'.Ns L (bF ns cR)):Fm hT env ns aac h₀ L cR g h' where
 at_:=⟨F.at_.base,fun b o e=>by
   have n9:b≠L:=fun q=>by rw [q,F.gL] at e;cases e
   exact (hs.2 b n9).trans (F.at_.a5 b o e),F.at_.jx,by
   obtain ⟨a,⟨L',o,hf,hz,ho,hd⟩,c⟩:=F.at_.cO
   obtain rfl:L=L':=cH (F.ok.fr.symm.trans hf)
   refine nu hn fun o' es ep oU nK O=> ?_;clear hn
   refine ⟨a,⟨L,o',hf,hz,oU,fun v q=>by rw [nK] at q;cases q⟩,aS (fun b hb o e=>⟨o.slots,(hs.2 b fun q=>F.out (q▸hb)).trans e⟩) c⟩⟩
 ok:=F.ok
 loc:=hn
 Ae:=F.Ae.trans fun b hb o e=>⟨o.slots,(hs.2 b fun q=>F.out (q▸hb)).trans e⟩
 out:=F.out
theorem XG (F:Fm hT env ns aac h₀ L vs g s.heap) (hp:FL ns vs x .local v cR)
  (h:∀h' t',Fm hT env ns aac h₀ L cR g h'→Q () {s with heap:=h',toks:=t' }):wpAny M A (storeName env x v) Q E s:=by
 refine Jq (F.kind hp.mem) (m:=bF ns vs) (by rw [F.ok.lo];exact F.loc) (fun h' hn hs=>h h' _ ?_) (by rw [F.ok.sc.kind];rfl)
 rw [F.ok.lo] at hn hs
 have e:(fun y=>if y=x then some v else bF ns vs y)=bF ns cR:=funext fun y=>(hp.get F.nd y).symm
 rw [e] at hn
 exact iI F hs hn
theorem Tp.lr (T:Tp K hT) (e:nsIn K mainGlobals x=some (some v)) (k:∀b o,hT.get? b=some o→h.get? b=some o):∃mg,h.Ns mainGlobals mg∧mg x=some v:=by
 refine yt T.top fun p loose mg mb R=> ?_
 exact ⟨mg,R.g.keeps k,mg_of T.Hj R.g e⟩
theorem Tp.nL (T:Tp K hT) (k:∀b o,hT.get? b=some o→h.get? b=some o):K.In h:=T.Hj.keeps k
theorem Tp.nolimit (T:Tp K hT) (k:∀b o,hT.get? b=some o→h.get? b=some o):h.NoLimit:=by
 refine yt T.top fun p loose mg mb R=> ?_
 exact R.nolimit.keeps k
theorem XF (F:Fm hT env ns aac h₀ L vs g s.heap) (T:Tp K hT) (e:nsIn K mainGlobals x=some (some v)) (hm:(x,NameKind.globalImplicit)∈ns) (h:Q v s) :
  wpAny M A (eval (.Name x pos) env) Q E s:=by
 refine bc (T.lr e F.a8) fun mg n e'=> ?_
 exact OK F.ok.sc.kind (F.kind hm) (loadGlobal_global (by rw [F.ok.gl];exact n) e' h) (F.uO hm)
end
noncomputable def SQ:Flow→Value
 | .ret v=>v
 | _=>.none
def pH (R:Result→Shared→Prop) (fl:Flow) (s:Shared):Prop:=R (.ok (.ret (SQ fl))) s
def FJ (M:Model) (A:Around) (env:Env) (R:Result→Shared→Prop) (e:Value) (s':Shared):Prop:=
 wpAny M A (leaving env e) (fun O vQ=>R (.error e) vQ) (fun e' vQ=>R (.error e') vQ) s'
theorem mU {x:Str} {ps:List Str}:∀ {vals:List Value},ps.Nodup→(ps.zip vals).reverse.lookup x=(ps.zip vals).lookup x:=by
 induction ps with
 | nil=>exact fun O=>rfl
 | cons p ps ih=>
  intro vals nd
  cases vals with
  | nil=>rfl
  | cons v vals=>
   rw [bV] at nd
   rw [uh,j0,List.lookup_append,ih nd.2,eU,eU]
   by_cases h:x=p
   ·rw [Fc.mpr fun q hq=>bne_iff_ne.mpr fun e:x=q.1=>nd.1 (h▸e▸(Ab (a:=q.1) (b:=q.2) hq).1),h,iN];rfl
   ·rw [beq_eq_false_iff_ne.mpr h];cases (ps.zip vals).lookup x <;> rfl
theorem CM:bF ns (List.replicate ns.length none) x=none:=by
 induction ns with
 | nil=>rfl
 | cons p r ih=>cases p with | mk y k=>
  show (if x=y then none else bF r (List.replicate r.length none) x)=none
  rw [ih,ite_self]
theorem oY {x:Str} {rest:List (Str × NameKind)} {ps:List Str}:∀ {vals:List Value},ps.length=vals.length →
  (ps.zip vals).lookup x=bF (ps.map (fun p=>(p,NameKind.local))++rest) (vals.map some++List.replicate rest.length none) x:=by
 induction ps with
 | nil=>
  intro vals e
  cases vals with
  | nil=>exact CM.symm
  | cons v vals=>cases e
 | cons p ps ih=>
  intro vals e
  cases vals with
  | nil=>cases e
  | cons v vals=>
   rw [uh,eU,ih (lA e)]
   show _=if x=p then some v else bF (ps.map (fun p=>(p,NameKind.local))++rest) (vals.map some++List.replicate rest.length none) x
   by_cases h:x=p
   ·rw [bE h,beq_iff_eq.mpr h]
   ·rw [aW h,beq_eq_false_iff_ne.mpr h]
structure PF (K:Frag) (f:Addr) (dM:Value) (qual:Str) (ps:List Str) (rest:List (Str × NameKind)) (body:List Stmt) (sc:Scope):Prop where
 ex:∃oc od rA name params dV kV doc pm an ct,K.lookup f=some ⟨oc,od,.func (fnOf name qual params body sc dV kV doc pm an dM ct),rA⟩ ∧
  ∀(vals:List Value) (s:Shared),vals.length=ps.length→BindsTo s (fnOf name qual params body sc dV kV doc pm an dM ct) ⟨vals,[]⟩ (ps.zip vals)
 code:codeIn K dM qual=true
 mY:yW sc
 names:sc.names=ps.map (fun p=>(p,NameKind.local))++rest
 vK:∀x∈sc.names,x.2≠ .cell
section
variable {aab:Program} {w:World} {K:Frag} {A:Around} {R:Result→Shared→Prop} {s:Shared} {hT:Heap} {aac:List Env} {g:GH}
 {f:Addr} {dM:Value} {qual:Str} {ps:List Str} {rest:List (Str × NameKind)} {body:List Stmt} {sc:Scope} {vals:List Value}
theorem qp {L:Addr} {h aA:Heap} {vs:List (Option Value)} {env:Env} {ns:List (Str × NameKind)} (S:At hT aac g h) (ok:kg env L ns) (hL:L=h.objs.size) (hn:aA.Ns L (bF ns vs)) (k:∀b o,h.get? b=some o→aA.get? b=some o) :
  Fm hT env ns aac h L vs g aA:=by
 have out:∀b o,h.get? b=some o→b≠L:=fun b o e q=>by
  have:=cA e;rw [q,hL] at this;exact nF _ this
 have WU:L∉lJ aac:=fun hm=>Jm (S.cO.mem hm) fun O o ho O=>out _ _ ho rfl
 refine ⟨⟨S.base,fun b o e=>k b o (S.a5 b o e),fun b hb=>(cF.mp (cN ok▸hb)).elim (fun q=>Fd.mpr fun o e=>out b o (S.a5 b o e) q) (S.jx b),?_⟩,ok,hn,Kp.of_keeps k,WU⟩
 exact nu hn fun o' es ep oU nK O=>⟨by rw [ok.sc.kind];decide,⟨L,o',ok.fr,LM L,oU,fun v q=>nomatch nK.symm.trans q⟩,aS (Kp.of_keeps k) S.cO⟩
theorem enter (T:Tp K hT) (P:PF K f dM qual ps rest body sc) (S:At hT aac g s.heap) (hA:A.frames=some aac) (Ri:A.depth<recursionLimit) (hlen:vals.length=ps.length)
  (h:∀env L aA tW,env=envX qual sc L f dM []→(A.deeper env).frames=some (env::aac)→Fm hT env (ps.map (fun p=>(p,NameKind.local))++rest) aac s.heap L (vals.map some++List.replicate rest.length none) g aA →
   wpAny (model aab w) (A.deeper env) (execs body env) (pH R) (FJ (model aab w) (A.deeper env) env R) {s with heap:=aA,toks:=tW}) :
  codeAny (model aab w) A (.call (.ref f) ⟨vals,[]⟩) R s:=by
 refine eQ P.ex fun oc od rA name params dV kV doc pm an ct ho hb=> ?_
 have hk:∀p∈ps,(p,NameKind.local)∈sc.names:=fun p hp=>by rw [P.names];exact dF _ (dC.mpr ⟨p,hp,rfl⟩)
 refine codeAny_call_def (fd:=fnOf name qual params body sc dV kV doc pm an dM ct) (body:=body) (binds:=ps.zip vals) Ri (S.a8 _ _ (T.Hj _ _ ho)) rfl (T.nolimit S.a8) (codeRec_of (T.nL S.a8) P.code) rfl
  (hb vals s hlen) P.vK (fun y hy=>aZ P.mY.nd (hk _ (Ab (a:=y.1) (b:=y.2) hy).1)) (fun aA vu k=> ?_) P.mY.co P.mY.gen P.mY.kind
 refine h _ s.heap.objs.size aA _ rfl (by show A.frames.map _=_;rw [hA];rfl) (qp S ⟨P.names,rfl,rfl,rfl,rfl,P.mY⟩ rfl ?_ k)
 have nd:ps.Nodup:=by
  have:=P.mY.nd
  rw [P.names,bY,dj] at this
  have e:(List.map ((fun x=>x.1) ∘ fun p=>(p,NameKind.local)) ps)=ps:=by rw [show ((fun x=>x.1) ∘ fun (p:Str)=>(p,NameKind.local))=id from rfl,List.map_id]
  rw [e] at this
  exact (hY.mp this).1
 have e:(fun x=>(ps.zip vals).reverse.lookup x)=bF (ps.map (fun p=>(p,NameKind.local))++rest) (vals.map some++List.replicate rest.length none):=funext fun x=>by
  rw [mU nd];exact oY hlen.symm
 rw [e] at vu
 exact vu
end
noncomputable abbrev KK (w:World):Frag:=hd.heap_39 w.params
set_option genInjectivity true in
inductive AV where
 | nil
 | num (n:Int)
 | cell (i:Nat)
 deriving DecidableEq
noncomputable abbrev Cells:=List (AV × AV)
noncomputable abbrev Pl:=List (Addr × Addr)
inductive VR (p:Pl):Value→AV→Prop
 | nil:VR p (.ref 64) .nil
 | num {n t}:VR p (.int n t) (.num n)
 | cell {i q}:p[i]?=some q→VR p (.ref q.1) (.cell i)
noncomputable def a7 (P:Params) (x y:Value) (t u:Tok):Obj:=dictOf [⟨PyData.keyHash P "car",.str "car" t,x⟩,⟨PyData.keyHash P "cdr",.str "cdr" u,y⟩] 2
structure CS (hT:Heap) (P:Params) (g:GH) (p:Pl) (c:Cells):Prop where
 len:p.length=c.length
 nd:(p.map (·.1)).Nodup
 Ny:(p.map (·.2)).Nodup
 new:∀q∈p,hT.get? q.1=none∧hT.get? q.2=none∧q.1≠64
 at_:∀(i:Nat) (q:Addr × Addr) (ab:AV × AV),p[i]?=some q→c[i]?=some ab→g q.1=some (instObj 82 q.2)∧∃x y t u,g q.2=some (a7 P x y t u)∧VR p x ab.1∧VR p y ab.2
def GH.le (g g':GH):Prop:=∀b o,g b=some o→g' b=some o
theorem GH.le.trans {a b c:GH} (x:a.le b) (y:b.le c):a.le c:=fun b o e=>y b o (x b o e)
theorem CS.mono {hT P g g' p c} (C:CS hT P g p c) (l:GH.le g g'):CS hT P g' p c:=
 ⟨C.len,C.nd,C.Ny,C.new,fun i q ab hp hc=>have h:=C.at_ i q ab hp hc;⟨l _ _ h.1,h.2.imp fun x=>cD fun y=>cD fun t=>cD fun u r=>⟨l _ _ r.1,r.2⟩⟩⟩
section
variable {w:World} {M:Model} {aab:Program} {A:Around} {E:Value→Shared→Prop} {s:Shared} {hT:Heap} {env:Env} {ns:List (Str × NameKind)} {aac:List Env} {h₀ h:Heap} {L:Addr} {vs:List (Option Value)} {g:GH} {p:Pl} {c:Cells} {v:Value} {a:AV}
 {Q:Value→Shared→Prop}
theorem zv (h1:h.get? x=some (instObj 82 d)) (h2:h.get? d=some od):InstAt h x (instObj 82 d) 82 (some od):=⟨h1,rfl,rfl,h2⟩
theorem CS.inst (C:CS hT w.params g p c) (hs:∀b o,g b=some o→h.get? b=some o) {i:Nat} {q:Addr × Addr} {ab:AV × AV} (hp:p[i]?=some q) (hc:c[i]?=some ab):∃x y t u,InstAt h q.1 (instObj 82 q.2) 82 (some (a7 w.params x y t u))∧VR p x ab.1∧VR p y ab.2:=
 have h:=C.at_ i q ab hp hc
 h.2.imp fun x=>cD fun y=>cD fun t=>cD fun u r=>⟨zv (hs _ _ h.1) (hs _ _ r.1),r.2⟩
theorem CS.has (C:CS hT w.params g p c) {i:Nat} {q:Addr × Addr} (hp:p[i]?=some q):∃ab,c[i]?=some ab:=by
 have h1:=(bl.mp hp).1
 rw [C.len] at h1
 exact ⟨_,gm h1⟩
theorem gF (X:(KK w).In h):∃d od,InstAt h 64 (instObj 58 d) 58 (some od):=by
 have h1:∃d od,(KK w).lookup 64=some (instObj 58 d)∧(KK w).lookup d=some od:=⟨_,_,by rfl,by rfl⟩
 refine b8 h1 fun d od a b=> ?_;clear h1
 exact ⟨d,od,X _ _ a,rfl,rfl,X _ _ b⟩
theorem Cw:isIn (KK w) (.ref 82) 82=true:=by kernel_rfl
theorem tC:kin_not (KK w) 58 82=true:=by kernel_rfl
theorem qR:plainGet (KK w) 58 "__class__"=true:=by kernel_rfl
theorem qQ:hasDictIn (KK w) 58=true:=by kernel_rfl
theorem qP:findIn (KK w) (.ref 58) "__class__"=some (some (.builtin "object.__class__")):=by kernel_rfl
theorem gR:specialIn (KK w) (.builtin "object.__class__") "__get__"=some (some (.builtin "getset_descriptor.__get__")):=by kernel_rfl
theorem jF:takesIn (KK w) (.builtin "object.__class__")=some true:=by kernel_rfl
theorem lN:mroIn (KK w) 58 (.type "object")=some true:=by kernel_rfl
theorem xi:plainGet (KK w) 82 "__class__"=true:=by kernel_rfl
theorem lF:hasDictIn (KK w) 82=true:=by kernel_rfl
theorem xh:findIn (KK w) (.ref 82) "__class__"=some (some (.builtin "object.__class__")):=by kernel_rfl
theorem sE:mroIn (KK w) 82 (.type "object")=some true:=by kernel_rfl
theorem sS:isNotIn (KK w) "int" 82=true:=by kernel_rfl
theorem vJ:kin_notT (KK w) 58 "int"=true:=by kernel_rfl
theorem sF:kin_notT (KK w) 82 "int"=true:=by kernel_rfl
theorem tB:kin_notT (KK w) 58 "bool"=true:=by kernel_rfl
theorem qg:kin_notT (KK w) 82 "bool"=true:=by kernel_rfl
noncomputable def AV.aE:AV→Bool | .cell _=>true | _=>false
noncomputable def AV.isNum:AV→Bool | .num _=>true | _=>false
theorem Cy (T:Tp (KK w) hT) (hs:∀b o,g b=some o→s.heap.get? b=some o) (hb:∀b o,hT.get? b=some o→g b=some o) (C:CS hT w.params g p c) (hv:VR p v a) (h:∀t',Q (.bool a.aE) {s with toks:=t' }) :
  wpAny (model aab w) A (call (.builtin "isinstance") [v,.ref 82]) Q E s:=by
 have X:(KK w).In s.heap:=T.nL fun b o e=>hs b o (hb b o e)
 induction hv with
 | nil=>
  refine jX (gF X) fun d od I=> ?_
  exact kin_callC X I tC qR qQ qP gR jF lN (h _)
 | num=>exact isn_call (P:=fun O=>True) X (fun M=>yC rfl) sS (by intro e;cases e) trivial int_cls (h _)
 | @cell i q hp=>
  obtain ⟨ab,hc⟩:=C.has hp
  refine rn (C.inst hs hp hc) fun x y t u I O=> ?_
  exact isi_call X (fun M=>I.type) Cw (by intro e;cases e) (h _)
theorem Hv (T:Tp (KK w) hT) (hs:∀b o,g b=some o→s.heap.get? b=some o) (hb:∀b o,hT.get? b=some o→g b=some o) (C:CS hT w.params g p c) (hv:VR p v a) (h:∀t',Q (.bool a.isNum) {s with toks:=t' }) :
  wpAny (model aab w) A (call (.builtin "isinstance") [v,.type "int"]) Q E s:=by
 have X:(KK w).In s.heap:=T.nL fun b o e=>hs b o (hb b o e)
 induction hv with
 | nil=>
  refine jX (gF X) fun d od I=> ?_
  exact kin_callT X I vJ (by kernel_rfl) qR qQ qP gR jF lN (h _)
 | num=>exact IsiPair.int_int (h _)
 | @cell i q hp=>
  obtain ⟨ab,hc⟩:=C.has hp
  refine rn (C.inst hs hp hc) fun x y t u I O=> ?_
  exact kin_callT X I sF (by kernel_rfl) xi lF xh gR jF sE (h _)
theorem Cz (T:Tp (KK w) hT) (hs:∀b o,g b=some o→s.heap.get? b=some o) (hb:∀b o,hT.get? b=some o→g b=some o) (C:CS hT w.params g p c) (hv:VR p v a) (h:∀t',Q (.bool false) {s with toks:=t' }) :
  wpAny (model aab w) A (call (.builtin "isinstance") [v,.type "bool"]) Q E s:=by
 have X:(KK w).In s.heap:=T.nL fun b o e=>hs b o (hb b o e)
 induction hv with
 | nil=>
  refine jX (gF X) fun d od I=> ?_
  exact kin_callT X I tB (by kernel_rfl) qR qQ qP gR jF lN (h _)
 | num=>exact IsiPair.int_bool (h _)
 | @cell i q hp=>
  obtain ⟨ab,hc⟩:=C.has hp
  refine rn (C.inst hs hp hc) fun x y t u I O=> ?_
  exact kin_callT X I qg (by kernel_rfl) xi lF xh gR jF sE (h _)
end
def LR (M:Model) (A:Around) (rest:List Stmt) (env:Env) (Q:Flow→Shared→Prop) (E:Value→Shared→Prop) (f:Flow) (s':Shared):Prop:=
 match f with | .next=>wpAny M A (execs rest env) Q E s' | f=>Q f s'
def ey (b:Bool) (Ge Gf:Prop):Prop:=if b then Ge else Gf
theorem w4 (h:Ge):ey true Ge Gf:=h
theorem rT (h:Gf):ey false Ge Gf:=h
section
variable {M:Model} {A:Around} {E:Value→Shared→Prop} {s:Shared} {env:Env}
theorem dg {st rest} (h:wpAny M A (exec st env) (LR M A rest env Q E) E s):wpAny M A (execs (st::rest) env) Q E s:=wpAny_execs_cons h
theorem yw (h:Q .next s):wpAny M A (execs [] env) Q E s:=wpAny_execs_nil h
theorem iG {rest} (h:wpAny M A (execs rest env) Q E s):LR M A rest env Q E .next s:=h
theorem tM {rest} (h:Q (.ret v) s):LR M A rest env Q E (.ret v) s:=h
theorem Y0 {test body orelse pos} 
  (h:wpAny M A (isTrue test env (eval test env)) (fun b aG=>ey b (wpAny M A (execs body env) Q E aG) (wpAny M A (execs orelse env) Q E aG)) E s) :
  wpAny M A (exec (.If test body orelse pos) env) Q E s:=wpAny_If h
theorem GU {test body orelse pos} 
  (h:wpAny M A (isTrue test env (eval test env)) (fun c aG=>ey c (wpAny M A (eval body env) Q E aG) (wpAny M A (eval orelse env) Q E aG)) E s) :
  wpAny M A (eval (.IfExp test body orelse pos) env) Q E s:=IfExp_ h
theorem Qq {ql vj rest pos} 
  (h:wpAny M A (eval ql env) (fun v s₁=>wpAny M A (truthy v) (fun c aG=>ey c (wpAny M A (eval (.BoolOp .And (vj::rest) pos) env) Q E aG) (Q v aG)) E s₁) E s) :
  wpAny M A (eval (.BoolOp .And (ql::vj::rest) pos) env) Q E s:=BoolOp_and h
theorem VZ {ql vj rest pos} 
  (h:wpAny M A (eval ql env) (fun v s₁=>wpAny M A (truthy v) (fun c aG=>ey c (Q v aG) (wpAny M A (eval (.BoolOp .Or (vj::rest) pos) env) Q E aG)) E s₁) E s) :
  wpAny M A (eval (.BoolOp .Or (ql::vj::rest) pos) env) Q E s:=BoolOp_or h
theorem Qw {op e pos} (h:wpAny M A (eval e env) Q E s):wpAny M A (eval (.BoolOp op [e] pos) env) Q E s:=BoolOp_one h
theorem Qv {x pos} (h:wpAny M A (eval x env) (fun v s₁=>wpAny M A (truthy v) (fun c s'=>Q (.bool (!c)) s') E s₁) E s) :
  wpAny M A (eval (.UnaryOp .Not x pos) env) Q E s:=UnaryOp_ (dW h (fun O O h'=>not_of h') fun O O x=>x)
theorem Qt {l op r pos} 
  (h:wpAny M A (eval l env) (fun a s₁=>wpAny M A (eval r env) (fun b aG=>wpAny M A (compareOp op a b) Q E aG) E s₁) E s)
  (hm:behindInMarks op r=false:=by with_unfolding_all rfl):wpAny M A (eval (.Compare l [op] [r] pos) env) Q E s:=wpAny_Compare1 h hm
theorem Lu {l op r pos whole} 
  (h:wpAny M A (eval l env) (fun a s₁=>wpAny M A (eval r env) (fun b aG=>wpAny M A (compareOp op a b) (fun c bP=>wpAny M A (truthy c) Q E bP) E aG) E s₁) E s)
  (hm:behindInMarks op r=false:=by with_unfolding_all rfl):wpAny M A (isTrue (.Compare l [op] [r] pos) env whole) Q E s:=wpAny_isTrue_Compare1 h hm
theorem Uc {x pos whole} (h:wpAny M A (isTrue x env (eval x env)) (fun c s'=>Q (!c) s') E s) :
  wpAny M A (isTrue (.UnaryOp .Not x pos) env whole) Q E s:=isTrue_not h
theorem OA {pos whole} (h:Q true s):wpAny M A (isTrue (.BoolOp .And [] pos) env whole) Q E s:=isTrue_and_nil h
theorem Ue {pos whole} (h:Q false s):wpAny M A (isTrue (.BoolOp .Or [] pos) env whole) Q E s:=isTrue_or_nil h
theorem Ls {x rest pos whole} 
  (h:wpAny M A (isTrue x env (eval x env)) (fun c s'=>ey c (wpAny M A (isTrue (.BoolOp .And rest pos) env whole) Q E s') (Q false s')) E s) :
  wpAny M A (isTrue (.BoolOp .And (x::rest) pos) env whole) Q E s:=isTrue_and h
theorem Ud {x rest pos whole} 
  (h:wpAny M A (isTrue x env (eval x env)) (fun c s'=>ey c (Q true s') (wpAny M A (isTrue (.BoolOp .Or rest pos) env whole) Q E s')) E s) :
  wpAny M A (isTrue (.BoolOp .Or (x::rest) pos) env whole) Q E s:=isTrue_or h
theorem OB {x pos whole} (h:wpAny M A whole (fun v s₁=>wpAny M A (truthy v) Q E s₁) E s):wpAny M A (isTrue (.Name x pos) env whole) Q E s:=isTrue_plain h
theorem pq {e pos} (h:wpAny M A (eval e env) (fun v=>Q (.ret v)) E s):wpAny M A (exec (.Return (some e) pos) env) Q E s:=wpAny_Return_some h
theorem LF {x pos' value pos} 
  (h:wpAny M A (eval value env) (fun v s₁=>wpAny M A (storeName env x v) (fun O=>Q .next) E s₁) E s)
  (hs:swapsWith value (some (.Name x pos')) pos.line env=pure false:=by rfl) :
  wpAny M A (exec (.Assign [.Name x pos'] value pos) env) Q E s:=wpAny_Assign_Name h hs
theorem Mr {k pos} (h:Q (.bool c) s):wpAny M A (eval (.Constant (.bool c) k pos) env) Q E s:=Constant_bool h
theorem Mu {k pos} (h:Q .none s):wpAny M A (eval (.Constant .none k pos) env) Q E s:=Constant_none h
theorem xo {k pos} (h:∀t t',Q (.int i t) {s with toks:=t' }):wpAny M A (eval (.Constant (.int i) k pos) env) Q E s:=wpAny_Constant_int (h _ _)
theorem mI {k pos} (h:∀t t',Q (.str x t) {s with toks:=t' }):wpAny M A (eval (.Constant (.str x) k pos) env) Q E s:=fun O O O=>h _ _
noncomputable def aQ (e:Expr):Bool:=match e with | .Starred .. =>false | _=>true
theorem dq (h:aQ e=true):starEach (e::rest) env=(false,eval e env)::starEach rest env:=by
 cases e <;> first | rfl | cases h
def Ev (M:Model) (A:Around) (env:Env) (E:Value→Shared→Prop):List Expr→(List Value→Shared→Prop)→Shared→Prop
 | [],Q,s=>Q [] s
 | e::r,Q,s=>wpAny M A (eval e env) (fun v s₁=>Ev M A env E r (fun vs aG=>Q (v::vs) aG) s₁) E s
theorem Ev.spliced {pos:Pos} {l:List Expr}:∀ {Q:List Value→Shared→Prop} {s:Shared},l.all aQ=true→Ev M A env E l Q s→wpAny M A (spliced (backTo pos (starEach l env))) Q E s:=by
 induction l with
 | nil=>exact fun O h=>args_nil h
 | cons e r ih=>exact fun hp h=>spliced_more (dW h (fun v s₁ aA=>ih (aa hp) aA) fun O O x=>x) (dq (ae hp))
theorem mJ (h:Q [] s):Ev M A env E [] Q s:=h
theorem bp (h:wpAny M A (eval e env) (fun v s₁=>Ev M A env E r (fun vs aG=>Q (v::vs) aG) s₁) E s):Ev M A env E (e::r) Q s:=h
def bW (M:Model) (f:Value) (h:Heap):Prop:=∃k,(k=Keeper.frame∨k=Keeper.machine∨k=Keeper.boundFrame)∧Looks M h (keeperOf f) k
theorem y0:l.all aQ=true→(backTo pos (starEach l env)).any (·.1)=false:=by
 induction l with
 | nil=>exact fun O=>rfl
 | cons e r ih=>exact fun h=>by rw [dq (ae h)];exact ih (aa h)
theorem A3 {pos:Pos} {f:Value} {first:List Value} {args:List Expr} {Q:Value→Shared→Prop} (hp:args.all aQ=true)
  (h:Ev M A env E args (fun vs s₁=>bW M f s₁.heap∧wpAny M A (call f (first++vs)) Q E s₁) s):wpAny M A (callWith pos f first (backTo pos (starEach args env)) []) Q E s:=by
 refine callWith_of (P:=fun h=>bW M f h) (by rw [y0 hp];rfl) (fun O h=>h) ?_
 induction args with
 | nil=>exact evalArgs_nil3 h
 | cons e r=>
  have h':=Ev.spliced (pos:=pos) hp h
  rw [dq (ae hp)] at h' ⊢
  exact evalArgs_plain h'
theorem qj (hp:args.all aQ=true)
  (h:wpAny M A (eval (.Name x npos) env) (fun f s₁=>Ev M A env E args (fun vs aG=>bW M f aG.heap∧wpAny M A (call f vs) Q E aG) s₁) E s):wpAny M A (eval (.Call (.Name x npos) args [] pos) env) Q E s:=
 Call_ (dW h (fun f s₁ aA=>A3 hp aA) fun O O x=>x)
theorem sX:bW M (.builtin i) h:=⟨.machine,.inr (.inl rfl),yC rfl⟩
theorem Hz:bW M (.type i) h:=⟨.machine,.inr (.inl rfl),yC rfl⟩
theorem Xb (e:h.get? a=some o) (d:o.data= .func fd):bW M (.ref a) h:=
 ⟨.frame,.inl rfl,(Looks.ld (part:=none) e).andThen (((d)▸(.now)))⟩
theorem Mq 
  (h:wpAny M A (eval value env) (fun o s₁=>wpAny M A (getAttr o attr true) (fun r aG=>wpAny M A (letTemporaryGo value o r) (fun O bP=>Q r bP) E aG) E s₁) E s)
  (he:attributeBase value attr env (eval value env)=eval value env:=by rfl):wpAny M A (eval (.Attribute value attr pos) env) Q E s:=by
 show wpAny M A (do
   let o ←attributeBase value attr env (eval value env)
   standAt pos.atName
   let r ←holding [o] (getAttr o attr true)
   letTemporaryGo value o r
   pure r) Q E s
 rw [he]
 exact aJ (dW h (fun o s₁ aA=>aJ (rq (aJ (hW (dW aA (fun r aG cE=>aJ (dW cE (fun O O ji=>bR ji) fun O O x=>x)) fun O O x=>x))))) fun O O x=>x)
theorem C9 (h:Q () s):wpAny M A (letTemporaryGo (.Name x p) o r) Q E s:=bR h
end
section
variable {M:Model} {A:Around} {E:Value→Shared→Prop} {s:Shared}
theorem jr (hx:s.heap.get? x=some ox) (hy:s.heap.get? y=some oy) (hn:ox.cls= .ref k) (h:Q (decide (x=y)) s):wpAny M A (isSame (.ref x) (.ref y)) Q E s:=by
 by_cases e:x=y
 ·exact wpAny_of_eq (bE (beq_iff_eq.mpr e)) (hM e▸h)
 ·unfold isSame
  dsimp only
  rw [aW (fun q=>e (beq_iff_eq.mp q))]
  exact aJ (wpAny_load hx (aJ (wpAny_load hy (by rw [hn];exact bR (jY e▸h)))))
end
def rD:Nat→(List Value→Prop)→Prop
 | 0,P=>P []
 | n+1,P=>∀a,rD n fun l=>P (a::l)
theorem wV {n:Nat}:∀ {P:List Value→Prop},rD n P→∀vs:List Value,vs.length=n→P vs:=by
 induction n with
 | zero=>exact fun {P} h vs e=>uG.mp e▸h
 | succ n ih=>
  intro P h vs e
  cases vs with
  | nil=>cases e
  | cons a vs=>exact ih (h a) vs (lA e)
theorem JB {n:Nat} {fd:FuncData} {ps:List Str} (h:rD n fun vs=>bindArgs fd ⟨vs,[]⟩=pure (ps.zip vs)) (vals:List Value) (e:vals.length=n):bindArgs fd ⟨vals,[]⟩=pure (ps.zip vals):=wV h vals e
theorem wY {n:Nat} {fd:FuncData} {ps:List Str} (h:rD n fun vs=>bindArgs fd ⟨vs,[]⟩=pure (ps.zip vs)) (vals:List Value) (s:Shared) (e:vals.length=n):BindsTo s fd ⟨vals,[]⟩ (ps.zip vals):=BindsTo.of_eq (wV h vals e)
noncomputable def rQ:FuncBody→List Stmt | .stmts b=>b | _=>[]
noncomputable def Rx:FuncBody→Bool | .stmts _=>true | _=>false
noncomputable def iF (fd:FuncData):List Str:=fd.params.args.map (·.arg)
noncomputable def Uj (fd:FuncData):Bool:=fd.globals == mainGlobals && fd.closure.isEmpty && fd.builtins == builtinsNs && Rx fd.body
theorem lQ (h:Uj fd=true):fd=fnOf fd.name fd.qualname fd.params (rQ fd.body) fd.scope fd.defaults fd.kwdefaults fd.doc fd.pyModule fd.annotations fd.code fd.closureTuple:=by
 cases fd with | mk a b c body e gl cl f g h' i j k l bu=>
 have h1:=ae h;have h2:=ae h1
 rw [show gl=_ from eq_of_beq (ae h2),show cl=[] from fT.mp (aa h2),show bu=_ from eq_of_beq (aa h1)]
 have h:Rx body=true:=aa h
 cases body with
 | stmts b=>rfl
 | _=>exact ft h
noncomputable def Zo (d:Data):Option FuncData:=match d with | .func fd=>some fd | _=>none
theorem My (h:Zo d=some fd):d= .func fd:=by
 cases d with
 | func f=>exact aD Data.func (cH h)
 | _=>cases h
noncomputable def fdOf (K:Frag) (f:Addr):Option FuncData:=(K.lookup f).bind fun o=>Zo o.data
theorem xr {K:Frag} {f:Addr} {fd:FuncData} (h:fdOf K f=some fd):∃oc od rA,K.lookup f=some ⟨oc,od,.func fd,rA⟩:=
 (Fe.mp h).elim fun o h=>⟨o.cls,o.dict,o.slots,h.1.trans (aD (fun d=>some (Obj.mk o.cls o.dict d o.slots)) (My h.2))⟩
noncomputable def cp (K:Frag) (f:Addr):FuncData:=(fdOf K f).getD (Calls.docDef "" ⟨[],[],none,[],[],none,[]⟩ [] ⟨.function,[],false,false,[]⟩ .none .none .none)
def az (fd:FuncData) (n:Nat):Prop:=rD n fun vs=>bindArgs fd ⟨vs,[]⟩=pure ((iF fd).zip vs)
noncomputable def DF (K:Frag) (fd:FuncData):Bool:=qU (iF fd) && Uj fd && codeIn K fd.code fd.qualname && D2 fd.scope
noncomputable def okP (K:Frag) (fd:FuncData):Bool:=DF K fd && fd.scope.names == (iF fd).map (fun p=>(p,NameKind.local))++fd.scope.names.drop (iF fd).length && fd.scope.names.all fun x=>x.2 != .cell
theorem BG {K:Frag} {f:Addr} {fd:FuncData} (hf:fdOf K f=some fd):cp K f=fd:=by unfold cp;rw [hf];rfl
theorem SA {K:Frag} {f:Addr} {fd:FuncData} (hf:fdOf K f=some fd) (h:okP K fd=true) (hb:az fd (iF fd).length):PF K f fd.code fd.qualname (iF fd) (fd.scope.names.drop (iF fd).length) (rQ fd.body) fd.scope:=
 have h1:=ae (ae h);have h2:=ae h1;have h3:=ae h2
 ⟨E1 (xr hf) fun oc od rA hk=>⟨oc,od,rA,_,_,_,_,_,_,_,_,hk.trans (aD (fun x=>some (Obj.mk oc od (.func x) rA)) (lQ (aa h3))),fun vals s hl=>lQ (aa h3)▸BindsTo.of_eq (wV hb vals hl)⟩,aa h2,bM (aa h1),eq_of_beq (aa (ae h)),fun x hx=>bne_iff_ne.mp (iQ.mp (aa h) x hx)⟩
structure UB (K:Frag) (f:Addr) where
 dM:Value
 qual:Str
 ps:List Str
 rest:List (Str × NameKind)
 body:List Stmt
 sc:Scope
 pf:PF K f dM qual ps rest body sc
variable {w:World}
noncomputable def iT (w:World):UB (KK w) 35:=⟨.ref 34, "LispSignal.__init__",["self", "symbol", "data"],_,_,_,⟨⟨_,_,_,_,_,_,_,_,_,_,_,by rfl,wY (n:=3) (fun O O O=>by show _=_; kernel_rfl)⟩,by kernel_rfl,bM (by kernel_rfl),by rfl,by decide⟩⟩
noncomputable def rF (w:World):UB (KK w) 79:=⟨.ref 78, "Cons.__init__",["self", "car", "cdr"],_,_,_,⟨⟨_,_,_,_,_,_,_,_,_,_,_,by rfl,wY (n:=3) (fun O O O=>by show _=_; kernel_rfl)⟩,by kernel_rfl,bM (by kernel_rfl),by rfl,by decide⟩⟩
noncomputable def wM (w:World):UB (KK w) 228:=⟨.ref 227, "wrong",["name", "value"],_,_,_,⟨⟨_,_,_,_,_,_,_,_,_,_,_,by rfl,wY (n:=2) (fun O O=>by show _=_; kernel_rfl)⟩,by kernel_rfl,bM (by kernel_rfl),by rfl,by decide⟩⟩
noncomputable def kf (w:World):UB (KK w) 352:=⟨.ref 351, "Task.__init__",["self", "left", "right", "deep"],_,_,_,⟨⟨_,_,_,_,_,_,_,_,_,_,_,by rfl,wY (n:=4) (fun O O O O=>by show _=_; kernel_rfl)⟩,by kernel_rfl,bM (by kernel_rfl),by rfl,by decide⟩⟩
theorem ip:nsIn (KK w) mainGlobals "LispSignal"=some (some (.ref 38)):=by kernel_rfl
theorem oa:keepIn (KK w) (.ref 38)=true:=by kernel_rfl
theorem BS:nsIn (KK w) mainGlobals "wrong"=some (some (.ref 228)):=by kernel_rfl
theorem CF:keepIn (KK w) (.ref 228)=true:=by kernel_rfl
def g7 (A:Around) (n:Nat):Prop:=A.depth+n<1000∧A.units+10*n<9900
theorem g7.lt {A n} (r:g7 A n):A.depth<recursionLimit:=by have:=r.1;show A.depth<1000;lia
theorem g7.deep {A n} (r:g7 A (n+1)):g7 (A.deeper env) n:=by
 have h1:=r.1;have h2:=r.2
 exact ⟨by show A.depth+1+n<1000;lia,by show A.units+3+10*n<9900;lia⟩
theorem g7.in {A n m} (r:g7 A n) (h:m+1≤n):g7 (A.deeper env) m:=(g7.deep (n:=m) ⟨by have:=r.1;lia,by have:=r.2;lia⟩)
theorem g7.le {A n m} (r:g7 A n) (h:m≤n):g7 A m:=⟨by have:=r.1;lia,by have:=r.2;lia⟩
section
variable {w:World} {aab:Program} {M:Model} {A:Around} {E:Value→Shared→Prop} {s:Shared} {hT:Heap} {env:Env} {ns:List (Str × NameKind)} {aac:List Env} {h₀ h:Heap} {L:Addr} {vs cR:List (Option Value)} {g:GH} {p:Pl} {c:Cells} {v u:Value} {a b:AV}
theorem RB (hk:keepIn (KK w) f=true) (X:(KK w).In h):bW M f h:=keeps_K hk h X
theorem Fm.X (F:Fm hT env ns aac h₀ L vs g h) (T:Tp (KK w) hT):(KK w).In h:=T.nL F.a8
end
theorem OJ 
  (F:Fm hT env ns aac h₀ L vs g h) (e:v'=v) (k:At hT aac g h→Kp aac h₀ h→R (.ok (.ret v)) s'):pH R (.ret v') s':=by
 subst e;exact k F.done F.Ae
section
variable {w:World} {aab:Program} {M:Model} {A:Around} {E:Value→Shared→Prop} {s:Shared} {hT:Heap} {env:Env} {ns:List (Str × NameKind)} {aac:List Env} {h₀ h:Heap} {L:Addr} {vs cR:List (Option Value)} {g g':GH} {p:Pl} {c:Cells} {v u:Value} {a b:AV}
end
noncomputable def GH.set (g:GH) (a:Addr) (o:Obj):GH:=fun b=>if b=a then some o else g b
theorem GH.set_same (g:GH) (a:Addr) (o:Obj):g.set a o a=some o:=bE rfl
theorem GH.au (g:GH) (o:Obj) (h:b≠a):g.set a o b=g b:=aW h
theorem GH.set_set (g:GH) (a:Addr) (o o':Obj):(g.set a o).set a o'=g.set a o':=funext fun b=>if h:b=a then (bE h).trans (bE h).symm else (aW h).trans ((aW h).trans (aW h).symm)
theorem GH.bS (o:Obj) (h:g a=none):GH.le g (g.set a o):=fun b x e=>(aW fun q:b=a=>fg e (q▸h)).trans e
theorem GH.le.none (l:GH.le g g') (h:g' a=none):g a=none:=none_of fun o e=>fg (l _ _ e) h
theorem GH.Lj {g:GH} {x b:Addr} {o y:Obj} (e:g.set x o b=some y):b=x∧o=y∨b≠x∧g b=some y:=
 if q:b=x then .inl ⟨q,cH ((bE q).symm.trans e)⟩ else .inr ⟨q,(aW q).symm.trans e⟩
noncomputable def dz (xs:List Value) (n:Nat):Obj:={ cls:=.type "tuple",data:=.seq xs.toArray n }
section
variable {w:World} {aab:Program} {M:Model} {A:Around} {E:Value→Shared→Prop} {s:Shared} {hT:Heap} {env:Env} {ns:List (Str × NameKind)} {aac:List Env} {h₀ h:Heap} {L:Addr} {vs cR:List (Option Value)} {g g':GH} {p:Pl} {c:Cells} {v u:Value} {a b:AV}
theorem At.fresh (S:At hT l g h):g h.objs.size=none:=none_of fun o e=>absurd (cA (S.a5 _ _ e)) (nF _)
theorem Fm.fresh (F:Fm hT env ns aac h₀ L vs g h):g h.objs.size=none:=F.at_.fresh
theorem Fm.new (F:Fm hT env ns aac h₀ L vs g h) (hx:g x=none):hT.get? x=none:=by
 cases e:hT.get? x with
 | none=>rfl
 | some o=>rw [F.at_.base _ _ e] at hx;cases hx
theorem At.push {l:List Env} (S:At hT l g h) (o:Obj) (hf:o.isFreed=false:=by rfl):At hT l (g.set h.objs.size o) (h.push o):=
 ⟨fun b x e=>GH.bS o S.fresh _ _ (S.base _ _ e),fun b x e=>(GH.Lj e).elim (fun q=>q.1▸q.2▸nH h hf) fun q=>bG _ (S.a5 _ _ q.2),
  fun b hb=>(GH.au _ _ fun q:b=h.objs.size=>Jm (S.cO.mem hb) fun O o ho O=>nF _ (cA (q▸ho))).trans (S.jx _ hb),aS (Kp.of_keeps fun b x e=>bG _ e) S.cO⟩
theorem Fm.push (F:Fm hT env ns aac h₀ L vs g h) (o:Obj) (hf:o.isFreed=false:=by rfl):Fm hT env ns aac h₀ L vs (g.set h.objs.size o) (h.push o):=
 ⟨F.at_.push o hf,F.ok,F.loc.push o,F.Ae.trans (Kp.of_keeps fun b x e=>bG _ e),F.out⟩
theorem At.o6 (S:At hT l g h) (hx:g x=some o):∀b∈lJ l,b≠x:=fun b hb q=>fg hx (q▸S.jx b hb)
theorem At.upd {l:List Env} {h':Heap} (S:At hT l g h) {x:Addr} {o o':Obj} (hx:g x=some o) (hn:hT.get? x=none) (hs:Heap.SameBut x h h') (ho:h'.get? x=some o'):At hT l (g.set x o') h':=
 ⟨fun b y e=>(GH.au _ _ fun q:b=x=>fg e (q▸hn)).trans (S.base _ _ e),fun b y e=>(GH.Lj e).elim (fun q=>q.1▸q.2▸ho) fun q=>(hs.2 b q.1).trans (S.a5 _ _ q.2),fun b hb=>(GH.au _ _ (S.o6 hx b hb)).trans (S.jx b hb),aS (fun b hb y e=>⟨y.slots,(hs.2 b (S.o6 hx b hb)).trans e⟩) S.cO⟩
theorem At.v9 (S:At hT l g h) (hx:g x=some o) (hs:Heap.SameBut x h h'):Kp l h h':=fun b hb y e=>⟨y.slots,(hs.2 b (S.o6 hx b hb)).trans e⟩
theorem Fm.upd (F:Fm hT env ns aac h₀ L vs g h) (hx:g x=some o) (hn:hT.get? x=none) (hs:Heap.SameBut x h h') (ho:h'.get? x=some o'):Fm hT env ns aac h₀ L vs (g.set x o') h':=
 have k:=F.at_.v9 hx hs
 ⟨F.at_.upd hx hn hs ho,F.ok,F.loc.sameBut hs (F.at_.o6 hx L (cN F.ok▸.head _)),F.Ae.trans (fun b hb=>k b (cN F.ok▸.tail _ hb)),F.out⟩
theorem zI (F:Fm hT env ns aac h₀ L vs g s.heap) (hsz:xs.length≤sizeLine)
  (h:∀l h',g l=none→Fm hT env ns aac h₀ L vs (g.set l (listOf xs.toArray 0)) h'→Q (.ref l) {s with heap:=h' }):wpAny M A (newList xs) Q E s:=
 nB (h _ _ F.fresh (F.push _)) (by show xs.toArray.size≤sizeLine;rw [iR];exact hsz)
theorem lH (hp:elts.all aQ=true)
  (h:Ev M A env E elts (fun vs s₁=>wpAny M A (newTuple vs) Q E s₁) s):wpAny M A (eval (.Tuple elts k pos) env) Q E s:=Tuple_ (Ev.spliced hp h)
theorem vd (hp:elts.all aQ=true)
  (h:Ev M A env E elts (fun vs s₁=>wpAny M A (newList vs) Q E s₁) s):wpAny M A (eval (.List elts pos) env) Q E s:=List_ (Ev.spliced hp h)
theorem JR {value slice pos} 
  (h:wpAny M A (eval value env) (fun o s₁=>wpAny M A (eval slice env) (fun i aG=>wpAny M A (subscriptTail value slice o i) Q E aG) E s₁) E s) :
  wpAny M A (eval (.Subscript value slice pos) env) Q E s:=Subscript_ h
theorem Ms (hp:args.all aQ=true)
  (h:wpAny M A (eval o env) (fun ov s₁=>∀pl,wpAny M A (getMethod ov name pl) (fun fx aG=>Ev M A env E args (fun vs bP=>bW M fx.1 bP.heap∧wpAny M A (call fx.1 (fx.2++vs)) Q E bP) aG) E s₁) E s)
  (he:∃pl,eval (.Call (.Attribute o name apos) args [] pos) env=(do
   let ov ←eval o env
   standAt apos.atName
   let (f,first) ←holding [ov] (getMethod ov name pl)
   callWith pos f first (backTo pos (starEach args env)) (backToKw pos (keywordEach [] env))):=by exact ⟨_,rfl⟩) :
  wpAny M A (eval (.Call (.Attribute o name apos) args [] pos) env) Q E s:=by
 obtain ⟨pl,he⟩:=he
 exact methodCall_KW (pl:=pl) (dW h (fun ov s₁ aA=>dW (aA pl) (fun fx aG cE=>A3 hp cE) fun O O x=>x) fun O O x=>x) he
theorem HS (P:Params) (x y:Value) (t u:Tok):lookIn "car" (a7 P x y t u)=some (some x):=by kernel_rfl
theorem HT (P:Params) (x y:Value) (t u:Tok):lookIn "cdr" (a7 P x y t u)=some (some y):=by kernel_rfl
theorem vk:findIn (KK w) (.ref 82) "car"=some none:=by kernel_rfl
theorem vl:findIn (KK w) (.ref 82) "cdr"=some none:=by kernel_rfl
theorem JU:findIn (KK w) (.ref 82) "__getattribute__"=some (some (.builtin "object.__getattribute__")):=by kernel_rfl
theorem dQ (h:VR p v a):handedIn v=true:=by cases h <;> rfl
theorem Qr (h:wpAny (model aab w) A (eval value env) (fun o s₁=>wpAny (model aab w) A (getAttr o attr true) Q E s₁) E s)
  (he:attributeBase value attr env (eval value env)=eval value env:=by rfl):wpAny (model aab w) A (eval (.Attribute value attr pos) env) Q E s:=
 Attribute_any_ h (by
  show (do
   let o ←attributeBase value attr env (eval value env)
   standAt pos.atName
   let r ←holding [o] (getAttr o attr true)
   letTemporaryGo value o r
   pure r)=_
  rw [he])
end
section
variable {w:World} {aab:Program} {A:Around} {R:Result→Shared→Prop} {h:Heap} {g:Array GenState} {d:Drawn} {t:Nat} {os:OsState} {E:Value→Shared→Prop}
theorem HX {R:Prop} (k:∀nm q N bs B0 sn sub ab col dd k0 k1 k2 k3 k5,(KK w).lookup 38=some (excClassObj nm q 38 N bs [.type "Exception",.type "BaseException",.type "object"] B0 sn sub ab col dd k0 k1 k2 k3 k5 "Exception.__new__")→R):R:=k _ _ _ _ _ _ _ _ _ _ _ _ _ _ _ (by rfl)
theorem HW:findIn (KK w) (.ref 38) "__init__"=some (some (.ref 35)):=by kernel_rfl
theorem vG:typeIn (KK w) (.ref 35)=some (.type "function"):=by kernel_rfl
noncomputable def n4 (e0:Addr) (dd:Option Addr):Obj:={ cls:=.ref 38,dict:=dd,data:=.fields #[.ref e0,.none,.none,.none,.bool false,.none]}
theorem qK (X:(KK w).In h) (Ca:rest.length≤sizeLine)
  (hq:∀h',h'=(h.push { cls:=.type "tuple",data:=.seq rest.toArray }).push (n4 h.objs.size none)→ 
   codeAny (model aab w) A (.call (.ref 35) ⟨.ref (h.objs.size+1)::rest,[]⟩) (fun r s'=>match r with | .ok (.ret v)=>v= .none∧Q (.done (.ret (.ref (h.objs.size+1)))) s' | .ok _=>False | .error e=>E e s') ⟨h',g,d,t,os⟩) :
  wpAny (model aab w) A (Builtin.«type.__call__» ⟨.ref 38::rest,[]⟩) Q E ⟨h,g,d,t,os⟩:=by
 refine HX (w:=w) fun nm q N bs B0 sn sub ab col dd k0 k1 k2 k3 k5 hK=> ?_
 have hC:=X _ _ hK
 have F:=PySem.F.excBase_Exception
 repeat (first | with_reducible refine wq hC ?_ | with_reducible refine wpAny_madeBy_exc hC ?_ | wp_step)
 refine codeAny_call_builtin_code (Fb _ F.quiet) (wpAny_check_new_sub F hC ?_)
 refine codeAny_exc_new_sub F hC ?_ Ca
 have QJ:=bG { cls:=.ref 38,data:=.fields #[.ref h.objs.size,.none,.none,.none,.bool false,.none]}
  (bG { cls:=.type "tuple",data:=.seq rest.toArray } hC)
 have Wz:((h.push { cls:=.type "tuple",data:=.seq rest.toArray }).push
   {cls:=.ref 38,data:=.fields #[.ref h.objs.size,.none,.none,.none,.bool false,.none]}).get? (h.objs.size+1)=some
   {cls:=.ref 38,data:=.fields #[.ref h.objs.size,.none,.none,.none,.bool false,.none]}:=by heap_get
 have Wl:(Value.ref 38::[Value.type "Exception",.type "BaseException",.type "object"]).contains (.ref 38)=true:=by simp
 unfold isInstance
 repeat (first | with_reducible refine wq Wz ?_ | (with_reducible refine OL QJ ?_;rw [Wl]) | wp_step)
 have X':(KK w).In ((h.push { cls:=.type "tuple",data:=.seq rest.toArray }).push { cls:=.ref 38,data:=.fields #[.ref h.objs.size,.none,.none,.none,.bool false,.none] }):=
  X.keeps fun b o e=>bG _ (bG _ e)
 refine (z6 X' HW).at ?_
 refine hW (aJ ((bind_fn X' _ vG).at ?_))
 refine aJ (wpAny_call (codeAny_mono (hq _ rfl) fun r s' z=> ?_))
 rcases r with e | (_ | _ | _ | v)
 ·exact z
 ·exact z.elim
 ·exact z.elim
 ·exact z.elim
 obtain ⟨rfl,z⟩:=z
 refine bR ?_
 wp_walk
 exact z
theorem HV (X:(KK w).In h) (Ca:rest.length≤sizeLine)
  (hq:∀h' A',h'=(h.push { cls:=.type "tuple",data:=.seq rest.toArray }).push (n4 h.objs.size none)→A'.depth=A.depth+1→A'.units≤A.units+4→A'.handled=A.handled→A'.frames=A.frames →
   codeAny (model aab w) A' (.call (.ref 35) ⟨.ref (h.objs.size+1)::rest,[]⟩) (fun r s'=>match r with | .ok (.ret v)=>v= .none∧R (.ok (.ret (.ref (h.objs.size+1)))) s' | .ok _=>False | .error e=>R (.error e) s') ⟨h',g,d,t,os⟩) :
  codeAny (model aab w) A (.call (.ref 38) ⟨rest,[]⟩) R ⟨h,g,d,t,os⟩:=by
 refine HX (w:=w) fun nm q N bs B0 sn sub ab col dd k0 k1 k2 k3 k5 hK=> ?_
 have hC:=X _ _ hK
 have f1:=tc_lookup
 have f2:=tc_bind (.ref 38)
 have hT:(⟨h,g,d,t,os⟩:Shared).TypeIs (.ref 38) "type":=⟨_,hC,rfl⟩
 refine codeAny_of_tree ?_
 show wpAny _ _ (callAny (.ref 38) _) _ _ _
 repeat (any_goals (first | assumption | with_reducible refine wq hC ?_ | wp_step))
 refine ⟨rfl,?_⟩
 refine codeAny_call_builtin_at (Fb _ (by decide +kernel)) entry_typeCall (wpAny_check_type_call_sub hC (qK X Ca fun h' e=> ?_))
 refine hq h' _ e ?_ ?_ ?_ ?_
 ·show A.depth+Code.weight (Code.builtin "type.__call__" ⟨.ref 38::rest,[]⟩)=A.depth+1
  rw [show Code.weight (Code.builtin "type.__call__" ⟨.ref 38::rest,[]⟩)=1 from by kernel_rfl]
 ·show A.units+Code.cUnits (Code.builtin "type.__call__" ⟨.ref 38::rest,[]⟩)≤A.units+4
  rw [show Code.cUnits (Code.builtin "type.__call__" ⟨.ref 38::rest,[]⟩)=1 from by kernel_rfl]; omega
 ·rfl
 ·show pushEnvs (Code.envs (Code.builtin "type.__call__" ⟨.ref 38::rest,[]⟩)) A.frames=A.frames
  rw [show Code.envs (Code.builtin "type.__call__" ⟨.ref 38::rest,[]⟩)=[] from by kernel_rfl]
  rfl
end
end Mine
end
section
open PySem PySem.W PySem.Calls PyProof.Rows Builtin.ObjectAttr
namespace Mine
section
variable {w:World} {aab:Program} {A:Around} {R:Result→Shared→Prop} {s:Shared} {E:Value→Shared→Prop}
theorem Nh (X:(KK w).In h):Looks M h (mroOf (.ref 38)) [.ref 38,.type "Exception",.type "BaseException",.type "object"]:=by
 have hc:∃cd,clsIn (KK w) 38=some cd∧cd.mro=[.ref 38,.type "Exception",.type "BaseException",.type "object"]:=⟨_,by rfl,by rfl⟩
 refine bc hc fun cd h1 h2=> ?_;clear hc
 exact (h2)▸((E4 X h1).andThen .now)
theorem vH:mroIn (KK w) 38 (.type "object")=some true:=by kernel_rfl
theorem tw (name:Str) (hn:name= "symbol"∨name= "data"):findIn (KK w) (.ref 38) name=some none:=by
 rcases hn with rfl | rfl <;> kernel_rfl
theorem Ni {e:Addr} {oe:Obj} {name:Str} {tk:Tok} {v:Value} (X:(KK w).In s.heap) (he:s.heap.get? e=some oe) (hc:oe.cls= .ref 38) (hn:name= "symbol"∨name= "data")
  (h:wpAny (model aab w) A.in1 (storeInOwnDict (.ref e) (.ref 38) (.str name tk) name v false)
   (fun fin s'=>match fin with | .done f=>R (.ok f) s' | .again c'=>c'.quiet=true∧codeAny (model aab w) A c' R s') (fun e s'=>R (.error e) s') s) :
  codeAny (model aab w) A (.call (.builtin "object.__setattr__") ⟨[.ref e,.str name tk,v],[]⟩) R s:=by
 have SF:=PySem.F.store_object
 have typ:Looks (model aab w) s.heap (typeOf (.ref e)) (.ref 38):=hc▸(Looks.ld he).andThen .now
 have sub:Looks (model aab w) s.heap (isInstance (.ref e) (.type "object")) true:=typ.andThen (looks_mroIn X vH)
 refine codeAny_call_builtin SF.slot.plain SF.entry (@check_slot (model aab w) _ _ s "object.__setattr__" "object" "__setattr__" (.ref e) [.str name tk,v] [] _ SF.kind SF.split sub (SF.args (.ref e) (.str name tk) v) ?_)
 rw [osa_eq,refuse_eq]
 refine aJ (aJ (typ.here (aJ ((Nh X).here ?_))))
 rw [show refuseLoop (Value.ref e) "__setattr__" [Value.ref 38,Value.type "Exception",Value.type "BaseException",Value.type "object"]=pure () from by kernel_rfl]
 refine bR (aJ (typ.here (aJ ((z6 X (tw name hn)).here (aJ (bR h))))))
set_option tactic.hygienic true in
theorem gX (D:s.heap.get? dx=some (dictOf es n)) (hl:(getL name es).isSome=true) (hz:es.length≤1000)
  (h:∀h' t,Heap.SameBut dx s.heap h'→h'.get? dx=some (dictOf (putL name (PyData.keyHash w.params name) (.str name t) v es) (putN name es n))→Q (.done (.ret .none)) {s with heap:=h',toks:=s.toks+1}) :
  wpAny (model aab w) A (storeInDict dx (.str name tk) name v) Q E s:=by
 refine aJ (bR (aJ ?_))
 refine aJ (aJ (wpAny_askSetting (bR (aJ (wpAny_mkText (aJ (E5 D ?_)))))))
 dsimp only
 have c:(!es.toArray.any (·.key.isStr name) && es.toArray.any (·.refKey))=false:=by
  rw [←Array.any_toList,←Array.any_toList]
  unfold getL at hl
  split at hl
  ·rename_i en he
   rw [ui.mpr ⟨en,Ff he,List.find?_some he⟩];rfl
  ·split at hl
   ·cases hl
   ·rename_i z;rw [Bool.not_eq_true] at z;rw [z,Bool.and_false]
 rw [aRefKeyMayBeTheName_at,c]
 have e1:(Obj.putName name (PyData.keyHash w.params name) (.str name s.toks) v (dictOf es n))=dictOf (putL name (PyData.keyHash w.params name) (.str name s.toks) v es) (putN name es n):=putName_dict ..
 have D':=wB (Obj.putName name (PyData.keyHash w.params name) (.str name s.toks) v) D (by rw [e1];rfl)
 rw [e1] at D'
 refine wpAny_updatePart D ?_
 have hlen:(putL name (PyData.keyHash w.params name) (Value.str name s.toks) v es).length≤es.length+1:=by
  have:∀l:List DictEntry,(putL name (PyData.keyHash w.params name) (Value.str name s.toks) v l).length≤l.length+1:=by
   intro l
   induction l with
   | nil=>simp [putL]
   | cons a r ih=>unfold putL;split <;> simp <;> omega
  exact this es
 refine aJ (wpAny_lookBehind D' (pastItsLine_dict (by rw [iR,gM];lia)) ?_)
 exact bR (h _ _ (wC _ _ _) D')
theorem CY:∃cd,clsIn (KK w) 38=some cd∧cd.hasDict=true:=⟨_,by rfl,by rfl⟩
theorem IK (X:(KK w).In s.heap) (he:s.heap.get? e=some oe) (hc:oe.cls= .ref 38) (hd:oe.dict=none) (hf:oe.data= .fields vs)
  (h:∀h' t,(∀b o,b≠e→s.heap.get? b=some o→h'.get? b=some o)→h'.get? e=some {oe with dict:=some s.heap.objs.size}→h'.get? s.heap.objs.size=some (dictOf [⟨PyData.keyHash w.params name,.str name t,v⟩] 1)→Q (.done (.ret .none)) {s with heap:=h',toks:=s.toks+1}) :
  wpAny (model aab w) A (storeInOwnDict (.ref e) (.ref 38) (.str name tk) name v false) Q E s:=by
 refine bc (CY (w:=w)) fun cd c1 c2=> ?_
 obtain ⟨oc,od,oda,sl⟩:=oe
 dsimp only at hc hd hf
 subst hc hd hf
 refine aJ (bR (aJ ?_))
 refine aJ (E5 he ?_)
 refine aJ ((E4 X c1).here ?_)
 rw [c2]
 have n9:e≠s.heap.objs.size:=eR (cA he)
 refine aJ (wpAny_alloc (aJ (wpAny_update (bG _ he) (bR ?_))))
 have hD:((s.heap.push emptyDict).update e fun o=>{o with dict:=some s.heap.objs.size}).get? s.heap.objs.size=some (dictOf [] 0):=
  (wA _ _ n9).trans (nH s.heap rfl)
 refine gX (s:={s with heap:=(s.heap.push emptyDict).update e fun o=>{o with dict:=some s.heap.objs.size} }) hD rfl (by decide) fun h' t hs Wc=> ?_
 refine h h' t (fun b o hb e'=> ?_) ?_ Wc
 ·rw [hs.2 b (eR (cA e')),wA _ _ (nG hb)]
  exact bG _ e'
 ·rw [hs.2 e n9]
  exact wB _ (bG _ he) rfl
theorem IL (X:(KK w).In s.heap) (he:s.heap.get? e=some oe) (hc:oe.cls= .ref 38) (hd:oe.dict=some de)
  (D:s.heap.get? de=some (dictOf es n)) (hl:(getL name es).isSome=true) (hz:es.length≤1000)
  (h:∀h' t,Heap.SameBut de s.heap h'→h'.get? de=some (dictOf (putL name (PyData.keyHash w.params name) (.str name t) v es) (putN name es n))→Q (.done (.ret .none)) {s with heap:=h',toks:=s.toks+1}) :
  wpAny (model aab w) A (storeInOwnDict (.ref e) (.ref 38) (.str name tk) name v false) Q E s:=by
 refine bc (CY (w:=w)) fun cd c1 c2=> ?_
 obtain ⟨oc,od,oda,sl⟩:=oe
 dsimp only at hc hd
 subst hc hd
 unfold storeInOwnDict
 refine aJ (bR (aJ ?_))
 refine aJ (E5 he ?_)
 refine aJ ((E4 X c1).here ?_)
 rw [c2]
 refine bR ?_
 exact gX D hl hz h
theorem C0 {e:Addr} {oe:Obj} {name:Str} {v:Value} {Q:Unit→Shared→Prop} (X:(KK w).In s.heap) (he:s.heap.get? e=some oe) (hc:oe.cls= .ref 38) (hn:name= "symbol"∨name= "data")
  (h:∀tk A',wpAny (model aab w) A' (storeInOwnDict (.ref e) (.ref 38) (.str name tk) name v false) (fun fin s'=>match fin with | .done (.ret _)=>Q () s' | _=>False) (fun O O=>False) {s with toks:=s.toks+1}) :
  wpAny (model aab w) A (setAttr (.ref e) name v) Q E s:=by
 have typ:Looks (model aab w) s.heap (typeOf (.ref e)) (.ref 38):=hc▸(Looks.ld he).andThen .now
 have hsa:findIn (KK w) (.ref 38) "__setattr__"=some (some (.builtin "object.__setattr__")):=by kernel_rfl
 refine aJ (wpAny_mkText (aJ (aJ (aJ (typ _ _ _ _ (fun O O e=>e) (z6 X hsa _ _ _ _ (fun O O e=>e) (hW ?_)))))))
 rw [PySem.F.store_object.slot.bind]
 refine aJ (bR (aJ (wpAny_call (Ni (s:={s with toks:=s.toks+1}) X he hc hn (dW (h _ _) (fun fin s' z=> ?_) fun O O z=>z.elim)))))
 rcases fin with (_ | _ | _ | v) | _ <;> first | exact z.elim | exact bR (bR z)
end
section
variable {w:World} {aab:Program} {M:Model} {A:Around} {R:Result→Shared→Prop} {s:Shared} {E:Value→Shared→Prop} {hT:Heap} {env:Env} {ns:List (Str × NameKind)} {aac:List Env} {h₀ h:Heap} {L:Addr} {vs:List (Option Value)} {g:GH}
theorem LH {o attr pos' value pos} 
  (h:wpAny M A (eval value env) (fun v s₁=>wpAny M A (eval o env) (fun ov aG=>wpAny M A (setAttr ov attr v) (fun O=>Q .next) E aG) E s₁) E s)
  (hs:swapsWith value (some (.Attribute o attr pos')) pos.line env=pure false:=by rfl) :
  wpAny M A (exec (.Assign [.Attribute o attr pos'] value pos) env) Q E s:=Uz h hs
noncomputable def Lp (P:Params) (sy:Value) (t:Tok):Obj:=dictOf [⟨PyData.keyHash P "symbol",.str "symbol" t,sy⟩] 1
noncomputable def q7 (P:Params) (sy da:Value) (t u:Tok):Obj:=dictOf [⟨PyData.keyHash P "symbol",.str "symbol" t,sy⟩,⟨PyData.keyHash P "data",.str "data" u,da⟩] 2
theorem GH.set_comm (g:GH) (o o':Obj) (h:a≠b):(g.set a o).set b o'=(g.set b o').set a o:=funext fun x=>
 if h1:x=b then (bE h1).trans (((aW fun q:x=a=>h (q.symm.trans h1)).trans (bE h1)).symm) else (aW h1).trans (if h2:x=a then (bE h2).trans (bE h2).symm else (aW h2).trans ((aW h2).trans (aW h1)).symm)
theorem Eg (F:Fm hT env ns aac h₀ L vs g s.heap) (T:Tp (KK w) hT) (he:g e=some (n4 t0 none)) (hn:hT.get? e=none)
  (h:∀h' t' de t,g de=none→Fm hT env ns aac h₀ L vs ((g.set e (n4 t0 (some de))).set de (Lp w.params v t)) h'→Q () {s with heap:=h',toks:=t' }) :
  wpAny (model aab w) A (setAttr (.ref e) "symbol" v) Q E s:=by
 have FQ:=F.at_.a5 _ _ he
 refine C0 (F.X T) FQ rfl (.inl rfl) fun tk A'=> ?_
 refine IK (s:={s with toks:=s.toks+1}) (F.X T) FQ rfl rfl rfl fun h' t k1 k2 k3=> ?_
 refine h h' _ s.heap.objs.size t F.fresh ?_
 have n9:e≠s.heap.objs.size:=eR (cA FQ)
 have Zz:∀b∈lJ (env::aac),b≠e:=fun b hb q=>by have:=F.at_.jx b hb;rw [q,he] at this;cases this
 have kp:Kp (env::aac) s.heap h':=fun b hb o eo=>⟨o.slots,k1 b o (Zz b hb) eo⟩
 refine F.back ⟨fun b o eb=> ?_,fun b o eb=> ?_,fun b hb=> ?_,aS kp F.at_.cO⟩ kp
 ·have hb1:b≠e:=fun q=>by rw [q,hn] at eb;cases eb
  have Wg:b≠s.heap.objs.size:=fun q=>by have:=F.at_.base _ _ eb;rw [q,F.fresh] at this;cases this
  rw [GH.au _ _ Wg,GH.au _ _ hb1];exact F.at_.base _ _ eb
 ·by_cases q:b=s.heap.objs.size
  ·subst q;rw [GH.set_same] at eb;cases eb;exact k3
  ·rw [GH.au _ _ q] at eb
   by_cases q':b=e
   ·cases q';rw [GH.set_same] at eb;cases eb;exact k2
   ·rw [GH.au _ _ q'] at eb;exact k1 _ _ q' (F.at_.a5 _ _ eb)
 ·have Wg:b≠s.heap.objs.size:=fun q=>by
   have:∀ {l:List Env},s.heap.FunFrames H0 l→b∈lJ l→False:=by
    intro l
    induction l with
    | nil=>intro _ hm;cases hm
    | cons e r ih=>
     rintro ⟨_,⟨L',o,hf,_,ho,_⟩,c⟩ hm
     simp only [lJ,Fg,hf] at hm
     rcases cF.mp hm with q' | q'
     ·rw [←q',q] at ho;exact nF _ (cA ho)
     ·exact ih c q'
   exact this F.at_.cO hb
  rw [GH.au _ _ Wg,GH.au _ _ (Zz b hb)];exact F.at_.jx _ hb
theorem Eh (F:Fm hT env ns aac h₀ L vs g s.heap) (T:Tp (KK w) hT) (he:g e=some (n4 t0 (some de))) (hd:g de=some (Lp w.params sy t)) (hn:hT.get? de=none)
  (h:∀h' t' u,Fm hT env ns aac h₀ L vs (g.set de (q7 w.params sy v t u)) h'→Q () {s with heap:=h',toks:=t' }) :
  wpAny (model aab w) A (setAttr (.ref e) "data" v) Q E s:=by
 have FQ:=F.at_.a5 _ _ he
 refine C0 (F.X T) FQ rfl (.inr rfl) fun tk A'=> ?_
 refine IL (s:={s with toks:=s.toks+1}) (F.X T) FQ rfl rfl (F.at_.a5 _ _ hd) rfl (by simp) fun h' u hs k=> ?_
 exact h h' _ u (F.upd hd hn hs (by rw [k];rfl))
theorem Ee (T:Tp (KK w) hT) (S:At hT aac g s.heap) (hA:A.frames=some aac) (r:g7 A 1) (he:g e=some (n4 t0 none)) (hn:hT.get? e=none)
  (k:∀h' t' de t u,g de=none→At hT aac ((g.set e (n4 t0 (some de))).set de (q7 w.params sy da t u)) h'→Kp aac s.heap h'→R (.ok (.ret .none)) {s with heap:=h',toks:=t' }) :
  codeAny (model aab w) A (.call (.ref 35) ⟨[.ref e,sy,da],[]⟩) R s:=by
 refine enter T (iT w).pf S hA r.lt rfl fun env L aA tW hE hA F=> ?_
 refine dg (LH (zH F (.tail (.head)) (zH F .head (Eg F T he hn fun h' t' de t n8 F'=>iG (dg (LH (zH F' (.tail (.tail .head)) (zH F' .head ?_)))))))) 
 have n9:de≠e:=fun q=>by rw [q,he] at n8;cases n8
 refine Eh F' T (t0:=t0) (de:=de) (sy:=sy) (t:=t) (by rw [GH.au _ _ (nG n9)];exact GH.set_same _ _ _) (GH.set_same _ _ _) (F.new n8) fun zl TV u Pr=>iG (yw ?_)
 rw [GH.set_set] at Pr
 exact OJ (v:=.none) Pr rfl fun a b=>k zl TV de t u n8 a b
structure rL (hT:Heap) (P:Params) (g g':GH) (e:Addr) (sy da:Value):Prop where
 le:GH.le g g'
 new:g e=none
 nT:hT.get? e=none
 ex:∃t0 de t u,g' e=some (n4 t0 (some de))∧g' de=some (q7 P sy da t u)∧de≠e∧g de=none
theorem Ef (T:Tp (KK w) hT) (S:At hT aac g s.heap) (hA:A.frames=some aac) (r:g7 A 3)
  (k:∀h' t' g' e,rL hT w.params g g' e sy da→At hT aac g' h'→Kp aac s.heap h'→R (.ok (.ret (.ref e))) {s with heap:=h',toks:=t' }) :
  codeAny (model aab w) A (.call (.ref 38) ⟨[sy,da],[]⟩) R s:=by
 obtain ⟨hp,gs,d,tk,os⟩:=s
 have X:(KK w).In hp:=T.nL S.a8
 refine HV X (by show 2≤sizeLine;decide) fun h' A' eh hd hu hh hf=> ?_
 have S1:=S.push { cls:=.type "tuple",data:=.seq [sy,da].toArray }
 have n1:=S.fresh
 have S2:=S1.push (n4 hp.objs.size none)
 have n2:=S1.fresh
 rw [←eh] at S2
 have sz:(hp.push { cls:=.type "tuple",data:=.seq [sy,da].toArray }).objs.size=hp.objs.size+1:=wD ..
 rw [sz] at S2 n2
 have kk:∀b o,hp.get? b=some o→h'.get? b=some o:=fun b o e=>by rw [eh];exact bG _ (bG _ e)
 have Pg:=GH.bS (g:=g) { cls:=.type "tuple",data:=.seq [sy,da].toArray } n1
 have Z6:=GH.bS (n4 hp.objs.size none) n2
 have Hg:hT.get? (hp.objs.size+1)=none:=by
  cases e:hT.get? (hp.objs.size+1) with
  | none=>rfl
  | some o=>have:=Pg _ _ (S.base _ _ e);cases (n2).symm.trans this
 refine Ee (s:=⟨h',gs,d,tk,os⟩) T S2 (by rw [hf];exact hA) (by have h1:=r.1;have h2:=r.2;exact ⟨by lia,by lia⟩) (GH.set_same _ _ _) Hg fun zl TV de t u n8 S3 K3=> ?_
 refine ⟨rfl,k zl TV _ _ ?_ S3 ((Kp.of_keeps kk).trans K3)⟩
 have ne:de≠hp.objs.size+1:=fun q=>by rw [q,GH.set_same] at n8;cases n8
 refine ⟨fun b o e=> ?_,Pg.none n2,Hg,hp.objs.size,de,t,u,?_,GH.set_same _ _ _,ne,Pg.none (Z6.none n8)⟩
 ·have b1:b≠de:=fun q=>by have:=Z6 _ _ (Pg _ _ e);rw [q,n8] at this;cases this
  have b2:b≠hp.objs.size+1:=fun q=>by have:=Pg _ _ e;rw [q,n2] at this;cases this
  rw [GH.au _ _ b1,GH.au _ _ b2,GH.au _ _ b2];exact Pg _ _ e
 ·rw [GH.au _ _ (nG ne)];exact GH.set_same _ _ _
end
inductive Tb | raw | fly | held (L:Addr)
def mh (g:GH) (e:Addr) (h:Heap) (vs:Array Value) (x:Value):Prop:=
 ∃T oT ts,vs[1]?=some (.ref T)∧g T=none∧T≠e∧h.get? T=some oT∧oT.data= .fields ts∧ts[3]?=some x
def PC (g:GH) (e:Addr) (h:Heap) (vs:Array Value):Tb→Prop
 | .raw=>vs[1]?=some .none
 | .fly=>mh g e h vs .none
 | .held L=>mh g e h vs (rawInt L)
structure Ex (P:Params) (g:GH) (e:Addr) (h:Heap) (tb:Tb) (sy:Value):Prop where
 ge:g e=none
 ex:∃oe vs de da t u,h.get? e=some oe∧oe.cls= .ref 38∧oe.dict=some de∧oe.data= .fields vs∧g de=some (q7 P sy da t u)∧PC g e h vs tb
section
variable {w:World} {aab:Program} {M:Model} {A:Around} {R:Result→Shared→Prop} {s:Shared} {E:Value→Shared→Prop} {hT:Heap} {env:Env} {ns:List (Str × NameKind)} {aac:List Env} {h₀ h h':Heap} {L e:Addr} {vs:List (Option Value)} {g:GH} {sy:Value} {P:Params}
theorem jR (f:h.FunFrames H0 l) (ho:h.get? b=some o) (hd:o.data= .fields fs):b∉lJ l:=fun hm=>by
 refine Jm (f.mem hm) fun O o' oU hn=> ?_
 rw [ho] at oU;cases oU;exact hn _ hd
theorem Fm.slots (F:Fm hT env ns aac h₀ L vs g h) (x:Heap.SlotsOnly (lJ (env::aac)) h h'):Fm hT env ns aac h₀ L vs g h':=
 F.back ⟨F.at_.base,fun b o e=>(x.2.1 b fun hm=>by have:=F.at_.jx b hm;cases (e).symm.trans this).trans (F.at_.a5 b o e),F.at_.jx,F.at_.cO.of_slotsOnly x⟩ fun b O o e=>x.2.2 b o e
theorem Fm.qu (F:Fm hT env ns aac h₀ L vs g h) (hg:g b=none) (ho:h.get? b=some o) (hd:o.data= .fields fs) (hs:Heap.SameBut b h h'):Fm hT env ns aac h₀ L vs g h':=by
 have nf:=jR F.at_.cO ho hd
 have kp:Kp (env::aac) h h':=fun c hc y e=>⟨y.slots,(hs.2 c fun q=>nf (q▸hc)).trans e⟩
 exact F.back ⟨F.at_.base,fun c y e=>(hs.2 c fun q=>by rw [q,hg] at e;cases e).trans (F.at_.a5 c y e),F.at_.jx,aS kp F.at_.cO⟩ kp
theorem Fm.SG (F:Fm hT env ns aac h₀ L vs g h) (o:Obj):Fm hT env ns aac h₀ L vs g (h.push o):=by
 have kp:Kp (env::aac) h (h.push o):=Kp.of_keeps fun b x e=>bG _ e
 exact F.back ⟨F.at_.base,fun c y e=>bG _ (F.at_.a5 c y e),F.at_.jx,aS kp F.at_.cO⟩ kp
theorem YD {ts:Array Value} {x y:Value} (h:ts[3]?=some x):(ts.setIfInBounds 3 y)[3]?=some y:=by
 obtain ⟨l,_⟩:=uj.mp h
 simp [l]
theorem YC {ts:Array Value} {x y:Value} (h:ts[1]?=some x):(ts.setIfInBounds 1 y)[1]?=some y:=by
 obtain ⟨l,_⟩:=uj.mp h
 simp [l]
theorem tG {oe:Obj} {es:Array Value} {head x1:Value} {hadNext:Bool} {Q:Unit→Shared→Prop} (F:Fm hT env ns aac h₀ L vs g s.heap) (hA:A.frames=some (env::aac))
  (ge:g e=none) (he:s.heap.get? e=some oe) (hd:oe.data= .fields es) (h1:es[1]?=some x1)
  (h:∀h' T,Fm hT env ns aac h₀ L vs g h'→h'.get? e=some (Obj.mapFields (·.setIfInBounds 1 (.ref T)) oe)→mh g e h' (es.setIfInBounds 1 (.ref T)) (rawInt L)→Q () {s with heap:=h' }) :
  wpAny M A (do let a ←frameOf env;let pl ←entryPlaceOf L hadNext;let b ←EntryCells.newEntry head a .none (rawInt L) .none pl;setField (.ref e) 1 b) Q E s:=by
 refine aJ (wpAny_frameOf_fun hA F.at_.cO F.ok.fr fun aA kO=> ?_)
 have rG:=F.slots kO
 have J5:aA.get? e=some oe:=(kO.2.1 e (jR F.at_.cO he hd)).trans he
 refine aJ (wpAny_entryPlaceOf fun pl MU=> ?_)
 refine aJ (nB ?_ (MU.sizeOk5 _ _ _ _ _))
 have B4:=bG (h:=aA) { cls:=.type "traceback",dict:=none,data:=.fields ([head,.ref L,.none,rawInt L,.none]++(if pl.isEmpty then List.replicate 6 Value.none else pl)).toArray } J5
 have hsz:=(uj.mp h1).1
 refine wpAny_setField B4 hd hsz ?_
 have J0:aA.objs.size≠e:=Aa (cA J5)
 have QX:=yD hd (·.setIfInBounds 1 (Value.ref aA.objs.size))
 have QZ:=wB (Obj.mapFields (·.setIfInBounds 1 (Value.ref aA.objs.size))) B4 (Obj.isFreed_of_fields QX)
 have QL:=(wA (aA.push { cls:=.type "traceback",dict:=none,data:=.fields ([head,.ref L,.none,rawInt L,.none]++(if pl.isEmpty then List.replicate 6 Value.none else pl)).toArray })
  (Obj.mapFields (·.setIfInBounds 1 (Value.ref aA.objs.size))) (nG J0)).trans (nH aA rfl)
 refine h _ aA.objs.size ((rG.SG _).qu ge B4 hd (wC _ _ _)) QZ ⟨aA.objs.size,_,_,YC h1,rG.fresh,J0,QL,rfl,rfl⟩
theorem Tb.MN (h:Tb.held L= .held L'):L'=L:=by cases h;rfl
theorem DQ:(rawInt L == rawInt L)=true:=by simp [rawInt]
theorem xY {o:Obj} {f:Array Value→Array Value}:(o.mapFields f).dict=o.dict:=by
 cases o with | mk c d dt sl=>cases dt <;> rfl
theorem Ex.k {tb:Tb} {R:Prop} (X:Ex P g e h tb sy) (k:∀oe vs de da t u,h.get? e=some oe→oe.cls= .ref 38→oe.dict=some de→oe.data= .fields vs→g de=some (q7 P sy da t u)→PC g e h vs tb→R):R:=
 X.ex.elim fun oe h=>h.elim fun vs h=>h.elim fun de h=>h.elim fun da h=>h.elim fun t h=>h.elim fun u h=>k oe vs de da t u h.1 h.2.1 h.2.2.1 h.2.2.2.1 h.2.2.2.2.1 h.2.2.2.2.2
theorem mh.k {x:Value} {R:Prop} {cR:Array Value} (ht:mh g e h cR x) (k:∀T oT ts,cR[1]?=some (.ref T)→g T=none→T≠e→h.get? T=some oT→oT.data= .fields ts→ts[3]?=some x→R):R:=
 ht.elim fun T h=>h.elim fun oT h=>h.elim fun ts h=>k T oT ts h.1 h.2.1 h.2.2.1 h.2.2.2.1 h.2.2.2.2.1 h.2.2.2.2.2
theorem note {tb:Tb} {Q:Unit→Shared→Prop} (F:Fm hT env ns aac h₀ L vs g s.heap) (hA:A.frames=some (env::aac)) (X:Ex P g e s.heap tb sy) (xy:∀L',tb= .held L'→L'=L)
  (h:∀h',Fm hT env ns aac h₀ L vs g h'→Ex P g e h' (.held L) sy→Q () {s with heap:=h' }):wpAny M A (noteFrame (.ref e) env) Q E s:=X.k fun oe es de da t u he hc J4 hd n8 ht=>by
 unfold noteFrame
 rw [F.ok.fr]
 induction tb with
 | raw=>exact aJ (ua he hd ht (tG (hadNext:=false) F hA X.ge he hd ht fun h' T F' FQ MW=>h h' F' ⟨X.ge,_,_,de,da,t,u,FQ,(Obj.cls_mapFields _ _).trans hc,xY.trans J4,yD hd _,n8,MW⟩))
 | held L'=>exact mh.k ht fun T oT ts h1 gT J0 hT uR h3=>aJ (ua he hd h1 (aJ (ua hT uR h3 (wpAny_of_eq (bE (xy L' rfl▸DQ)) (h _ F ⟨X.ge,oe,es,de,da,t,u,he,hc,J4,hd,n8,xy L' rfl▸ht⟩)))))
 | fly=>exact mh.k ht fun T oT ts h1 gT J0 hT uR h3=>aJ (ua he hd h1 (aJ (ua hT uR h3 (aJ (wpAny_setField hT uR (uj.mp h3).1
   (tG (hadNext:=true) (s:={s with heap:=s.heap.update T (Obj.mapFields (·.setIfInBounds 3 Value.none))}) (F.qu gT hT uR (wC s.heap T _)) hA X.ge ((wA _ _ J0).trans he) hd h1 fun h' T' F' FQ MW=>h h' F' ⟨X.ge,_,_,de,da,t,u,FQ,(Obj.cls_mapFields _ _).trans hc,xY.trans J4,yD hd _,n8,MW⟩))))))
noncomputable def tbF (fr:Option Addr):Tb:=fr.rec (motive:=fun O=>Tb) .fly .held
theorem qo {tb:Tb} {fr:Option Addr} {Q:Unit→Shared→Prop} (F:Fm hT env ns aac h₀ L vs g s.heap) (X:Ex P g e s.heap tb sy) (xy:tb≠ .raw)
  (h:∀h',Fm hT env ns aac h₀ L vs g h'→Ex P g e h' (tbF fr) sy→Q () {s with heap:=h' }):wpAny M A (setFlight (.ref e) fr) Q E s:=X.k fun oe es de da t u he hc J4 hd n8 ht=>by
 have:∃x,mh g e s.heap es x:=by
  induction tb with
  | raw=>exact (xy rfl).elim
  | fly=>exact ⟨_,ht⟩
  | held L'=>exact ⟨_,ht⟩
 exact this.elim fun x ht=>mh.k ht fun T oT ts h1 gT J0 hT uR h3=>aJ (ua he hd h1 (wpAny_setField hT uR (uj.mp h3).1 (h _ (F.qu gT hT uR (wC _ _ _)) (by
  have hdT':=yD uR (·.setIfInBounds 3 ((fr.elim Value.none fun f=>rawInt f)))
  have r:mh g e _ es (fr.elim Value.none fun f=>rawInt f):=⟨T,_,_,h1,gT,J0,wB (Obj.mapFields (·.setIfInBounds 3 ((fr.elim Value.none fun f=>rawInt f)))) hT (Obj.isFreed_of_fields hdT'),hdT',YD h3⟩
  refine ⟨X.ge,oe,es,de,da,t,u,(wA s.heap _ J0).trans he,hc,J4,hd,n8,?_⟩
  cases fr <;> exact r))))
structure Pq (hT:Heap) (P:Params) (aac:List Env) (g:GH) (h:Heap) (e:Value) (h':Heap):Prop where
 ex:∃a g' sy t,e= .ref a∧sy= .str "wrong-type-argument" t∧GH.le g g'∧At hT aac g' h'∧Kp aac h h'∧Ex P g' a h' .fly sy
@[elab_as_elim] theorem Pq.k {e:Value} {R:Value→Prop} (X:Pq hT P aac g h e h') (k:∀a g' t,GH.le g g'→At hT aac g' h'→Kp aac h h'→Ex P g' a h' .fly (.str "wrong-type-argument" t)→R (.ref a)):R e:=
 X.ex.elim fun a h=>h.elim fun g' h=>h.elim fun sy h=>h.elim fun t h=>h.1.symm▸k a g' t h.2.2.1 h.2.2.2.1 h.2.2.2.2.1 (h.2.1▸h.2.2.2.2.2)
theorem leaveX (F:Fm hT env ns aac h₀ L vs g s.heap) (hA:A.frames=some (env::aac)) (X:Ex P g e s.heap tb (.str "wrong-type-argument" t)) (xy:∀L',tb= .held L'→L'=L) (hg:GH.le hJ g)
  (k:∀h',Pq hT P aac hJ h₀ (.ref e) h'→R (.error (.ref e)) {s with heap:=h' }):FJ M A env R (.ref e) s:=by
 exact aJ (note F hA X xy fun aA rG yX=>qo (s:={s with heap:=aA}) rG yX nofun fun cE iU rO=>k cE ⟨e,g,_,t,rfl,rfl,hg,iU.done,iU.Ae,rO⟩)
end
noncomputable def GH.hide (g:GH) (a:Addr):GH:=fun b=>if b=a then none else g b
section
variable {w:World} {aab:Program} {M:Model} {A:Around} {R:Result→Shared→Prop} {s:Shared} {E:Value→Shared→Prop} {hT:Heap} {env:Env} {ns:List (Str × NameKind)} {aac:List Env} {h₀ h h':Heap} {L e:Addr} {vs:List (Option Value)} {g hJ:GH} {sy da:Value}
theorem DP (hh:A.handled=none)
  (h:wpAny M A x (fun v s₁=>∃e oe vs,v= .ref e∧(KK w).In s₁.heap∧s₁.heap.get? e=some oe∧oe.cls= .ref 38∧oe.data= .fields vs∧vs[1]?=some .none∧E (.ref e) s₁) E s) :
  wpAny M A (raiseStmt env (some x) none) Q E s:=by
 refine HX (w:=w) fun nm q N bs B0 sn sub ab col dd k0 k1 k2 k3 k5 hK=> ?_
 refine aJ (dW h (fun v s₁ aA=> ?_) fun O O x=>x)
 refine nv aA fun e oe vs ev X he hc hd hv hE=> ?_
 rw [ev]
 have hC:=X _ _ hK
 obtain ⟨oc,od,odt,rA⟩:=oe
 dsimp only at hc hd
 subst hc hd
 obtain ⟨hp,g,d,tk,os⟩:=s₁
 have Wk:(Value.ref 38::[Value.type "Exception",.type "BaseException",.type "object"]).contains (.type "BaseException")=true:=by decide
 repeat (first | with_reducible refine wq he ?_ | with_reducible refine wq hC ?_ | (with_reducible refine OL hC ?_;rw [Wk]) | (with_reducible refine ua he rfl hv ?_) | wp_step)
 exact wpAny_raiseNew_none hh hE
def LQ (w:World) (E:Value→Shared→Prop) (v:Value) (s₁:Shared):Prop:=∃e oe vs,v= .ref e∧(KK w).In s₁.heap∧s₁.heap.get? e=some oe∧oe.cls= .ref 38∧oe.data= .fields vs∧vs[1]?=some .none∧E (.ref e) s₁
theorem x_raise (hh:A.handled=none) (h:wpAny M A (eval x env) (LQ w E) E s):wpAny M A (exec (.Raise (some x) none pos) env) Q E s:=by
 rw [arm_exec_Raise]
 refine aJ (rq ?_)
 exact DP (w:=w) hh (aJ (dW h (fun v s₁ aA=>aJ (rq (bR aA))) fun O O x=>x))
theorem He:GH.le (g.hide e) g:=fun b o h=>by
 unfold GH.hide at h
 split at h
 ·cases h
 ·exact h
end
end Mine
end
section
open PySem PySem.W PySem.Calls PyProof.Rows
namespace Mine
structure Cx (w:World) (hT:Heap) (A:Around) (aac:List Env) (n:Nat):Prop where
 T:Tp (KK w) hT
 fr:A.frames=some aac
 hh:A.handled=none
 room:g7 A n
section
variable {w:World} {aab:Program} {M:Model} {A:Around} {R:Result→Shared→Prop} {s:Shared} {E:Value→Shared→Prop} {hT:Heap} {env:Env} {ns:List (Str × NameKind)} {aac:List Env} {h₀ h h':Heap} {L e:Addr} {vs cR:List (Option Value)} {g hJ:GH} {n m:Nat}
 {f:Addr} {dM:Value} {qual:Str} {ps:List Str} {rest:List (Str × NameKind)} {body:List Stmt} {sc:Scope} {vals:List Value}
theorem Cx.le (X:Cx w hT A aac n) (h:m≤n):Cx w hT A aac m:=⟨X.T,X.fr,X.hh,X.room.le h⟩
theorem Cx.in (X:Cx w hT A aac n) (h:m+1≤n):Cx w hT (A.deeper env) (env::aac) m:=
 ⟨X.T,by show A.frames.map _=_;rw [X.fr];rfl,X.hh,X.room.in h⟩
theorem enterX (X:Cx w hT A aac n) (hn:m+1≤n) (P:PF (KK w) f dM qual ps rest body sc) (S:At hT aac g s.heap) (hlen:vals.length=ps.length)
  (h:∀env L aA tW,env=envX qual sc L f dM []→Cx w hT (A.deeper env) (env::aac) m→Fm hT env (ps.map (fun p=>(p,NameKind.local))++rest) aac s.heap L (vals.map some++List.replicate rest.length none) g aA →
   wpAny (model aab w) (A.deeper env) (execs body env) (pH R) (FJ (model aab w) (A.deeper env) env R) {s with heap:=aA,toks:=tW}) :
  codeAny (model aab w) A (.call (.ref f) ⟨vals,[]⟩) R s:=
 enter X.T P S X.fr X.room.lt hlen fun env L aA tW e O F=>h env L aA tW e (X.in hn) F
def PD (A:Around) (M:Model) (I:Nat→Shared→Prop) (n:Nat) (Q:Flow→Shared→Prop) (f:Flow) (bP:Shared):Prop:=match f with
 | .next | .cont=>∃m,m<n∧I m bP
 | .brk=>Q .next bP
 | .ret v=>Q (.ret v) bP
def rH (M:Model) (A:Around) (env:Env) (E:Value→Shared→Prop):Value→Shared→Prop:=notedBy M A env (cameBackBy M A env E)
theorem CV (F:Fm hT env ns aac h₀ L vs g s.heap) (hA:A.frames=some (env::aac)) (X:Ex P g a s.heap tb sy) (xy:∀L',tb= .held L'→L'=L)
  (k:∀h',Fm hT env ns aac h₀ L vs g h'→Ex P g a h' (.held L) sy→E (.ref a) {s with heap:=h' }):rH M A env E (.ref a) s:=
 note F hA X xy fun aA rG yX=>yX.k fun oe es de da t1 u he hc J4 hd n8 ht=>mh.k ht fun T oT ts h1 O O O O O=>by
  unfold cameBackBy
  refine aJ (ua (s:={s with heap:=aA}) he hd h1 ?_)
  rw [aW (by simp),F.ok.fr]
  exact qo (s:={s with heap:=aA}) rG yX nofun fun cE iU rO=>k cE iU rO
theorem uU (h:Q () s):wpAny M A (assignInOrder [] l) Q E s:=bR h
theorem lE (h:wpAny M A (t x) (fun O s₁=>wpAny M A (assignInOrder ts xs) Q E s₁) E s) :
  wpAny M A (assignInOrder (t::ts) (x::xs)) Q E s:=by
 show wpAny M A (do holding xs (t x);assignInOrder ts xs) Q E s
 exact aJ (hW h)
theorem mj (h:wpAny M A (storeName env x v) Q E s):wpAny M A (assign (.Name x pos) env v) Q E s:=assign_Name h
theorem AG (h:wpAny M A (storeName env x v) Q E s):wpAny M A (bindName env x v) Q E s:=bindName_ h
theorem OI {elts k tpos value pos} 
  (h:wpAny M A (eval value env) (fun v s₁=>wpAny M A (assign (.Tuple elts k tpos) env v) (fun O=>Q .next) E s₁) E s)
  (hs:swapsWithSole [.Tuple elts k tpos] value pos.line env=pure false:=by rfl)
  (hw:swappedStores [.Tuple elts k tpos] value env=pure none:=by rfl):wpAny M A (exec (.Assign [.Tuple elts k tpos] value pos) env) Q E s:=Assign_Tuple h hs hw
end
structure f7 (s s':Shared):Prop where
 gens:s'.gens=s.gens
 drawn:s'.drawn=s.drawn
 os:s'.os=s.os
theorem f7.refl (s:Shared):f7 s s:=⟨rfl,rfl,rfl⟩
theorem f7.trans (x:f7 a b) (y:f7 b c):f7 a c:=⟨y.1.trans x.1,y.2.trans x.2,y.3.trans x.3⟩
theorem f7.mk' (s:Shared) (h:Heap) (t:Nat):f7 s {s with heap:=h,toks:=t}:=⟨rfl,rfl,rfl⟩
structure Fs (hT:Heap) (env:Env) (ns:List (Str × NameKind)) (aac:List Env) (s₀:Shared) (L:Addr) (vs:List (Option Value)) (g:GH) (s:Shared):Prop where
 f:Fm hT env ns aac s₀.heap L vs g s.heap
 same:f7 s₀ s
structure Bk (aac:List Env) (s s':Shared):Prop where
 kp:Kp aac s.heap s'.heap
 same:f7 s s'
theorem Bk.refl (aac:List Env) (s:Shared):Bk aac s s:=⟨Kp.refl _ _,f7.refl _⟩
theorem Bk.trans (x:Bk aac a b) (y:Bk aac b c):Bk aac a c:=⟨x.1.trans y.1,x.2.trans y.2⟩
section
variable {w:World} {aab:Program} {M:Model} {A:Around} {R:Result→Shared→Prop} {s s' s₀:Shared} {E:Value→Shared→Prop} {hT:Heap} {env:Env} {ns:List (Str × NameKind)} {aac:List Env} {L e:Addr} {vs cR:List (Option Value)} {g g' hJ:GH} {n m:Nat}
 {f:Addr} {dM:Value} {qual:Str} {ps:List Str} {rest:List (Str × NameKind)} {body:List Stmt} {sc:Scope} {vals:List Value} {x:Str} {v u:Value} {pos:Pos} {a b:AV} {p:Pl} {c:Cells}
theorem Fs.to (F:Fs hT env ns aac s₀ L vs g s) (f:Fm hT env ns aac s₀.heap L cR g' h'):Fs hT env ns aac s₀ L cR g' {s with heap:=h',toks:=t' }:=⟨f,F.same.trans (f7.mk' _ _ _)⟩
theorem Fs.S (F:Fs hT env ns aac s₀ L vs g s):At hT (env::aac) g s.heap:=F.f.at_
theorem Fs.X (F:Fs hT env ns aac s₀ L vs g s) (T:Tp (KK w) hT):(KK w).In s.heap:=F.f.X T
theorem Fs.back (F:Fs hT env ns aac s₀ L vs g s) (S:At hT (env::aac) g' s'.heap) (k:Bk (env::aac) s s'):Fs hT env ns aac s₀ L vs g' s':=⟨F.f.back S k.kp,F.same.trans k.same⟩
theorem Fs.bk (F:Fs hT env ns aac s₀ L vs g s):Bk aac s₀ s:=⟨F.f.Ae,F.same⟩
theorem qk (X:Cx w hT A aac n) (hn:m+1≤n) (P:PF (KK w) f dM qual ps rest body sc) (S:At hT aac g s.heap) (hlen:vals.length=ps.length)
  (h:∀env L s₁,env=envX qual sc L f dM []→Cx w hT (A.deeper env) (env::aac) m→Fs hT env (ps.map (fun p=>(p,NameKind.local))++rest) aac s L (vals.map some++List.replicate rest.length none) g s₁ →
   wpAny (model aab w) (A.deeper env) (execs body env) (pH R) (FJ (model aab w) (A.deeper env) env R) s₁) :
  codeAny (model aab w) A (.call (.ref f) ⟨vals,[]⟩) R s:=
 enterX X hn P S hlen fun env L aA tW e X' F=>h env L _ e X' ⟨F,f7.mk' _ _ _⟩
theorem E3 (F:Fs hT env ns aac s₀ L vs g s) (e:v'=v) (k:At hT aac g s.heap→Bk aac s₀ s→R (.ok (.ret v)) s):pH R (.ret v') s:=by
 subst e;exact k F.f.done F.bk
theorem ld (F:Fs hT env ns aac s₀ L vs g s) (hl:Loc ns vs x .local v) (h:Q v s):wpAny M A (eval (.Name x pos) env) Q E s:=zH F.f hl h
theorem st (F:Fs hT env ns aac s₀ L vs g s) (hp:FL ns vs x .local v cR) (h:∀s',Fs hT env ns aac s₀ L cR g s'→Q () s'):wpAny M A (storeName env x v) Q E s:=XG F.f hp fun h' t' F'=>h _ (F.to F')
theorem gl (F:Fs hT env ns aac s₀ L vs g s) (T:Tp (KK w) hT) (e:nsIn (KK w) mainGlobals x=some (some v)) (hm:(x,NameKind.globalImplicit)∈ns) (h:Q v s):wpAny M A (eval (.Name x pos) env) Q E s:=XF F.f T e hm h
theorem V4 {k} (F:Fs hT env ns aac s₀ L vs g s) (h:∀t s',Fs hT env ns aac s₀ L vs g s'→Q (.int i t) s'):wpAny M A (eval (.Constant (.int i) k pos) env) Q E s:=xo fun t t'=>h t _ (F.to F.f)
theorem V6 {k} (F:Fs hT env ns aac s₀ L vs g s) (h:∀t s',Fs hT env ns aac s₀ L vs g s'→Q (.str x t) s'):wpAny M A (eval (.Constant (.str x) k pos) env) Q E s:=mI fun t t'=>h t _ (F.to F.f)
theorem kK {f:Value} (hk:keepIn (KK w) f=true) (F:Fs hT env ns aac s₀ L vs g s) (T:Tp (KK w) hT):bW M f s.heap:=RB hk (F.X T)
theorem So (F:Fs hT env ns aac s₀ L vs g s) (hsz:xs.length≤sizeLine)
  (h:∀l s',g l=none→Fs hT env ns aac s₀ L vs (g.set l (listOf xs.toArray 0)) s'→Q (.ref l) s'):wpAny M A (newList xs) Q E s:=zI F.f hsz fun l h' hl F'=>h l _ hl ⟨F',F.same.trans ⟨rfl,rfl,rfl⟩⟩
def Ap (Q:Value→Shared→Prop) (E:Value→Shared→Prop) (r:Result) (s':Shared):Prop:=match r with | .ok (.ret v)=>Q v s' | .ok _=>False | .error e=>E e s'
theorem sJ {f:Value} {vals:List Value} {Q:Value→Shared→Prop} (hc:codeAny (model aab w) A (.call f ⟨vals,[]⟩) (Ap Q E) s):wpAny (model aab w) A (call f vals) Q E s:=wpAny_call hc
theorem Bv (h:Q v s):Ap Q E (.ok (.ret v)) s:=h
theorem Bu (h:E v s):Ap Q E (.error v) s:=h
theorem IH (X:Cx w hT A aac 3) (S:At hT aac g s.heap)
  (k:∀s' g' e,rL hT w.params g g' e sy da→At hT aac g' s'.heap→Bk aac s s'→R (.ok (.ret (.ref e))) s') :
  codeAny (model aab w) A (.call (.ref 38) ⟨[sy,da],[]⟩) R s:=Ef X.T S X.fr X.room fun h' t' g' e G S K=>k _ g' e G S ⟨K,f7.mk' _ _ _⟩
structure Er (hT:Heap) (P:Params) (aac:List Env) (g:GH) (s:Shared) (e:Value) (s':Shared):Prop where
 er:Pq hT P aac g s.heap e s'.heap
 same:f7 s s'
end
noncomputable def iu (c:Cells):AV→Option AV
 | .nil=>some .nil
 | .cell i=>(c[i]?).map (·.1)
 | .num _=>none
noncomputable def gf (c:Cells):AV→Option AV
 | .nil=>some .nil
 | .cell i=>(c[i]?).map (·.2)
 | .num _=>none
inductive Chain (c:Cells):AV→List (Nat × AV)→AV→Prop
 | nil:Chain c .nil [] .nil
 | num (n:Int):Chain c (.num n) [] (.num n)
 | cell {i a d l e}:c[i]?=some (a,d)→Chain c d l e→Chain c (.cell i) ((i,a)::l) e
theorem Chain.det {v l e} (h:Chain c v l e):∀ {l' e'},Chain c v l' e'→l=l'∧e=e':=by
 induction h with
 | nil=>intro l' e' h;cases h;exact ⟨rfl,rfl⟩
 | num n=>intro l' e' h;cases h;exact ⟨rfl,rfl⟩
 | cell hc _ ih=>
  intro l' e' h
  cases h with
  | cell cq h'=>
   rw [hc] at cq
   cases cq
   obtain ⟨rfl,rfl⟩:=ih h'
   exact ⟨rfl,rfl⟩
theorem Chain.gE {v l e} (h:Chain c v l e):e.aE=false:=by induction h <;> first | rfl | assumption
theorem Chain.jH {v x l e} (h:Chain c v (x::l) e):∃d,v= .cell x.1∧c[x.1]?=some (x.2,d)∧Chain c d l e:=by
 cases h with
 | cell hc h'=>exact ⟨_,rfl,hc,h'⟩
theorem Chain.Ib {v e} (h:Chain c v [] e):v=e∧e.aE=false:=by
 cases h <;> exact ⟨rfl,rfl⟩
theorem Chain.apart {v l e u l' e'} (h:Chain c v l e) (h':Chain c u l' e') (hl:l.length≠l'.length):v≠u:=by
 rintro rfl
 obtain ⟨rfl,_⟩:=h.det h'
 exact hl rfl
theorem Chain.suffix {v l e} (h:Chain c v l e):∀k,k≤l.length→∃u,Chain c u (l.drop k) e:=by
 induction h with
 | nil=>intro k hk;exact ⟨_,by simpa using Chain.nil⟩
 | num n=>intro k hk;exact ⟨_,by simpa using Chain.num n⟩
 | cell hc h ih=>
  intro k hk
  induction k with
  | zero=>exact ⟨_,Chain.cell hc h⟩
  | succ k=>exact ih k (by simpa using hk)
inductive VB (p:Pl):List Value→List AV→Prop
 | nil:VB p [] []
 | cons {v a vs as}:VR p v a→VB p vs as→VB p (v::vs) (a::as)
structure Pl.Le (p p':Pl):Prop where
 pre:∀(i:Nat) (q:Addr × Addr),p[i]?=some q→p'[i]?=some q
theorem VR.up {v a} (h:VR p v a) (l:Pl.Le p p'):VR p' v a:=by
 induction h with
 | nil=>exact .nil
 | num=>exact .num
 | cell hp=>exact .cell (l.pre _ _ hp)
theorem Pl.Le.refl (p:Pl):Pl.Le p p:=⟨fun O O e=>e⟩
theorem Pl.Le.trans (x:Pl.Le a b) (y:Pl.Le b c):Pl.Le a c:=⟨fun i q e=>y.pre i q (x.pre i q e)⟩
theorem Pl.Le.app (p q:Pl):Pl.Le p (p++q):=⟨fun i r e=>by
 have:=(bl.mp e).1
 rw [ow this];exact e⟩
def Off (I:Addr) (g g':GH):Prop:=∀b o,b≠I→g b=some o→g' b=some o
theorem Off.set (g:GH) (I:Addr) (o:Obj):Off I g (g.set I o):=fun b x h e=>by rw [GH.au _ _ h];exact e
theorem Off.hide (g:GH) (I:Addr):Off I g (g.hide I):=fun b x h e=>by unfold GH.hide;rw [if_neg h];exact e
noncomputable def Vg (x left step:Int):Obj:={ cls:=.type "range_iterator",data:=.fields #[rawInt x,rawInt left,rawInt step] }
section
variable {w:World} {aab:Program} {M:Model} {A:Around} {R:Result→Shared→Prop} {s s' s₀:Shared} {E:Value→Shared→Prop} {hT:Heap} {env:Env} {ns:List (Str × NameKind)} {aac:List Env} {L I l:Addr} {vs cR:List (Option Value)} {g g' hJ:GH} {n m:Nat} {x:Value} {xs:List Value} {i:Nat}
theorem Fs.upd (F:Fs hT env ns aac s₀ L vs g s) (hx:g a=some o) (hn:hT.get? a=none) (hs:Heap.SameBut a s.heap h') (ho:h'.get? a=some o'):Fs hT env ns aac s₀ L vs (g.set a o') {s with heap:=h',toks:=t}:=F.to (F.f.upd hx hn hs ho)
noncomputable def XI (a b c:Int) (t u v:Tok):Obj:={ cls:=.type "range",dict:=none,data:=.fields #[.int a t,.int b u,.int c v],slots:= #[] }
end
end Mine
end
section
open PySem PySem.W PySem.Calls PyProof.Rows Builtin.ObjectAttr
namespace Mine
section
variable {w:World} {aab:Program} {M:Model} {A:Around} {R:Result→Shared→Prop} {s s' s₀:Shared} {E:Value→Shared→Prop} {hT:Heap} {env:Env} {ns:List (Str × NameKind)} {aac:List Env} {L I l:Addr} {vs cR:List (Option Value)} {g g' hJ:GH} {n m:Nat} {xs:List Value} {i:Nat} {C x d fI:Addr} {es:List DictEntry} {name:Str} {v:Value}
structure wL (w:World) (C:Addr):Prop where
 sa:findIn (KK w) (.ref C) "__setattr__"=some (some (.builtin "object.__setattr__"))
 ga:findIn (KK w) (.ref C) "__getattribute__"=some (some (.builtin "object.__getattribute__"))
 gt:findIn (KK w) (.ref C) "__getattr__"=some none
 po:plainOver (KK w) C=true
 hd:hasDictIn (KK w) C=true
theorem m7 (F:Fs hT env ns aac s₀ L vs g s) (T:Tp (KK w) hT) (K:wL w C) (hf:findIn (KK w) (.ref C) name=some none) (hx:g x=some (instObj C d)) (hd:g d=some (dictOf es n)) (hn:hT.get? d=none)
  (hl:(getL name es).isSome=true) (hz:es.length≤1000)
  (h:∀s' t,Fs hT env ns aac s₀ L vs (g.set d (dictOf (putL name (PyData.keyHash w.params name) (.str name t) v es) (putN name es n))) s'→Q () s') :
  wpAny (model aab w) A (setAttr (.ref x) name v) Q E s:=by
 have X:=F.X T
 have sP:=F.S.a5 _ _ hx
 have nK:=F.S.a5 _ _ hd
 have I:InstAt s.heap x (instObj C d) C (some (dictOf es n)):=⟨sP,rfl,rfl,nK⟩
 refine set_plain X I K.sa ?_
 refine osa_open (s:={s with toks:=s.toks+1}) (r:=none) X I K.po (by unfold takerIn;rw [hf];rfl) fun b=> ?_
 refine bc (any_some K.hd) fun cd c1 c2=> ?_
 refine aJ (bR (aJ ?_))
 refine aJ (E5 sP ?_)
 refine aJ (E4 X c1 _ _ _ _ (fun O O e=>e) ?_)
 rw [c2]
 refine bR ?_
 exact gX (s:={s with toks:=s.toks+1}) nK hl hz fun h' t hs ho=>h _ t (F.to (F.f.upd hd hn hs ho))
theorem e9 {h:Heap} {l:List Env} (T:Tp (KK w) hT) (S:At hT l g h):(h.objs.size == sysModules)=false:=by
 have h1:∃o,(KK w).lookup 82=some o:=⟨_,by rfl⟩
 obtain ⟨o,ho⟩:=h1
 have h2:=cA (S.a8 _ _ (T.Hj _ _ ho))
 rw [OM]
 have h2:82<h.objs.size:=h2
 exact fun e=>by rw [e] at h2;exact absurd h2 (by decide)
theorem o5 {rest:List Value} (X:Cx w hT A aac (n+2)) (S:At hT aac g s.heap) (hm:makesIn (KK w) C=true) (hi:findIn (KK w) (.ref C) "__init__"=some (some (.ref fI))) (hf:typeIn (KK w) (.ref fI)=some (.type "function"))
  (h:∀A' s' d x,Cx w hT A' aac n→(d == sysModules)=false→g d=none→(g.set d emptyDict) x=none→At hT aac ((g.set d emptyDict).set x (instObj C d)) s'.heap→Bk aac s s' →
   codeAny (model aab w) A' (.call (.ref fI) ⟨.ref x::rest,[]⟩) (InitBack x R) s') :
  codeAny (model aab w) A (.call (.ref C) ⟨rest,[]⟩) R s:=by
 obtain ⟨hh,gs,dr,t,os⟩:=s
 have K:=X.T.nL S.a8
 refine make_core (makes_of K hm) (z6 K hi) (fun self=>bind_fn K self hf) (.inl rfl) ?_
 have S1:=S.push emptyDict
 have S2:=S1.push (instObj C hh.objs.size)
 have sz:(hh.push emptyDict).objs.size=hh.objs.size+1:=wD ..
 have n2:=S1.fresh
 rw [sz] at S2 n2
 have kk:∀b o,hh.get? b=some o→((hh.push emptyDict).push (instObj C hh.objs.size)).get? b=some o:=fun b o e=>bG _ (bG _ e)
 refine h _ ⟨(hh.push emptyDict).push (instObj C hh.objs.size),gs,dr,t,os⟩ hh.objs.size (hh.objs.size+1) ⟨X.T,?_,X.hh,?_⟩ (e9 X.T S) S.fresh n2 S2 ⟨Kp.of_keeps kk,⟨rfl,rfl,rfl⟩⟩
 ·show pushEnvs (Code.envs (Code.builtin "type.__call__" ⟨.ref C::rest,[]⟩)) A.frames=_
  rw [show Code.envs (Code.builtin "type.__call__" ⟨.ref C::rest,[]⟩)=[] from by kernel_rfl]
  exact X.fr
 ·have h1:=X.room.1
  have h2:=X.room.2
  refine ⟨?_,?_⟩
  ·show A.depth+Code.weight (Code.builtin "type.__call__" ⟨.ref C::rest,[]⟩)+n<1000
   rw [show Code.weight (Code.builtin "type.__call__" ⟨.ref C::rest,[]⟩)=1 from by kernel_rfl]; lia
  ·show A.units+Code.cUnits (Code.builtin "type.__call__" ⟨.ref C::rest,[]⟩)+10*n<9900
   rw [show Code.cUnits (Code.builtin "type.__call__" ⟨.ref C::rest,[]⟩)=1 from by kernel_rfl]; lia
theorem qf:wL w 82:=⟨by kernel_rfl,by kernel_rfl,by kernel_rfl,by kernel_rfl,by kernel_rfl⟩
theorem va:makesIn (KK w) 82=true:=by kernel_rfl
theorem ze:findIn (KK w) (.ref 82) "__init__"=some (some (.ref 79)):=by kernel_rfl
theorem GO:typeIn (KK w) (.ref 79)=some (.type "function"):=by kernel_rfl
theorem ny {o attr pos' value pos} 
  (h:wpAny M A (eval value env) (fun v s₁=>wpAny M A (eval o env) (fun ov aG=>wpAny M A (setAttr ov attr v) (fun O=>Q .next) E aG) E s₁) E s)
  (hs:swapsWith value (some (.Attribute o attr pos')) pos.line env=pure false:=by rfl) :
  wpAny M A (exec (.Assign [.Attribute o attr pos'] value pos) env) Q E s:=Uz h hs
theorem Ip (P:Params) (v:Value) (t:Tok):dictOf (putL "car" (PyData.keyHash P "car") (.str "car" t) v []) (putN "car" [] 0)=dictOf [⟨PyData.keyHash P "car",.str "car" t,v⟩] 1:=by kernel_rfl
theorem Iq (P:Params) (u v:Value) (t t':Tok):dictOf (putL "cdr" (PyData.keyHash P "cdr") (.str "cdr" t') v [⟨PyData.keyHash P "car",.str "car" t,u⟩]) (putN "cdr" [⟨PyData.keyHash P "car",.str "car" t,u⟩] 1)=a7 P u v t t':=by kernel_rfl
theorem Hb (P:Params) (u:Value) (t:Tok):(getL "cdr" [⟨PyData.keyHash P "car",.str "car" t,u⟩]).isSome=true:=by kernel_rfl
theorem mG (X:Cx w hT A aac 1) (S:At hT aac g s.heap) (hx:g x=some (instObj 82 d)) (hd:g d=some emptyDict) (hn:hT.get? d=none)
  (k:∀s' t u,At hT aac (g.set d (a7 w.params a b t u)) s'.heap→Bk aac s s'→R (.ok (.ret .none)) s') :
  codeAny (model aab w) A (.call (.ref 79) ⟨[.ref x,a,b],[]⟩) R s:=by
 refine qk X (bz _) (rF w).pf S rfl fun env L s₁ hE X F=> ?_
 have Hh:x≠d:=fun q=>by rw [q,hd] at hx;cases hx
 refine dg (ny (ld F (.tail .head) (ld F .head (m7 (es:=[]) (n:=0) F X.T qf vk hx hd hn rfl (by decide) fun s' t F'=>iG (dg (ny (ld F' (.tail (.tail .head)) (ld F' .head ?_))))))))
 rw [Ip] at F'
 refine m7 F' X.T qf vl (by rw [GH.au _ _ Hh];exact hx) (GH.set_same _ _ _) hn (Hb _ _ _) (by simp) fun vQ u Pr=>iG (yw ?_)
 rw [GH.set_set,Iq] at Pr
 exact E3 (v:=.none) Pr rfl fun a b=>k vQ t u a b
theorem CS.old (C:CS hT P g p c) (hr:r∈p):(∃o,g r.1=some o)∧∃o,g r.2=some o:=
 (uH.mp hr).elim fun i hi=>have hl:i<c.length:=C.len▸(bl.mp hi).1
  lR (C.at_ i r _ hi (gm hl)) fun x1 O O O O x2 O=>⟨⟨_,x1⟩,_,x2⟩
theorem qO {α:Type} {l:List α} {x:α} (h:l.Nodup) (n:x∉l):(l++[x]).Nodup:=hY.mpr ⟨h,bV.mpr ⟨cS,.nil⟩,fun a ha b hb e=>n (dX.mp hb▸e▸ha)⟩
theorem CS.grow {p:Pl} {c:Cells} {a b:AV} {u v:Value} {q:Addr × Addr} {t t':Tok} (C:CS hT w.params g p c) (T:Tp (KK w) hT) (hb:∀b o,hT.get? b=some o→g b=some o) (hl:GH.le g g') (n1:g q.1=none) (n2:g q.2=none) (h1:g' q.1=some (instObj 82 q.2)) (h2:g' q.2=some (a7 w.params u v t t'))
  (hu:VR p u a) (hv:VR p v b):CS hT w.params g' (p++[q]) (c++[(a,b)]):=by
 have O7:∀ {a:Addr},g a=none→hT.get? a=none:=fun {a} h=>none_of fun o e=>fg (hb _ _ e) h
 have e64:∃o,hT.get? 64=some o:=(show ∃o,(KK w).lookup 64=some o from ⟨_,by rfl⟩).imp fun o h=>T.Hj _ _ h
 have up:=Pl.Le.app p [q]
 refine ⟨bK.trans ((aD (· +1) C.len).trans (bK (as:=c) (bs:=[(a,b)])).symm),?_,?_,fun r hr=>(cU.mp hr).elim (C.new r) fun h=>dX.mp h▸⟨O7 n1,O7 n2,fun e=>e64.elim fun o ho=>fg (hb _ _ ho) (e▸n1)⟩,
  fun i r ab hp hc=>(Em C.len hp hc).elim (fun e=>have x:=C.at_ i r ab e.1 e.2;⟨hl _ _ x.1,x.2.imp fun x=>cD fun y=>cD fun t=>cD fun u z=>⟨hl _ _ z.1,z.2.1.up up,z.2.2.up up⟩⟩) fun e=>e.1.symm▸e.2.symm▸⟨h1,u,v,t,t',h2,hu.up up,hv.up up⟩⟩
 ·rw [bY]
  exact qO C.nd fun hm=>bc (dC.mp hm) fun r hr e=>(C.old hr).1.elim fun o ho=>fg ho (e▸n1)
 ·rw [bY]
  exact qO C.Ny fun hm=>bc (dC.mp hm) fun r hr e=>(C.old hr).2.elim fun o ho=>fg ho (e▸n2)
theorem zf (X:Cx w hT A aac 3) (S:At hT aac g s.heap) (C:CS hT w.params g p c) (hu:VR p u a) (hv:VR p v b)
  (k:∀s' g' q,GH.le g g'→g q.1=none→g q.2=none→CS hT w.params g' (p++[q]) (c++[(a,b)])→At hT aac g' s'.heap→Bk aac s s'→R (.ok (.ret (.ref q.1))) s') :
  codeAny (model aab w) A (.call (.ref 82) ⟨[u,v],[]⟩) R s:=by
 refine o5 (n:=1) X S va ze GO fun A' s' d x X' O nd nx S' B=> ?_
 have Hh:x≠d:=fun q=>by rw [q,GH.set_same] at nx;cases nx
 have gx:g x=none:=(GH.bS emptyDict nd).none nx
 have FV:hT.get? d=none:=by
  cases e:hT.get? d with
  | none=>rfl
  | some o=>cases (S.base _ _ e).symm.trans nd
 refine mG X' S' (GH.set_same _ _ _) (((GH.au _ _ (nG Hh))▸(GH.set_same _ _ _))) FV fun vQ t t' VA B'=> ?_
 have hle:GH.le g (((g.set d emptyDict).set x (instObj 82 d)).set d (a7 w.params u v t t')):=fun b o e=>by
  have h1:b≠d:=fun q=>by rw [q,nd] at e;cases e
  have h2:b≠x:=fun q=>by rw [q,gx] at e;cases e
  rw [GH.au _ _ h1,GH.au _ _ h2,GH.au _ _ h1];exact e
 exact ⟨rfl,k vQ _ (x,d) hle gx nd (C.grow X.T S.base hle gx nd (((GH.au _ _ Hh)▸(GH.set_same _ _ _))) (GH.set_same _ _ _) hu hv) VA (B.trans B')⟩
end
end Mine
end
section
open PySem PySem.W PySem.Calls PyProof.Rows
namespace Mine
section
variable {w:World} {aab:Program} {M:Model} {A:Around} {R:Result→Shared→Prop} {s s' s₀:Shared} {E:Value→Shared→Prop} {hT:Heap} {env:Env} {ns:List (Str × NameKind)} {aac:List Env} {L I l:Addr} {vs cR:List (Option Value)} {g g' hJ:GH} {n m:Nat} {x:Value} {xs:List Value} {i:Nat} {a b:Int} {t u:Tok}
theorem PO (a b:Int):(a == b)=decide (a=b):=by
 by_cases h:a=b <;> simp [h]
theorem Qs {l op r pos} (h:wpAny M A (eval l env) (fun a s₁=>wpAny M A (eval r env) (fun b aG=>wpAny M A (binaryOp op a b) Q E aG) E s₁) E s) :
  wpAny M A (eval (.BinOp l op r pos) env) Q E s:=wpAny_BinOp h
theorem ceq (h:Q (.bool (decide (a=b))) s):wpAny (model aab w) A (compareOp .Eq (.int a t) (.int b u)) Q E s:=P.eq_int (by rw [PO];exact h)
theorem cne (h:Q (.bool (decide (a≠b))) s):wpAny (model aab w) A (compareOp .NotEq (.int a t) (.int b u)) Q E s:=P.ne_int (by rw [show (a != b)=decide (a≠b) from by rw [bne,PO];simp];exact h)
theorem clt (h:Q (.bool (decide (a<b))) s):wpAny (model aab w) A (compareOp .Lt (.int a t) (.int b u)) Q E s:=P.lt_int h
theorem cle (h:Q (.bool (decide (a≤b))) s):wpAny (model aab w) A (compareOp .LtE (.int a t) (.int b u)) Q E s:=P.le_int h
theorem cgt (h:Q (.bool (decide (a>b))) s):wpAny (model aab w) A (compareOp .Gt (.int a t) (.int b u)) Q E s:=P.gt_int h
theorem cge (h:Q (.bool (decide (a ≥ b))) s):wpAny (model aab w) A (compareOp .GtE (.int a t) (.int b u)) Q E s:=P.ge_int h
theorem Qx (h:wpAny M A (eval e env) (fun v s₁=>wpAny M A (unaryOp .USub v) Q E s₁) E s):wpAny M A (eval (.UnaryOp .USub e pos) env) Q E s:=UnaryOp_ h
def Ju (M:Model) (A:Around) (env:Env) (E:Value→Shared→Prop) (args:List Expr) (Q:Value→Shared→Prop) (fx:Value × List Value) (aG:Shared):Prop:=
 Ev M A env E args (fun vs bP=>bW M fx.1 bP.heap∧wpAny M A (call fx.1 (fx.2++vs)) Q E bP) aG
theorem Qu (hp:args.all aQ=true)
  (h:wpAny M A (eval o env) (fun ov s₁=>∀pl,wpAny M A (getMethod ov name pl) (Ju M A env E args Q) E s₁) E s)
  (he:∃pl,eval (.Call (.Attribute o name apos) args [] pos) env=(do
   let ov ←eval o env
   standAt apos.atName
   let (f,first) ←holding [ov] (getMethod ov name pl)
   callWith pos f first (backTo pos (starEach args env)) (backToKw pos (keywordEach [] env))):=by exact ⟨_,rfl⟩) :
  wpAny M A (eval (.Call (.Attribute o name apos) args [] pos) env) Q E s:=Ms hp h he
section
variable {args:List Expr} {pl:Sem Bool} {Q:Value→Shared→Prop}
end
structure Gr (p:Pl) (g:GH) (p':Pl) (g':GH):Prop where
 le:GH.le g g'
 pl:Pl.Le p p'
 new:∀q∈p',q∈p∨(g q.1=none∧g q.2=none)
theorem DK (P:Params) (x y v:Value) (t u t':Tok):dictOf (putL "car" (PyData.keyHash P "car") (.str "car" t') v [⟨PyData.keyHash P "car",.str "car" t,x⟩,⟨PyData.keyHash P "cdr",.str "cdr" u,y⟩]) (putN "car" [⟨PyData.keyHash P "car",.str "car" t,x⟩,⟨PyData.keyHash P "cdr",.str "cdr" u,y⟩] 2)=a7 P v y t u:=by kernel_rfl
theorem DL (P:Params) (x y v:Value) (t u t':Tok):dictOf (putL "cdr" (PyData.keyHash P "cdr") (.str "cdr" t') v [⟨PyData.keyHash P "car",.str "car" t,x⟩,⟨PyData.keyHash P "cdr",.str "cdr" u,y⟩]) (putN "cdr" [⟨PyData.keyHash P "car",.str "car" t,x⟩,⟨PyData.keyHash P "cdr",.str "cdr" u,y⟩] 2)=a7 P x v t u:=by kernel_rfl
theorem BW (P:Params) (x y:Value) (t u:Tok):(getL "car" [⟨PyData.keyHash P "car",.str "car" t,x⟩,⟨PyData.keyHash P "cdr",.str "cdr" u,y⟩]).isSome=true:=by kernel_rfl
theorem BX (P:Params) (x y:Value) (t u:Tok):(getL "cdr" [⟨PyData.keyHash P "car",.str "car" t,x⟩,⟨PyData.keyHash P "cdr",.str "cdr" u,y⟩]).isSome=true:=by kernel_rfl
theorem Hk {a d:Addr} {P:Params} {x y:Value} {t u:Tok} (h:g a=some (instObj 82 d)) (h':g a=some (a7 P x y t u)):False:=nomatch h.symm.trans h'
theorem CS.turn {p:Pl} {c:Cells} {i:Nat} {q:Addr × Addr} {a b:AV} {x y:Value} {t u:Tok} (C:CS hT w.params g p c) (hq:p[i]?=some q) (hx:VR p x a) (hy:VR p y b):CS hT w.params (g.set q.2 (a7 w.params x y t u)) p (c.set i (a,b)):=
 have hi:i<c.length:=C.len▸(bl.mp hq).1
 have ZQ:=C.at_ i q _ hq (gm hi)
 have inj:∀ {j:Nat} {r:Addr × Addr},p[j]?=some r→r.2=q.2→i=j:=fun {j r} h1 e=>by
  have uQ:(p.map (·.2))[i]?=some q.2:=by rw [gp,hq];rfl
  have h2':(p.map (·.2))[j]?=some q.2:=by rw [gp,h1,←e];rfl
  exact (bl.mp uQ).elim fun l1 e1=>(bl.mp h2').elim fun l2 e2=>(Fh C.Ny).mp (e1.trans e2.symm)
 ⟨C.len.trans wF.symm,C.nd,C.Ny,C.new,fun j r ab hp hc=>by
  have ZR:g r.1=some (instObj 82 r.2)→(g.set q.2 (a7 w.params x y t u)) r.1=some (instObj 82 r.2):=fun e1=>(GH.au _ _ fun e:r.1=q.2=>rn ZQ.2 fun O O O O e2 O=>Hk (e▸e1) e2).trans e1
  by_cases e:i=j
  ·have e1:q=r:=cH (hq.symm.trans (e▸hp))
   have e2:(a,b)=ab:=cH ((px hi).symm.trans (e▸hc))
   exact e1▸e2▸⟨e1▸ZR (e1▸ZQ.1),x,y,t,u,GH.set_same _ _ _,hx,hy⟩
  ·have z:=C.at_ j r ab hp ((uI e).symm.trans hc)
   exact ⟨ZR z.1,z.2.imp fun x=>cD fun y=>cD fun t=>cD fun u h=>⟨(GH.au _ _ fun z=>e (inj hp z)).trans h.1,h.2⟩⟩⟩
theorem Uy {e pos} (F:Fs hT env ns aac s₀ L vs g s) (h:wpAny (model aab w) A (eval e env) (fun O s'=>Q .next s') E s) (hs:swapsWith e none pos.line env=pure false:=by rfl) :
  wpAny (model aab w) A (exec (.Expr e pos) env) Q E s:=wpAny_Expr_any h (by unfold interactive;rw [F.f.ok.sc.kind];rfl) hs
structure Vv (K:Frag) (f:Addr) (dM:Value) (qual:Str) (ps:List Str) (rest:List (Str × NameKind)) (body:List Stmt) (sc:Scope) (args vals:List Value):Prop where
 ex:∃oc od rA name params dV kV doc pm an ct,K.lookup f=some ⟨oc,od,.func (fnOf name qual params body sc dV kV doc pm an dM ct),rA⟩ ∧
  ∀(s:Shared),K.In s.heap→BindsTo s (fnOf name qual params body sc dV kV doc pm an dM ct) ⟨args,[]⟩ (ps.zip vals)
 code:codeIn K dM qual=true
 mY:yW sc
 names:sc.names=ps.map (fun p=>(p,NameKind.local))++rest
 vK:∀x∈sc.names,x.2≠ .cell
variable {f:Addr} {dM:Value} {qual:Str} {ps:List Str} {rest:List (Str × NameKind)} {body:List Stmt} {sc:Scope} {args vals:List Value}
theorem Mv (X:Cx w hT A aac n) (hn:m+1≤n) (P:Vv (KK w) f dM qual ps rest body sc args vals) (S:At hT aac g s.heap) (hlen:vals.length=ps.length)
  (h:∀env L s₁,env=envX qual sc L f dM []→Cx w hT (A.deeper env) (env::aac) m→Fs hT env (ps.map (fun p=>(p,NameKind.local))++rest) aac s L (vals.map some++List.replicate rest.length none) g s₁ →
   wpAny (model aab w) (A.deeper env) (execs body env) (pH R) (FJ (model aab w) (A.deeper env) env R) s₁) :
  codeAny (model aab w) A (.call (.ref f) ⟨args,[]⟩) R s:=by
 refine eQ P.ex fun oc od rA name params dV kV doc pm an ct ho hb=> ?_
 have hk:∀p∈ps,(p,NameKind.local)∈sc.names:=fun p hp=>by rw [P.names];exact dF _ (dC.mpr ⟨p,hp,rfl⟩)
 refine codeAny_call_def (fd:=fnOf name qual params body sc dV kV doc pm an dM ct) (body:=body) (binds:=ps.zip vals) X.room.lt (S.a8 _ _ (X.T.Hj _ _ ho)) rfl (X.T.nolimit S.a8) (codeRec_of (X.T.nL S.a8) P.code) rfl
  (hb s (X.T.nL S.a8)) P.vK (fun y hy=>aZ P.mY.nd (hk _ (Ab (a:=y.1) (b:=y.2) hy).1)) (fun aA vu k=> ?_) P.mY.co P.mY.gen P.mY.kind
 refine h _ s.heap.objs.size _ rfl (X.in hn) ⟨qp S ⟨P.names,rfl,rfl,rfl,rfl,P.mY⟩ rfl ?_ k,f7.mk' _ _ _⟩
 have nd:ps.Nodup:=by
  have:=P.mY.nd
  rw [P.names,bY,dj] at this
  have e:(List.map ((fun x=>x.1) ∘ fun p=>(p,NameKind.local)) ps)=ps:=by rw [show ((fun x=>x.1) ∘ fun (p:Str)=>(p,NameKind.local))=id from rfl,List.map_id]
  rw [e] at this
  exact (hY.mp this).1
 have e:(fun x=>(ps.zip vals).reverse.lookup x)=bF (ps.map (fun p=>(p,NameKind.local))++rest) (vals.map some++List.replicate rest.length none):=funext fun x=>by
  rw [mU nd];exact oY hlen.symm
 rw [e] at vu
 exact vu
structure Vx (K:Frag) (f:Addr) (args vals:List Value) where
 dM:Value
 qual:Str
 ps:List Str
 rest:List (Str × NameKind)
 body:List Stmt
 sc:Scope
 pf:Vv K f dM qual ps rest body sc args vals
noncomputable def gO (w:World) (x:Value):Vx (KK w) 193 [x] [x,.ref 64]:=⟨.ref 192, "list_of",["things", "tail"],_,_,_,⟨⟨_,_,_,_,_,_,_,_,_,_,_,by rfl,fun s X=>binds_K X rfl (show (KK w).lookup 186=some _ by rfl) rfl rfl rfl⟩,by kernel_rfl,bM (by kernel_rfl),by rfl,by decide⟩⟩
end
section
variable {w:World} {aab:Program} {M:Model} {A:Around} {R:Result→Shared→Prop} {s s' s₀:Shared} {E:Value→Shared→Prop} {hT:Heap} {env:Env} {ns:List (Str × NameKind)} {aac:List Env} {L I l:Addr} {vs cR:List (Option Value)} {g g' hJ:GH} {n m:Nat} {x:Value} {xs ys:List Value} {i:Nat} {a b:Int} {t u:Tok}
theorem lI (h:wpAny M A (eval e env) Q E s):wpAny M A (evalPart (some e) env) Q E s:=h
theorem eF (h:Q .none s):wpAny M A (evalPart none env) Q E s:=bR h
end
theorem AI {kd:Str→Option NameKind} {x:Str} {b:List (Str × Value)}:∀ {m:Str→Option Value},(b.map (·.1)).Nodup→bindL kd b m x=if kd x=some .local then (b.lookup x).or (m x) else m x:=by
 induction b with
 | nil=>exact fun {m} O=>(ite_self (m x)).symm
 | cons p r ih=>cases p with | mk n v=>
  intro m nd
  rw [dh,bV] at nd
  rw [show bindL kd ((n,v)::r) m x=bindL kd r (if kd n=some .local then fun y=>if y=n then some v else m y else m) x from rfl,ih nd.2,eU]
  by_cases hx:x=n
  ·rw [Fc.mpr fun q hq=>bne_iff_ne.mpr fun e:x=q.1=>nd.1 (hx▸e▸dC.mpr ⟨q,hq,rfl⟩),hx,iN]
   by_cases hk:kd n=some .local
   ·rw [bE hk,bE hk,bE hk];exact bE rfl
   ·rw [aW hk,aW hk,aW hk]
  ·rw [beq_eq_false_iff_ne.mpr hx]
   by_cases hn:kd n=some .local
   ·rw [bE hn,aW hx]
   ·rw [aW hn]
theorem AH {kd:Str→Option NameKind} {x:Str} {b:List (Str × Value)}:∀ {m:Str→Option Value},(b.map (·.1)).Nodup→bindC kd b m x=if kd x=some .local then m x else (b.lookup x).or (m x):=by
 induction b with
 | nil=>exact fun {m} O=>(ite_self (m x)).symm
 | cons p r ih=>cases p with | mk n v=>
  intro m nd
  rw [dh,bV] at nd
  rw [show bindC kd ((n,v)::r) m x=bindC kd r (if kd n=some .local then m else fun y=>if y=n then some v else m y) x from rfl,ih nd.2,eU]
  by_cases hx:x=n
  ·rw [Fc.mpr fun q hq=>bne_iff_ne.mpr fun e:x=q.1=>nd.1 (hx▸e▸dC.mpr ⟨q,hq,rfl⟩),hx,iN]
   by_cases hk:kd n=some .local
   ·rw [bE hk,bE hk,bE hk]
   ·rw [aW hk,aW hk,aW hk];exact bE rfl
  ·rw [beq_eq_false_iff_ne.mpr hx]
   by_cases hn:kd n=some .local
   ·rw [bE hn]
   ·rw [aW hn,aW hx]
noncomputable def eP (ns:List (Str × NameKind)) (b:List (Str × Value)):List (Option Value):=ns.map fun p=>if p.2= .local then b.lookup p.1 else none
theorem kR {b:List (Str × Value)} {x:Str} {ns:List (Str × NameKind)} (nd:(ns.map (·.1)).Nodup):bF ns (eP ns b) x=if ns.lookup x=some .local then b.lookup x else none:=by
 induction ns with
 | nil=>exact (aW nofun).symm
 | cons p r ih=>cases p with | mk y k=>
  rw [dh,bV] at nd
  rw [eU]
  show (if x=y then (if k= .local then b.lookup y else none) else bF r (eP r b) x)=_
  by_cases hx:x=y
  ·rw [bE hx,hx,iN]
   by_cases hk:k= .local
   ·rw [bE hk,bE (aD some hk)]
   ·rw [aW hk,aW fun q=>hk (cH q)]
  ·rw [aW hx,beq_eq_false_iff_ne.mpr hx];exact ih nd.2
def Cel (g:GH) (env:Env) (x:Str) (v:Option Value):Prop:=∃ca o,env.cells.lookup x=some ca∧g ca=some o∧o.data= .cell v
structure PA (K:Frag) (f:Addr) (dM:Value) (qual:Str) (ps:List Str) (body:List Stmt) (sc:Scope):Prop where
 ex:∃oc od rA name params dV kV doc pm an ct,K.lookup f=some ⟨oc,od,.func (fnOf name qual params body sc dV kV doc pm an dM ct),rA⟩ ∧
  ∀(vals:List Value),vals.length=ps.length→bindArgs (fnOf name qual params body sc dV kV doc pm an dM ct) ⟨vals,[]⟩=pure (ps.zip vals)
 code:codeIn K dM qual=true
 mY:yW sc
 nd:ps.Nodup
 kinds:∀n p,p∈ps→sc.names.lookup p=some .local∨(sc.names.lookup p=some .cell∧((cellsFrom n sc.names []).lookup p).isSome=true)
section
variable {w:World} {aab:Program} {M:Model} {A:Around} {R:Result→Shared→Prop} {s s' s₀:Shared} {E:Value→Shared→Prop} {hT:Heap} {env:Env} {ns:List (Str × NameKind)} {aac:List Env} {h₀ h:Heap} {L I l:Addr} {vs cR:List (Option Value)} {g g' hJ:GH} {n m:Nat} {x:Str} {v:Value}
 {f:Addr} {dM:Value} {qual:Str} {ps:List Str} {rest:List (Str × NameKind)} {body:List Stmt} {sc:Scope} {vals:List Value} {pos:Pos}
theorem Fm.more (F:Fm hT env ns aac h₀ L vs g h) (l:GH.le g g') (a5:∀b o,g' b=some o→h.get? b=some o) (jx:∀b∈lJ (env::aac),g' b=none):Fm hT env ns aac h₀ L vs g' h:=
 ⟨⟨fun b o e=>l _ _ (F.at_.base _ _ e),a5,jx,F.at_.cO⟩,F.ok,F.loc,F.Ae,F.out⟩
theorem At.QA {l:List Env} (S:At hT l g h):∀b∈lJ l,b<h.objs.size:=by
 have:∀ {l:List Env},h.FunFrames H0 l→∀b∈lJ l,b<h.objs.size:=by
  intro l
  induction l with
  | nil=>intro _ b hb;cases hb
  | cons e r ih=>
   rintro ⟨_,⟨L',o,hf,_,ho,_⟩,c⟩ b hb
   simp only [lJ,Fg,hf] at hb
   rcases cF.mp hb with q | q
   ·rw [q];exact cA ho
   ·exact ih c b q
 exact this S.cO
theorem BD (X:Cx w hT A aac n) (hn:m+1≤n) (P:PA (KK w) f dM qual ps body sc) (S:At hT aac g s.heap) (hlen:vals.length=ps.length)
  (h:∀env L s₁ g',env=newEnv sc L mainGlobals (cellsFrom (L+1) sc.names []) (qual++ ".<locals>.") (some f) dM none builtinsNs→Cx w hT (A.deeper env) (env::aac) m→GH.le g g' →
   (∀y ca,env.cells.lookup y=some ca→g ca=none∧hT.get? ca=none∧Cel g' env y (if sc.names.lookup y=some .local then none else (ps.zip vals).lookup y)) →
   env.cells.Pairwise (fun x y=>x.2≠y.2) →
   Fs hT env sc.names aac s L (eP sc.names (ps.zip vals)) g' s₁ →
   wpAny (model aab w) (A.deeper env) (execs body env) (pH R) (FJ (model aab w) (A.deeper env) env R) s₁) :
  codeAny (model aab w) A (.call (.ref f) ⟨vals,[]⟩) R s:=by
 refine eQ P.ex fun oc od rA name params dV kV doc pm an ct ho hb=> ?_
 refine codeAny_call_cells (fd:=fnOf name qual params body sc dV kV doc pm an dM ct) (body:=body) (binds:=ps.zip vals) X.room.lt (S.a8 _ _ (X.T.Hj _ _ ho)) rfl (X.T.nolimit S.a8) (codeRec_of (X.T.nL S.a8) P.code) rfl
  (hb vals hlen) rfl (fun y hy=>P.kinds _ _ (Ab (a:=y.1) (b:=y.2) hy).1) (fun s₁ x=> ?_) P.mY.co P.mY.gen P.mY.kind
 have zn:((ps.zip vals).map (·.1)).Nodup:=by rw [List.map_fst_zip (by lia)];exact P.nd
 have hL:∀n c,(callEnvC (fnOf name qual params body sc dV kV doc pm an dM ct) s.heap.objs.size f).cells.lookup n=some c→s.heap.objs.size<c:=fun n c e=>x.above n c (mem_of_lookup e)
 have vr:∀b,b∈(callEnvC (fnOf name qual params body sc dV kV doc pm an dM ct) s.heap.objs.size f).cells.map (·.2)→s.heap.objs.size<b:=fun b hb=>by
  obtain ⟨q,hq,rfl⟩:=dC.mp hb
  exact x.above q.1 q.2 hq
 have lt:∀b o,g b=some o→b<s.heap.objs.size:=fun b o e=>cA (S.a5 _ _ e)
 have le:GH.le g (fun b=>if b∈(callEnvC (fnOf name qual params body sc dV kV doc pm an dM ct) s.heap.objs.size f).cells.map (·.2) then s₁.heap.get? b else g b):=fun b o e=>by
  have:b∉(callEnvC (fnOf name qual params body sc dV kV doc pm an dM ct) s.heap.objs.size f).cells.map (·.2):=fun hb=>Nat.lt_asymm (vr b hb) (lt b o e)
  dsimp only;exact (aW this)▸(e)
 have vu:s₁.heap.Ns s.heap.objs.size (bF sc.names (eP sc.names (ps.zip vals))):=by
  have:=x.toInCall.ns
  have e:bindL (callEnvC (fnOf name qual params body sc dV kV doc pm an dM ct) s.heap.objs.size f).kindOf (ps.zip vals) (fun O=>none)=bF sc.names (eP sc.names (ps.zip vals)):=funext fun y=>by
   rw [AI zn,kR P.mY.nd,Option.or_none];rfl
  exact e▸this
 have F0:=qp (env:=callEnvC (fnOf name qual params body sc dV kV doc pm an dM ct) s.heap.objs.size f) (ns:=sc.names) S ⟨rfl,rfl,rfl,rfl,rfl,P.mY⟩ rfl vu x.toInCall.keep
 have sm:f7 s s₁:=by obtain ⟨h',tk,rfl⟩:=x.toInCall.same;exact ⟨rfl,rfl,rfl⟩
 refine h _ s.heap.objs.size s₁ _ rfl (X.in hn) le (fun y ca e=> ?_) x.apart ⟨F0.more le (fun b o e=> ?_) fun b hb=> ?_,sm⟩
 ·refine bc (x.cell y ca e) fun o ho hd=> ?_
  have hg:g ca=none:=by
   cases e2:g ca with
   | none=>rfl
   | some o=>exact absurd (lt _ _ e2) (Nat.lt_asymm (hL y ca e))
  refine ⟨hg,?_,ca,o,e,?_,?_⟩
  ·cases e2:hT.get? ca with
   | none=>rfl
   | some o=>cases (S.base _ _ e2).symm.trans hg
  ·dsimp only;rw [bE (dC.mpr ⟨(y,ca),mem_of_lookup e,rfl⟩)];exact ho
  ·rw [hd,AH zn,Option.or_none];rfl
 ·split at e
  ·exact e
  ·exact x.toInCall.keep _ _ (S.a5 _ _ e)
 ·rw [cN F0.ok] at hb
  have cu:b≤s.heap.objs.size:=by
   rcases cF.mp hb with q | q
   ·exact (q)▸(bz _)
   ·exact eu (S.QA b q)
  exact (aW fun hm=>nF _ (fu (vr b hm) cu))▸(F0.at_.jx b (by rw [cN F0.ok];exact hb))
end
noncomputable def CB (sc:Scope) (ps:List Str):Bool:=ps.all fun p=>sc.names.lookup p == some .local || sc.names.lookup p == some .cell
theorem kinds_of (h:CB sc ps=true):∀n p,p∈ps→sc.names.lookup p=some .local∨(sc.names.lookup p=some .cell∧((cellsFrom n sc.names []).lookup p).isSome=true):=fun n p hp=>
 (yE.mp (iQ.mp h p hp)).imp eq_of_beq fun h=>⟨eq_of_beq h,Fi _ _ _ (.inl (eq_of_beq h))⟩
structure PB (K:Frag) (f:Addr) where
 dM:Value
 qual:Str
 ps:List Str
 body:List Stmt
 sc:Scope
 pf:PA K f dM qual ps body sc
noncomputable def Su (K:Frag) (fd:FuncData):Bool:=DF K fd && CB fd.scope (iF fd)
theorem NL {K:Frag} {f:Addr} {fd:FuncData} (hf:fdOf K f=some fd) (h:Su K fd=true) (hb:az fd (iF fd).length):PA K f fd.code fd.qualname (iF fd) (rQ fd.body) fd.scope:=
 have h1:=ae h;have h2:=ae h1;have h3:=ae h2
 ⟨E1 (xr hf) fun oc od rA hk=>⟨oc,od,rA,_,_,_,_,_,_,_,_,hk.trans (aD (fun x=>some (Obj.mk oc od (.func x) rA)) (lQ (aa h3))),fun vals hl=>lQ (aa h3)▸wV hb vals hl⟩,aa h2,bM (aa h1),o7 (ae h3),kinds_of (aa h)⟩
variable {w:World}
noncomputable def eA (w:World):PB (KK w) 476:=⟨.ref 475, "rest_from",["thing", "value", "is_same"],_,_,⟨⟨_,_,_,_,_,_,_,_,_,_,_,by rfl,JB (n:=3) (fun O O O=>by show _=_; kernel_rfl)⟩,by kernel_rfl,bM (by kernel_rfl),by decide,kinds_of (by kernel_rfl)⟩⟩
noncomputable def dv (w:World):PB (KK w) 509:=⟨.ref 508, "pair_with",["key", "value", "is_same", "is_by_cdr"],_,_,⟨⟨_,_,_,_,_,_,_,_,_,_,_,by rfl,JB (n:=4) (fun O O O O=>by show _=_; kernel_rfl)⟩,by kernel_rfl,bM (by kernel_rfl),by decide,kinds_of (by kernel_rfl)⟩⟩
noncomputable section
set_option genInjectivity true in
inductive V where
 | av (a:AV)
 | lv (a:AV)
 | none
 | bool (b:Bool)
 | str (k:Nat)
 | fn (a:Addr)
 | ob (i:Nat)
 | tk (i:Nat)
 | ll (x:AV) (f:Addr)
 | lq (x:AV) (f:Addr) (b:Bool)
 | sc (ns:List Int)
noncomputable abbrev V.num (n:Int):V:=.av (.num n)
structure f9 where
 left:AV
 right:AV
 deep:Int
 turn:Int
 sl:AV
 sr:AV
inductive Ob where
 | lst (l:List V)
 | tup (l:List V)
 | dS (l:List (Nat × V))
 | dI (l:List (Int × V))
 | task (t:f9)
structure St where
 cells:Cells
 objs:List Ob
noncomputable abbrev aO:=List (Option V)
inductive Fl where
 | next | cont | brk
 | ret (v:V)
structure f6 (σ af:St) (i:Nat) (o:Ob):Prop where
 c:af.cells=σ.cells
 o:af.objs=σ.objs++[o]
 i:i=σ.objs.length
noncomputable def St.aV (σ:St) (i:Nat) (o:Ob):St:={σ with objs:=σ.objs.set i o}
noncomputable def St.setC (σ:St) (i:Nat) (ab:AV × AV):St:={σ with cells:=σ.cells.set i ab}
noncomputable def vy (y:AV):V→Bool | .av x=>decide (x=y) | _=>false
noncomputable abbrev PV:=V→St→Prop
noncomputable abbrev PE:=St→Prop
noncomputable def YL:List String:=["cell", "number", "nil", "cells", "pairs", "pool", "told", "signal", "wrong-type-argument",
 "cons", "list", "setcar", "setcdr", "nconc", "delq", "remq", "memq", "member", "assq", "assoc", "rassq", "copy-alist", "car", "cdr", "nth", "nthcdr", "take", "last", "butlast", "proper"]
noncomputable def sT (k:Nat):Str:=Str.ofString ((YL[k]?).getD "?")
noncomputable def xV:AV→Nat
 | .cell _=>0 | .num _=>1 | .nil=>2
set_option genCtorIdx false in
inductive Op where
 | nJ | fC | tat (k:Nat)
 | aw | idxM | idxT | idxS | idxI | idxA | idxB
 | ng | slDrop | slRev | slInit
 | add | sub | mul | mod | fdiv | cat | neg
 | JT | neI | lt | le | gt | ge | eqV | neV | eqS | neS | eqE | neE | eqL
 | uS | isnN | isA | isnA | Pe | isnF
 | bH (l:List Nat) | inT | inD | ninD | inB
 | lu | isInt | isBool
 | len | abs | intb | max | sortd
 | tup | tlv | lst
 | call
inductive Mt where
 | app | pop | ext | get | index
@[reducible] def alloc (σ:St) (o:Ob) (Q:PV):Prop:=∀i af,f6 σ af i o→Q (.ob i) af
noncomputable def boolsOf:List V→Option (List Bool)
 | []=>some []
 | .bool k::r=>(boolsOf r).map (k:: ·)
 | _=>Option.none
noncomputable def strsOf:List V→Option (List Nat)
 | []=>some []
 | .str k::r=>(strsOf r).map (k:: ·)
 | _=>Option.none
noncomputable def f9.get (t:f9):Nat→V
 | 0=>.av t.left | 1=>.av t.right | 2=>.num t.deep | 3=>.num t.turn | 4=>.av t.sl | _=>.av t.sr
noncomputable def f9.D4 (t:f9) (k:Nat) (a:AV):Option f9:=
 bif k == 0 then some {t with left:=a} else bif k == 1 then some {t with right:=a} else bif k == 3 then AV.rec (motive:=fun O=>Option f9) Option.none (fun n=>some {t with turn:=n}) (fun O=>Option.none) a
 else bif k == 4 then some {t with sl:=a} else bif k == 5 then some {t with sr:=a} else Option.none
noncomputable def f9.set (t:f9) (k:Nat) (v:V):Option f9:=V.rec (motive:=fun O=>Option f9) (fun a=>t.D4 k a) (fun O=>Option.none) Option.none (fun O=>Option.none) (fun O=>Option.none) (fun O=>Option.none) (fun O=>Option.none) (fun O=>Option.none) (fun O O=>Option.none) (fun O O O=>Option.none) (fun O=>Option.none) v
noncomputable abbrev CW:=V→List V→PV→PE→St→Prop
@[reducible] def Js:V→Prop
 | .fn _ | .ll _ _ | .lq _ _ _=>True
 | _=>False
section
variable (Q:PV) (σ:St)
@[reducible] def Sx (a b:V):Prop:=∃i x y j x' y',a= .ob i∧b= .ob j∧σ.objs[i]?=some (.lst [.str x,.str y])∧σ.objs[j]?=some (.lst [.str x',.str y'])∧Q (.bool (decide (x=x') && decide (y=y'))) σ
@[reducible] def NH (a:V):Prop:=∃i l,a= .ob i∧σ.objs[i]?=some (.dI l)∧l.length<128∧∀ns:List Int,ns.length=l.length→(∀x∈ns,x∈l.map (·.1))→alloc σ (.lst (ns.map fun n=>.num n)) Q
end
@[reducible] def Nw (m:Mt) (a:V) (σ:St):Prop:=match m with
 | .get=>∃i l,a= .ob i∧σ.objs[i]?=some (.dI l)
 | _=>∃i l,a= .ob i∧σ.objs[i]?=some (.lst l)
set_option genCtorIdx false in
mutual
inductive ME where
 | loc (i:Nat)
 | k (v:V)
 | g (v:V)
 | and (a b:ME)
 | or (a b:ME)
 | not (a:ME)
 | jK (c a b:ME)
 | op (o:Op) (as:gr)
 | JQ (ks:List Nat) (as:gr)
 | gG (m:Mt) (a:ME) (as:gr)
 | comp (fv:List (Option Nat)) (tg:List Nat) (elt:ME) (it:MI) (cond:gr)
 | QN (j:Nat) (o:ME)
 | tU (k:Bool) (a:ME)
 | dead
inductive gr where
 | nil
 | cons (e:ME) (r:gr)
inductive MI where
 | exp (e:ME)
 | tupI (e:ME)
 | Pn (e:ME)
 | Iv (a b c:ME)
 | zip (a b:ME)
end
set_option genCtorIdx false in
mutual
inductive MS where
 | asg (i:Nat) (e:ME)
 | uV (i:Nat) (e:ME)
 | pK (is:List Nat) (es:gr)
 | LA (is:List Nat) (e:ME)
 | D6 (fC:Bool) (o e:ME)
 | zY (k:Nat) (o e:ME)
 | D7 (o k e:ME)
 | Oj (o k e:ME)
 | ret (e:ME)
 | ifs (c:ME) (a b:MB)
 | ju (c:ME) (b:MB)
 | n5 (tg:List Nat) (it:MI) (b:MB)
 | exp (e:ME)
 | jT (k:Nat) (e:ME)
 | Ul (i:Nat) (e:ME)
 | cont
 | dead
inductive MB where
 | nil
 | cons (s:MS) (r:MB)
end
@[reducible] noncomputable def bq:aO→Nat→Option V
 | [],_=>Option.none
 | x::_,0=>x
 | _::r,i+1=>bq r i
@[reducible] noncomputable def m4:aO→Nat→V→aO
 | [],_,_=>[]
 | _::r,0,v=>some v::r
 | x::r,i+1,v=>x::m4 r i v
@[reducible] noncomputable def dJ:aO→List Nat→List V→aO
 | f,i::is,v::vs=>dJ (m4 f i v) is vs
 | f,_,_=>f
@[reducible] noncomputable def fL (f:aO):List (Option Nat)→aO
 | []=>[]
 | Option.none::r=>Option.none::fL f r
 | some j::r=>bq f j::fL f r
@[reducible] def forL (G:St→Prop) (B:List V→aO→(Fl→aO→St→Prop)→St→Prop):List (List V)→aO→(Fl→aO→St→Prop)→St→Prop
 | [],fr,K,σ=>G σ∧K .next fr σ
 | x::xs,fr,K,σ=>G σ∧B x fr (fun fl d7 af=>match fl with
  | .next | .cont=>forL G B xs d7 K af
  | .brk=>K .next d7 af
  | .ret v=>K (.ret v) d7 af) σ
@[reducible] def mF (G:St→Prop) (B:List V→(Option V→St→Prop)→St→Prop):List (List V)→List V→(List V→St→Prop)→St→Prop
 | [],acc,K,σ=>G σ∧K acc σ
 | x::xs,acc,K,σ=>G σ∧B x (fun r af=>match r with
  | some v=>mF G B xs (acc++[v]) K af
  | Option.none=>mF G B xs acc K af) σ
noncomputable def qY (n:Nat):List (List V):=(List.range n).map fun (i:Nat)=>[V.num (i:Int)]
noncomputable def sH:Nat→List (List V)
 | 0=>[]
 | n+1=>[V.num n]::sH n
end
end Mine
end
section
open PySem PySem.W
namespace Mine
noncomputable section
abbrev opt (x:Option α) (k:α→Prop):Prop:=Option.rec (motive:=fun O=>Prop) False k x
abbrev alt (x:Option α) (k:α→Prop) (d:Prop):Prop:=Option.rec (motive:=fun O=>Prop) d k x
noncomputable abbrev V.Gm (v:V):Option AV:=V.rec (motive:=fun O=>Option AV) .some (fun O=>.none) .none (fun O=>.none) (fun O=>.none) (fun O=>.none) (fun O=>.none) (fun O=>.none) (fun O O=>.none) (fun O O O=>.none) (fun O=>.none) v
noncomputable abbrev V.An (v:V):Option AV:=V.rec (motive:=fun O=>Option AV) (fun O=>.none) .some .none (fun O=>.none) (fun O=>.none) (fun O=>.none) (fun O=>.none) (fun O=>.none) (fun O O=>.none) (fun O O O=>.none) (fun O=>.none) v
noncomputable abbrev V.YA (v:V):Option (List Int):=V.rec (motive:=fun O=>Option (List Int)) (fun O=>.none) (fun O=>.none) .none (fun O=>.none) (fun O=>.none) (fun O=>.none) (fun O=>.none) (fun O=>.none) (fun O O=>.none) (fun O O O=>.none) .some v
noncomputable abbrev V.num? (v:V):Option Int:=V.rec (motive:=fun O=>Option Int) (fun a=>AV.rec (motive:=fun O=>Option Int) .none .some (fun O=>.none) a) (fun O=>.none) .none (fun O=>.none) (fun O=>.none) (fun O=>.none) (fun O=>.none) (fun O=>.none) (fun O O=>.none) (fun O O O=>.none) (fun O=>.none) v
noncomputable abbrev V.cell? (v:V):Option Nat:=V.rec (motive:=fun O=>Option Nat) (fun a=>AV.rec (motive:=fun O=>Option Nat) .none (fun O=>.none) .some a) (fun O=>.none) .none (fun O=>.none) (fun O=>.none) (fun O=>.none) (fun O=>.none) (fun O=>.none) (fun O O=>.none) (fun O O O=>.none) (fun O=>.none) v
noncomputable abbrev V.eM (v:V):Option Nat:=V.rec (motive:=fun O=>Option Nat) (fun O=>.none) (fun O=>.none) .none (fun O=>.none) (fun O=>.none) (fun O=>.none) .some (fun O=>.none) (fun O O=>.none) (fun O O O=>.none) (fun O=>.none) v
noncomputable abbrev V.YR (v:V):Option Nat:=V.rec (motive:=fun O=>Option Nat) (fun O=>.none) (fun O=>.none) .none (fun O=>.none) (fun O=>.none) (fun O=>.none) (fun O=>.none) .some (fun O O=>.none) (fun O O O=>.none) (fun O=>.none) v
noncomputable abbrev V.oj (v:V):Option Nat:=V.rec (motive:=fun O=>Option Nat) (fun O=>.none) (fun O=>.none) .none (fun O=>.none) .some (fun O=>.none) (fun O=>.none) (fun O=>.none) (fun O O=>.none) (fun O O O=>.none) (fun O=>.none) v
noncomputable abbrev V.Zn (v:V):Option Nat:=V.rec (motive:=fun O=>Option Nat) (fun O=>.none) (fun O=>.none) .none (fun O=>.none) (fun O=>.none) .some (fun O=>.none) (fun O=>.none) (fun O O=>.none) (fun O O O=>.none) (fun O=>.none) v
noncomputable abbrev V.bool? (v:V):Option Bool:=V.rec (motive:=fun O=>Option Bool) (fun O=>.none) (fun O=>.none) .none .some (fun O=>.none) (fun O=>.none) (fun O=>.none) (fun O=>.none) (fun O O=>.none) (fun O O O=>.none) (fun O=>.none) v
noncomputable abbrev V.isNone (v:V):Bool:=V.rec (motive:=fun O=>Bool) (fun O=>false) (fun O=>false) true (fun O=>false) (fun O=>false) (fun O=>false) (fun O=>false) (fun O=>false) (fun O O=>false) (fun O O O=>false) (fun O=>false) v
@[irreducible] def RM (σ:St) (i:Nat) (k:AV × AV→Prop):Prop:=∃ab,σ.cells[i]?=some ab∧k ab
@[irreducible] def gW (σ:St) (i:Nat) (k:List V→Prop):Prop:=∃l,σ.objs[i]?=some (.lst l)∧l.length<1000000∧k l
@[irreducible] def Vc (σ:St) (i:Nat) (k:List V→Prop):Prop:=∃l,σ.objs[i]?=some (.tup l)∧k l
@[irreducible] def Vb (σ:St) (i:Nat) (k:f9→Prop):Prop:=∃t,σ.objs[i]?=some (.task t)∧k t
@[irreducible] def Xh (σ:St) (i:Nat) (k:List (Int × V)→Prop):Prop:=∃l,σ.objs[i]?=some (.dI l)∧l.length<1000000∧k l
@[irreducible] def vD (σ:St) (i:Nat) (n:Int) (k:V→Prop):Prop:=∃l v,σ.objs[i]?=some (.lst l)∧0≤n∧l.length<1000000∧l[n.toNat]?=some v∧k v
@[irreducible] def HN (σ:St) (i:Nat) (n:Int) (k:V→Prop):Prop:=∃l v,σ.objs[i]?=some (.tup l)∧0≤n∧l.length<1000000∧l[n.toNat]?=some v∧k v
@[irreducible] def HM (σ:St) (i:Nat) (n:Nat) (k:V→Prop):Prop:=∃l v,σ.objs[i]?=some (.dS l)∧l.lookup n=some v∧k v
@[irreducible] def Na (σ:St) (i:Nat) (n:Int) (k:V→Prop):Prop:=∃l v,σ.objs[i]?=some (.dI l)∧l.lookup n=some v∧k v
@[irreducible] def Ph (σ:St) (i:Nat) (k:List V→V→Prop):Prop:=∃l v,σ.objs[i]?=some (.lst (l++[v]))∧l.length<1000000∧k l v
@[irreducible] def RP (n:Int) (k:Nat→Prop):Prop:=∃i:Nat,n=i∧k i
@[irreducible] def Va (σ:St) (i:Nat) (k:List Bool→Prop):Prop:=∃l bs,σ.objs[i]?=some (.lst l)∧l.length<1000000∧boolsOf l=some bs∧k bs
@[irreducible] def M7 (σ:St) (i:Nat) (k:List Nat→Prop):Prop:=∃l ks,σ.objs[i]?=some (.tup l)∧strsOf l=some ks∧k ks
@[irreducible] def HK (σ:St) (i:Nat) (n:Int) (k:Bool→Prop):Prop:=∃l b,σ.objs[i]?=some (.dI l)∧(l.lookup n).isSome=b∧k b
@[irreducible] def Xg (σ:St) (i:Nat) (n:Int) (k:V→Prop):Prop:=∃l v,σ.objs[i]?=some (.dI l)∧(l.lookup n).getD .none=v∧k v
@[irreducible] def xQ (σ:St) (i:Nat) (k:Nat→Prop):Prop:=∃l bs n,σ.objs[i]?=some (.lst l)∧l.length<1000000∧boolsOf l=some bs∧bs.findIdx? (· =true)=some n∧k n
@[irreducible] def sd (P Q:Prop):Prop:=P∧Q
@[irreducible] def nw (σ:St) (o:Ob) (Q:PV):Prop:=alloc σ o Q
section
variable {σ:St} {i:Nat}
theorem aK {ab k} (h:σ.cells[i]?=some ab) (q:k ab):RM σ i k:=by with_unfolding_all exact ⟨ab,h,q⟩
theorem ax {l k} (h:σ.objs[i]?=some (.lst l)) (hl:l.length<1000000) (q:k l):gW σ i k:=by with_unfolding_all exact ⟨l,h,hl,q⟩
theorem fY {l k} (h:σ.objs[i]?=some (.tup l)) (q:k l):Vc σ i k:=by with_unfolding_all exact ⟨l,h,q⟩
theorem bU {l k} (h:σ.objs[i]?=some (.task l)) (q:k l):Vb σ i k:=by with_unfolding_all exact ⟨l,h,q⟩
theorem Kt {l k} (h:σ.objs[i]?=some (.dI l)) (hl:l.length<1000000) (q:k l):Xh σ i k:=by with_unfolding_all exact ⟨l,h,hl,q⟩
theorem ba {l v k} (h:σ.objs[i]?=some (.lst l)) (hl:l.length<1000000) (h0:0≤n) (hv:l[n.toNat]?=some v) (q:k v):vD σ i n k:=by with_unfolding_all exact ⟨l,v,h,h0,hl,hv,q⟩
theorem vE {l v k} (h:σ.objs[i]?=some (.tup l)) (hl:l.length<1000000) (h0:0≤n) (hv:l[n.toNat]?=some v) (q:k v):HN σ i n k:=by with_unfolding_all exact ⟨l,v,h,h0,hl,hv,q⟩
theorem aP {l v k} (h:σ.objs[i]?=some (.dS l)) (hv:l.lookup n=some v) (q:k v):HM σ i n k:=by with_unfolding_all exact ⟨l,v,h,hv,q⟩
theorem CQ {l v k} (h:σ.objs[i]?=some (.dI l)) (hv:l.lookup n=some v) (q:k v):Na σ i n k:=by with_unfolding_all exact ⟨l,v,h,hv,q⟩
theorem fX {l v k} (h:σ.objs[i]?=some (.lst (l++[v]))) (hl:l.length<1000000) (q:k l v):Ph σ i k:=by with_unfolding_all exact ⟨l,v,h,hl,q⟩
theorem oZ {n:Int} {k} {i:Nat} (h:n=i) (q:k i):RP n k:=by with_unfolding_all exact ⟨i,h,q⟩
theorem RJ {l bs k} (h:σ.objs[i]?=some (.lst l)) (hl:l.length<1000000) (hb:boolsOf l=some bs) (q:k bs):Va σ i k:=by with_unfolding_all exact ⟨l,bs,h,hl,hb,q⟩
theorem M8 {l bs k} (h:σ.objs[i]?=some (.tup l)) (hb:strsOf l=some bs) (q:k bs):M7 σ i k:=by with_unfolding_all exact ⟨l,bs,h,hb,q⟩
theorem qJ {l b k} (h:σ.objs[i]?=some (.dI l)) (e:(l.lookup n).isSome=b) (q:k b):HK σ i n k:=by with_unfolding_all exact ⟨l,b,h,e,q⟩
theorem Ks {l v k} (h:σ.objs[i]?=some (.dI l)) (e:(l.lookup n).getD .none=v) (q:k v):Xg σ i n k:=by with_unfolding_all exact ⟨l,v,h,e,q⟩
theorem HI {l bs n k} (h:σ.objs[i]?=some (.lst l)) (hl:l.length<1000000) (hb:boolsOf l=some bs) (hn:bs.findIdx? (· =true)=some n) (q:k n):xQ σ i k:=by with_unfolding_all exact ⟨l,bs,n,h,hl,hb,hn,q⟩
theorem CN {k} {R:Prop} (h:RM σ i k) (f:∀ab,σ.cells[i]?=some ab→k ab→R):R:=by with_unfolding_all exact bQ h fun ab h=>f ab h.1 h.2
theorem xR {k} {R:Prop} (h:gW σ i k) (f:∀l,σ.objs[i]?=some (.lst l)→l.length<1000000→k l→R):R:=by with_unfolding_all exact bQ h fun l h=>f l h.1 h.2.1 h.2.2
theorem Kw {k} {R:Prop} (h:Vc σ i k) (f:∀l,σ.objs[i]?=some (.tup l)→k l→R):R:=by with_unfolding_all exact bQ h fun l h=>f l h.1 h.2
theorem Ku {k} {R:Prop} (h:Vb σ i k) (f:∀t,σ.objs[i]?=some (.task t)→k t→R):R:=by with_unfolding_all exact bQ h fun l h=>f l h.1 h.2
theorem RO {k} {R:Prop} (h:Xh σ i k) (f:∀l,σ.objs[i]?=some (.dI l)→l.length<1000000→k l→R):R:=by with_unfolding_all exact bQ h fun l h=>f l h.1 h.2.1 h.2.2
theorem RQ {k} {n:Int} {R:Prop} (h:vD σ i n k) (f:∀l v,σ.objs[i]?=some (.lst l)→0≤n→l.length<1000000→l[n.toNat]?=some v→k v→R):R:=by with_unfolding_all exact bQ h fun l h=>h.elim fun v h=>f l v h.1 h.2.1 h.2.2.1 h.2.2.2.1 h.2.2.2.2
theorem Nd {k} {n:Int} {R:Prop} (h:HN σ i n k) (f:∀l v,σ.objs[i]?=some (.tup l)→0≤n→l.length<1000000→l[n.toNat]?=some v→k v→R):R:=by with_unfolding_all exact bQ h fun l h=>h.elim fun v h=>f l v h.1 h.2.1 h.2.2.1 h.2.2.2.1 h.2.2.2.2
theorem Nc {k} {n:Nat} {R:Prop} (h:HM σ i n k) (f:∀l v,σ.objs[i]?=some (.dS l)→l.lookup n=some v→k v→R):R:=by with_unfolding_all exact bQ h fun l h=>h.elim fun v h=>f l v h.1 h.2.1 h.2.2
theorem Nb {k} {n:Int} {R:Prop} (h:Na σ i n k) (f:∀l v,σ.objs[i]?=some (.dI l)→l.lookup n=some v→k v→R):R:=by with_unfolding_all exact bQ h fun l h=>h.elim fun v h=>f l v h.1 h.2.1 h.2.2
theorem Kv {k} {R:Prop} (h:Ph σ i k) (f:∀l v,σ.objs[i]?=some (.lst (l++[v]))→l.length<1000000→k l v→R):R:=by with_unfolding_all exact bQ h fun l h=>h.elim fun v h=>f l v h.1 h.2.1 h.2.2
theorem CP {n:Int} {k} {R:Prop} (h:RP n k) (f:∀i:Nat,n=i→k i→R):R:=by with_unfolding_all exact bQ h fun i h=>f i h.1 h.2
theorem RK {k} {R:Prop} (h:Va σ i k) (f:∀l bs,σ.objs[i]?=some (.lst l)→l.length<1000000→boolsOf l=some bs→k bs→R):R:=by with_unfolding_all exact bQ h fun l h=>h.elim fun v h=>f l v h.1 h.2.1 h.2.2.1 h.2.2.2
theorem M9 {k} {R:Prop} (h:M7 σ i k) (f:∀l ks,σ.objs[i]?=some (.tup l)→strsOf l=some ks→k ks→R):R:=by with_unfolding_all exact bQ h fun l h=>h.elim fun v h=>f l v h.1 h.2.1 h.2.2
theorem CO {n:Int} {k} {R:Prop} (h:HK σ i n k) (f:∀l,σ.objs[i]?=some (.dI l)→k (l.lookup n).isSome→R):R:=by with_unfolding_all exact bQ h fun l h=>h.elim fun b h=>f l h.1 (h.2.1▸h.2.2)
theorem RN {n:Int} {k} {R:Prop} (h:Xg σ i n k) (f:∀l,σ.objs[i]?=some (.dI l)→k ((l.lookup n).getD .none)→R):R:=by with_unfolding_all exact bQ h fun l h=>h.elim fun b h=>f l h.1 (h.2.1▸h.2.2)
theorem HJ {k} {R:Prop} (h:xQ σ i k) (f:∀l bs n,σ.objs[i]?=some (.lst l)→l.length<1000000→boolsOf l=some bs→bs.findIdx? (· =true)=some n→k n→R):R:=by with_unfolding_all exact bQ h fun l h=>h.elim fun v h=>h.elim fun n h=>f l v n h.1 h.2.1 h.2.2.1 h.2.2.2.1 h.2.2.2.2
theorem dD (h:sd P Q):P:=by with_unfolding_all exact h.1
theorem eO (h:sd P Q):Q:=by with_unfolding_all exact h.2
theorem jS (h:nw σ o Q):alloc σ o Q:=by with_unfolding_all exact h
theorem dG (h:bif b then P else False):b=true:=by cases b;exact h.elim;rfl
theorem dH (h:bif b then P else False):P:=by cases b;exact h.elim;exact h
theorem KY {α:Type} {x:Option α} {k:α→Prop} {R:Prop} (h:opt x k) (f:∀a,x=some a→k a→R):R:=by
 cases x with
 | none=>exact h.elim
 | some a=>exact f a rfl h
theorem ah (p:P) (q:Q):sd P Q:=by with_unfolding_all exact ⟨p,q⟩
theorem aR (h:∀j af,f6 σ af j o→Q (.ob j) af):nw σ o Q:=by with_unfolding_all exact h
end
section
variable (Q:PV) (σ:St)
abbrev F7 (f:Int→Int→V) (a b:V):Prop:=opt a.num? fun n=>opt b.num? fun m=>Q (f n m) σ
abbrev qIs (f:Bool→Bool) (a b:V):Prop:=opt a.Gm fun x=>opt b.Gm fun y=>sd (x.isNum=false∨y.isNum=false) (Q (.bool (f (decide (x=y)))) σ)
abbrev SM (a:V):Prop:=opt a.oj fun k=>bif k == 2 then Q (.lv .nil) σ else False
abbrev SN (a b:V):Prop:=opt a.oj fun k=>opt b.num? fun n=>bif k == 0 then RP n fun i=>Q (.lv (.cell i)) σ else bif k == 1 then Q (.lv (.num n)) σ else False
abbrev SK (vs:List V):Prop:=List.rec (motive:=fun O=>Prop) False (fun a r O=>List.rec (motive:=fun O=>Prop) (SM Q σ a) (fun b r O=>List.rec (motive:=fun O=>Prop) (SN Q σ a b) (fun O O O=>False) r) r) vs
end
noncomputable abbrev Pj (a:AV):Option Int:=AV.rec (motive:=fun O=>Option Int) .none .some (fun i=>.some i) a
abbrev q1 (o:Op) (a:V) (Q:PV) (σ:St):Prop:=match o with
 | .nJ=>opt a.cell? fun i=>RM σ i fun ab=>Q (.av ab.1) σ
 | .fC=>opt a.cell? fun i=>RM σ i fun ab=>Q (.av ab.2) σ
 | .tat k=>opt a.YR fun i=>Vb σ i fun t=>Q (t.get k) σ
 | .slRev=>opt a.eM fun i=>gW σ i fun l=>nw σ (.lst l.reverse) Q
 | .slInit=>opt a.eM fun i=>gW σ i fun l=>nw σ (.lst l.dropLast) Q
 | .neg=>opt a.num? fun n=>Q (.num (-n)) σ
 | .bH l=>opt a.oj fun x=>bif l.all (· <30) then Q (.bool (l.contains x)) σ else False
 | .isInt=>opt a.Gm fun x=>Q (.bool x.isNum) σ
 | .isBool=>opt a.Gm fun x=>Q (.bool false) σ
 | .len=>alt a.YA (fun ns=>sd (ns.length<1000000) (Q (.num ns.length) σ)) (opt a.eM fun i=>gW σ i fun l=>Q (.num l.length) σ)
 | .abs=>opt a.num? fun n=>Q (.num (if n<0 then -n else n)) σ
 | .intb=>opt a.bool? fun b=>Q (.num (if b then 1 else 0)) σ
 | .sortd=>NH Q σ a
 | _=>False
abbrev q2 (o:Op) (a b:V) (Q:PV) (σ:St):Prop:=match o with
 | .aw=>opt a.eM fun i=>opt b.num? fun n=>vD σ i n fun v=>Q v σ
 | .idxM=>opt a.eM fun i=>opt b.num? fun n=>bif n == -1 then Ph σ i fun O v=>Q v σ else False
 | .idxT=>opt a.eM fun i=>opt b.num? fun n=>HN σ i n fun v=>Q v σ
 | .idxS=>opt a.eM fun i=>opt b.oj fun n=>HM σ i n fun v=>Q v σ
 | .idxI=>opt a.eM fun i=>opt b.num? fun n=>Na σ i n fun v=>Q v σ
 | .idxA=>opt a.An fun x=>opt b.num? fun n=>bif n == 0 then Q (.str (xV x)) σ else False
 | .idxB=>opt a.An fun x=>opt b.num? fun n=>bif n == 1 then opt (Pj x) fun m=>Q (.num m) σ else False
 | .ng=>alt a.YA (fun ns=>opt b.num? fun n=>sd (0≤n∧n<1000000∧ns.length<1000000) (nw σ (.lst ((ns.map V.num).take n.toNat)) Q)) (opt a.eM fun i=>opt b.num? fun n=>gW σ i fun l=>sd (0≤n∧n<1000000) (nw σ (.lst (l.take n.toNat)) Q))
 | .slDrop=>opt a.eM fun i=>opt b.num? fun n=>bif n == 1 then gW σ i fun l=>nw σ (.lst (l.drop 1)) Q else False
 | .add=>F7 Q σ (fun n m=>.num (n+m)) a b
 | .sub=>F7 Q σ (fun n m=>.num (n - m)) a b
 | .mul=>opt a.num? fun n=>opt b.num? fun m=>sd (IntMulOk n m) (Q (.num (n*m)) σ)
 | .mod=>opt a.num? fun n=>opt b.num? fun m=>sd (0<m) (Q (.num (n % m)) σ)
 | .fdiv=>opt a.num? fun n=>opt b.num? fun m=>sd (0<m∧m<1073741824) (Q (.num (n / m)) σ)
 | .cat=>opt a.eM fun i=>opt b.eM fun j=>gW σ i fun l=>gW σ j fun m=>sd (l.length+m.length<1000000) (nw σ (.lst (l++m)) Q)
 | .JT=>F7 Q σ (fun n m=>.bool (decide (n=m))) a b
 | .neI=>F7 Q σ (fun n m=>.bool (decide (n≠m))) a b
 | .lt=>F7 Q σ (fun n m=>.bool (decide (n<m))) a b
 | .le=>F7 Q σ (fun n m=>.bool (decide (n≤m))) a b
 | .gt=>F7 Q σ (fun n m=>.bool (decide (n>m))) a b
 | .ge=>F7 Q σ (fun n m=>.bool (decide (n ≥ m))) a b
 | .eqV=>opt a.An fun x=>opt b.An fun y=>Q (.bool (decide (x=y))) σ
 | .neV=>opt a.An fun x=>opt b.An fun y=>Q (.bool (decide (x≠y))) σ
 | .eqS=>opt a.oj fun x=>opt b.oj fun y=>Q (.bool (decide (x=y))) σ
 | .neS=>opt a.oj fun x=>opt b.oj fun y=>Q (.bool (decide (x≠y))) σ
 | .eqE=>opt a.eM fun i=>opt b.eM fun j=>gW σ j fun m=>bif m.isEmpty then gW σ i fun l=>Q (.bool l.isEmpty) σ else False
 | .neE=>opt a.eM fun i=>opt b.eM fun j=>gW σ j fun m=>bif m.isEmpty then gW σ i fun l=>Q (.bool (!l.isEmpty)) σ else False
 | .eqL=>Sx Q σ a b
 | .uS=>bif b.isNone then Q (.bool a.isNone) σ else False
 | .isnN=>bif b.isNone then Q (.bool (!a.isNone)) σ else False
 | .isA=>qIs Q σ id a b
 | .isnA=>qIs Q σ not a b
 | .Pe=>opt b.Gm fun O=>bif a.isNone then Q (.bool false) σ else False
 | .isnF=>opt b.Gm fun O=>bif a.isNone then Q (.bool true) σ else False
 | .inT=>opt a.oj fun x=>opt b.eM fun i=>M7 σ i fun ks=>Q (.bool (ks.contains x)) σ
 | .inD=>opt a.num? fun n=>opt b.eM fun i=>HK σ i n fun b=>Q (.bool b) σ
 | .ninD=>opt a.num? fun n=>opt b.eM fun i=>HK σ i n fun b=>Q (.bool (!b)) σ
 | .inB=>opt a.bool? fun t=>opt b.eM fun i=>bif t then Va σ i fun bs=>Q (.bool (bs.contains true)) σ else False
 | .lu=>opt a.Gm fun x=>opt b.Zn fun c=>bif c == 82 then Q (.bool x.aE) σ else bif ([125,146,104,181]:List Nat).contains c && !x.aE then Q (.bool false) σ else False
 | .max=>F7 Q σ (fun n m=>.num (Max.max n m)) a b
 | _=>False
abbrev qV (o:Op) (vs:List V) (Q:PV) (σ:St):Prop:=match vs with
 | [a]=>q1 o a Q σ
 | [a,b]=>q2 o a b Q σ
 | _=>False
abbrev SJ (C:CW) (o:Op) (vs:List V) (Q:PV) (E:PE) (σ:St):Prop:=match o with
 | .tup=>bif vs.length<1000 then nw σ (.tup vs) Q else False
 | .tlv=>SK Q σ vs
 | .lst=>bif vs.length<1000 then nw σ (.lst vs) Q else False
 | .call=>(match vs with | f::vs=>sd (Js f) (C f vs Q E σ) | _=>False)
 | _=>qV o vs Q σ
abbrev l0 (vs:List V) (P:Prop):Prop:=List.rec (motive:=fun O=>Prop) P (fun O O O=>False) vs
abbrev l1 (vs:List V) (f:V→Prop):Prop:=List.rec (motive:=fun O=>Prop) False (fun a r O=>l0 r (f a)) vs
abbrev l2 (vs:List V) (f:V→V→Prop):Prop:=List.rec (motive:=fun O=>Prop) False (fun a r O=>l1 r (f a)) vs
abbrev NO (m:Mt) (a:V) (vs:List V) (Q:PV) (σ:St):Prop:=Mt.casesOn (motive:=fun O=>Prop) m
 (l1 vs fun v=>opt a.eM fun i=>gW σ i fun l=>Q .none (σ.aV i (.lst (l++[v]))))
 (l0 vs (opt a.eM fun i=>Ph σ i fun l v=>Q v (σ.aV i (.lst l))))
 (l1 vs fun b=>opt a.eM fun i=>opt b.eM fun j=>gW σ i fun l=>gW σ j fun m=>sd (i≠j∧l.length+m.length<1000000) (Q .none (σ.aV i (.lst (l++m)))))
 (l2 vs fun k d=>opt a.eM fun i=>opt k.num? fun n=>bif d.isNone then Xg σ i n fun v=>Q v σ else False)
 (l1 vs fun b=>opt a.eM fun i=>opt b.bool? fun t=>bif t then xQ σ i fun n=>Q (.num n) σ else False)
@[irreducible] def Nr (m:Mt) (a:V) (σ:St) (Q:Prop):Prop:=Nw m a σ∧Q
theorem R4 (h:Nr m a σ Q):Nw m a σ∧Q:=by with_unfolding_all exact h
theorem eJ (h:σ.objs[i]?=some (.lst l)) (hm:(match m with | .get=>false | _=>true)=true) (q:Q):Nr m (.ob i) σ Q:=by
 unfold Nr
 cases m <;> first | exact ⟨⟨i,l,rfl,h⟩,q⟩ | cases hm
theorem KC (h:σ.objs[i]?=some (.dI l)) (q:Q):Nr .get (.ob i) σ Q:=by
 unfold Nr;exact ⟨⟨i,l,rfl,h⟩,q⟩
@[irreducible] def kT (σ:St) (k:Nat) (a:V) (C:Prop):Prop:=∃i t,a= .tk i∧σ.objs[i]?=some (.task t)∧C
theorem RA (h:σ.objs[i]?=some (.task t)) (q:C):kT σ k (.tk i) C:=by with_unfolding_all exact ⟨i,t,rfl,h,q⟩
abbrev qb (v:V) (Q:Bool→St→Prop) (σ:St):Prop:=opt v.bool? fun b=>Q b σ
noncomputable abbrev TE:=CW→aO→PV→PE→St→Prop
noncomputable abbrev TT:=CW→aO→(Bool→St→Prop)→PE→St→Prop
noncomputable abbrev Aw:=CW→aO→(List V→St→Prop)→PE→St→Prop
noncomputable abbrev TI:=CW→aO→(List (List V)→(St→Prop)→St→Prop)→PE→St→Prop
noncomputable abbrev NA:TT:=fun O O O O O=>False
noncomputable abbrev Nn (i:Nat):TE × TT:=(fun C fr Q E σ=>opt (bq fr i) fun v=>Q v σ,fun C fr Q E σ=>opt (bq fr i) fun v=>qb v Q σ)
noncomputable abbrev mK (v:V):TE × TT:=(fun C fr Q E σ=>Q v σ,NA)
noncomputable abbrev Nj (a b:TE × TT):TE × TT:=(fun C fr Q E σ=>a.1 C fr (fun v af=>qb v (fun t bh=>ey t (b.1 C fr Q E bh) (Q v bh)) af) E σ,fun C fr Q E σ=>a.2 C fr (fun t af=>ey t (b.2 C fr Q E af) (Q false af)) E σ)
noncomputable abbrev Xp (a b:TE × TT):TE × TT:=(fun C fr Q E σ=>a.1 C fr (fun v af=>qb v (fun t bh=>ey t (Q v bh) (b.1 C fr Q E bh)) af) E σ,fun C fr Q E σ=>a.2 C fr (fun t af=>ey t (Q true af) (b.2 C fr Q E af)) E σ)
noncomputable abbrev Nq (a:TE × TT):TE × TT:=(fun C fr Q E σ=>a.1 C fr (fun v af=>qb v (fun t bh=>Q (.bool (!t)) bh) af) E σ,fun C fr Q E σ=>a.2 C fr (fun t af=>Q (!t) af) E σ)
noncomputable abbrev Nm (c a b:TE × TT):TE × TT:=(fun C fr Q E σ=>c.2 C fr (fun t af=>ey t (a.1 C fr Q E af) (b.1 C fr Q E af)) E σ,NA)
noncomputable abbrev Xo (o:Op) (as:Aw × TT):TE × TT:=(fun C fr Q E σ=>as.1 C fr (fun vs af=>SJ C o vs Q E af) E σ,fun C fr Q E σ=>as.1 C fr (fun vs af=>SJ C o vs (fun v bh=>qb v Q bh) E af) E σ)
noncomputable abbrev Nk (ks:List Nat) (as:Aw × TT):TE × TT:=(fun C fr Q E σ=>as.1 C fr (fun vs af=>sd (ks.length=vs.length∧ks.Nodup∧∀k∈ks,k<30) (nw af (if ks=[] then .dI [] else .dS (ks.zip vs)) Q)) E σ,NA)
noncomputable abbrev Dh (m:Mt) (a:TE × TT) (as:Aw × TT):TE × TT:=(fun C fr Q E σ=>a.1 C fr (fun v af=>Nr m v af (as.1 C fr (fun vs bh=>NO m v vs Q bh) E af)) E σ,NA)
noncomputable abbrev Dd (fv:List (Option Nat)) (tg:List Nat) (elt:TE × TT) (it:TI) (cond:Aw × TT):TE × TT:=(fun C fr Q E σ=>it C fr (fun items G rC=>sd (items.length<1000000) (mF G (fun x K eg=>
   cond.2 C (dJ (fL fr fv) tg x) (fun t k6=>ey t (elt.1 C (dJ (fL fr fv) tg x) (fun v Vl=>K (some v) Vl) (fun O=>False) k6) (K Option.none k6)) (fun O=>False) eg) items [] (fun l Vm=>nw Vm (.lst l) Q) rC)) E σ,NA)
noncomputable abbrev Dg (j:Nat) (o:TE × TT):TE × TT:=(fun C fr Q E σ=>o.1 C fr (fun v af=>∃i l y,v= .ob i∧bq fr j=some (.av (.cell y))∧af.objs[i]?=some (.dI l)∧(∀p∈l,∃x,p.2= .av x)∧l.length<1000000∧nw af (.lst ((l.filter fun p=>vy (.cell y) p.2).map fun O=>.num 1)) Q) E σ,NA)
noncomputable abbrev Xq (k:Bool) (a:TE × TT):TE × TT:=(fun C fr Q E σ=>a.1 C fr (fun v af=>kT af 0 v (C (.fn (if k then 366 else 359)) [v] Q E af)) E σ,fun C fr Q E σ=>a.1 C fr (fun v af=>kT af 0 v (C (.fn (if k then 366 else 359)) [v] (fun v bh=>qb v Q bh) E af)) E σ)
noncomputable abbrev Xn:TE × TT:=(fun O O O O O=>False,NA)
noncomputable abbrev Np:Aw × TT:=(fun C fr Q E σ=>Q [] σ,fun C fr Q E σ=>Q true σ)
noncomputable abbrev De (e:TE × TT) (r:Aw × TT):Aw × TT:=(fun C fr Q E σ=>e.1 C fr (fun v af=>r.1 C fr (fun vs bh=>Q (v::vs) bh) E af) E σ,fun C fr Q E σ=>e.2 C fr (fun t af=>ey t (r.2 C fr Q E af) (Q false af)) E σ)
noncomputable abbrev Nl (e:TE × TT):TI:=fun C fr K E σ=>e.1 C fr (fun v af=>opt v.eM fun i=>gW af i fun l=>K (l.map fun x=>[x]) (fun bh=>bh.objs[i]?=some (.lst l)) af) E σ
noncomputable abbrev Dj (e:TE × TT):TI:=fun C fr K E σ=>e.1 C fr (fun v af=>opt v.eM fun i=>Vc af i fun l=>K (l.map fun x=>[x]) (fun bh=>bh.objs[i]?=some (.tup l)) af) E σ
noncomputable abbrev Nt (e:TE × TT):TI:=fun C fr K E σ=>e.1 C fr (fun v af=>opt v.num? fun z=>RP z fun n=>sd (n<1000000) (K (qY n) (fun O=>True) af)) E σ
noncomputable abbrev Di (a b c:TE × TT):TI:=fun C fr K E σ=>a.1 C fr (fun v af=>b.1 C fr (fun v2 eg=>c.1 C fr (fun v3 k6=>opt v.num? fun z=>opt v2.num? fun z2=>opt v3.num? fun z3=>bif z2 == -1 && z3 == -1 then RP (z+1) fun n=>sd (n<1000000) (K (sH n) (fun O=>True) k6) else False) E eg) E af) E σ
noncomputable abbrev Nu (a b:TE × TT):TI:=fun C fr K E σ=>a.1 C fr (fun v af=>b.1 C fr (fun v2 eg=>opt v.eM fun i=>opt v2.eM fun j=>gW eg i fun l=>gW eg j fun m=>sd (l.length≤m.length)
   (K ((l.zip m).map fun x=>[x.1,x.2]) (fun k6=>k6.objs[i]?=some (.lst l)∧k6.objs[j]?=some (.lst m)) eg)) E af) E σ
noncomputable abbrev rE (e:ME):TE × TT:=ME.rec (motive_1:=fun O=>TE × TT) (motive_2:=fun O=>Aw × TT) (motive_3:=fun O=>TI) Nn mK mK (fun O O=>Nj) (fun O O=>Xp) (fun O=>Nq) (fun O O O=>Nm) (fun o O=>Xo o) (fun ks O=>Nk ks) (fun m O O=>Dh m) (fun fv tg O O O=>Dd fv tg) (fun j O=>Dg j) (fun k O=>Xq k) Xn
 Np (fun O O=>De) (fun O=>Nl) (fun O=>Dj) (fun O=>Nt) (fun O O O=>Di) (fun O O=>Nu) e
noncomputable abbrev rEs (e:gr):Aw × TT:=gr.rec (motive_1:=fun O=>TE × TT) (motive_2:=fun O=>Aw × TT) (motive_3:=fun O=>TI) Nn mK mK (fun O O=>Nj) (fun O O=>Xp) (fun O=>Nq) (fun O O O=>Nm) (fun o O=>Xo o) (fun ks O=>Nk ks) (fun m O O=>Dh m) (fun fv tg O O O=>Dd fv tg) (fun j O=>Dg j) (fun k O=>Xq k) Xn
 Np (fun O O=>De) (fun O=>Nl) (fun O=>Dj) (fun O=>Nt) (fun O O O=>Di) (fun O O=>Nu) e
noncomputable abbrev rI (e:MI):TI:=MI.rec (motive_1:=fun O=>TE × TT) (motive_2:=fun O=>Aw × TT) (motive_3:=fun O=>TI) Nn mK mK (fun O O=>Nj) (fun O O=>Xp) (fun O=>Nq) (fun O O O=>Nm) (fun o O=>Xo o) (fun ks O=>Nk ks) (fun m O O=>Dh m) (fun fv tg O O O=>Dd fv tg) (fun j O=>Dg j) (fun k O=>Xq k) Xn
 Np (fun O O=>De) (fun O=>Nl) (fun O=>Dj) (fun O=>Nt) (fun O O O=>Di) (fun O O=>Nu) e
abbrev qE (C:CW) (e:ME) (fr:aO) (Q:PV) (E:PE) (σ:St):Prop:=(rE e).1 C fr Q E σ
abbrev SH (C:CW) (e:gr) (fr:aO) (Q:List V→St→Prop) (E:PE) (σ:St):Prop:=(rEs e).1 C fr Q E σ
abbrev qT (C:CW) (e:ME) (fr:aO) (Q:Bool→St→Prop) (E:PE) (σ:St):Prop:=(rE e).2 C fr Q E σ
abbrev qTs (C:CW) (e:gr) (fr:aO) (Q:Bool→St→Prop) (E:PE) (σ:St):Prop:=(rEs e).2 C fr Q E σ
abbrev qI (C:CW) (e:MI) (fr:aO) (K:List (List V)→(St→Prop)→St→Prop) (E:PE) (σ:St):Prop:=rI e C fr K E σ
@[irreducible] def Jw (T:aO→(Bool→St→Prop)→PE→St→Prop) (B:aO→(Fl→aO→St→Prop)→(aO→St→Prop)→St→Prop) (fr:aO) (K:Fl→aO→St→Prop) (E:aO→St→Prop) (σ:St):Prop:=
 ∃(I:Nat→aO→St→Prop) (n:Nat),I n fr σ∧∀n fr σ,I n fr σ→T fr (fun t af=>ey t (B fr (fun fl d7 bh=>match fl with
   | .next | .cont=>∃m,m<n∧I m d7 bh
   | .brk=>K .next d7 bh
   | .ret v=>K (.ret v) d7 bh) E af) (K .next fr af)) (E fr) σ
theorem PH 
  (I:Nat→aO→St→Prop) (n:Nat) (h:I n fr σ) (st:∀n fr σ,I n fr σ→T fr (fun t af=>ey t (B fr (fun fl d7 bh=>match fl with
   | .next | .cont=>∃m,m<n∧I m d7 bh
   | .brk=>K .next d7 bh
   | .ret v=>K (.ret v) d7 bh) E af) (K .next fr af)) (E fr) σ):Jw T B fr K E σ:=by with_unfolding_all exact ⟨I,n,h,st⟩
theorem PG (h:Jw T B fr K E σ) :
  ∃(I:Nat→aO→St→Prop) (n:Nat),I n fr σ∧∀n fr σ,I n fr σ→T fr (fun t af=>ey t (B fr (fun fl d7 bh=>match fl with
   | .next | .cont=>∃m,m<n∧I m d7 bh
   | .brk=>K .next d7 bh
   | .ret v=>K (.ret v) d7 bh) E af) (K .next fr af)) (E fr) σ:=by with_unfolding_all exact h
noncomputable abbrev TS:=CW→aO→(Fl→aO→St→Prop)→(aO→St→Prop)→St→Prop
noncomputable abbrev Ia (i:Nat) (e:ME):TS:=fun C fr K E σ=>qE C e fr (fun v af=>K .next (m4 fr i v) af) (E fr) σ
noncomputable abbrev KG (is:List Nat) (es:gr):TS:=fun C fr K E σ=>SH C es fr (fun vs af=>bif is.length == vs.length then K .next (dJ fr is.reverse vs.reverse) af else False) (E fr) σ
noncomputable abbrev Sh (is:List Nat) (e:ME):TS:=fun C fr K E σ=>qE C e fr (fun v af=>opt v.eM fun i=>Vc af i fun l=>bif is.length == l.length then K .next (dJ fr is l) af else False) (E fr) σ
noncomputable abbrev KO (d:Bool) (o e:ME):TS:=fun C fr K E σ=>qE C e fr (fun v af=>qE C o fr (fun u bh=>opt u.cell? fun i=>opt v.Gm fun a=>RM bh i fun ab=>K .next fr (bh.setC i (if d then (ab.1,a) else (a,ab.2)))) (E fr) af) (E fr) σ
noncomputable abbrev KR (k:Nat) (o e:ME):TS:=fun C fr K E σ=>qE C e fr (fun v af=>qE C o fr (fun u bh=>opt u.YR fun i=>Vb bh i fun t=>opt (t.set k v) fun t'=>K .next fr (bh.aV i (.task t'))) (E fr) af) (E fr) σ
noncomputable abbrev KQ (o k e:ME):TS:=fun C fr K E σ=>qE C e fr (fun v af=>qE C o fr (fun u eg=>qE C k fr (fun x k6=>opt u.eM fun i=>opt x.num? fun n=>gW k6 i fun l=>sd (0≤n∧n.toNat<l.length) (K .next fr (k6.aV i (.lst (l.set n.toNat v))))) (E fr) eg) (E fr) af) (E fr) σ
noncomputable abbrev KP (o k e:ME):TS:=fun C fr K E σ=>qE C e fr (fun v af=>qE C o fr (fun u eg=>qE C k fr (fun x k6=>opt u.eM fun i=>opt x.num? fun n=>Xh k6 i fun l=>sd (l.lookup n=Option.none) (K .next fr (k6.aV i (.dI (l++[(n,v)]))))) (E fr) eg) (E fr) af) (E fr) σ
noncomputable abbrev Se (e:ME):TS:=fun C fr K E σ=>qE C e fr (fun v af=>K (.ret v) fr af) (E fr) σ
noncomputable abbrev Sb (c:ME) (a b:TS):TS:=fun C fr K E σ=>qT C c fr (fun t af=>ey t (a C fr K E af) (b C fr K E af)) (E fr) σ
noncomputable abbrev KS (c:ME) (b:TS):TS:=fun C fr K E σ=>Jw (qT C c) (b C) fr K E σ
noncomputable abbrev KN (tg:List Nat) (it:MI) (b:TS):TS:=fun C fr K E σ=>qI C it fr (fun items G rC=>forL G (fun x d7 K' af=>b C (dJ d7 tg x) K' E af) items fr K rC) (E fr) σ
noncomputable abbrev Sa (e:ME):TS:=fun C fr K E σ=>qE C e fr (fun O af=>K .next fr af) (E fr) σ
noncomputable abbrev Dp (k:Nat) (e:ME):TS:=fun C fr K E σ=>qE C e fr (fun O af=>E fr af) (E fr) σ
noncomputable abbrev Sf (i:Nat) (e:ME):TS:=fun C fr K E σ=>sd (bq fr i=Option.none) (qE C e fr (fun v af=>K (.ret v) fr af) (fun af=>nw af (.lst [.str 7,.str 8]) fun v bh=>K (.ret v) fr bh) σ)
noncomputable abbrev KJ:TS:=fun C fr K E σ=>K .cont fr σ
noncomputable abbrev KL:TS:=fun O O O O O=>False
noncomputable abbrev Sd:TS:=fun C fr K E σ=>K .next fr σ
abbrev ID (r:TS) (C:CW) (K:Fl→aO→St→Prop) (E:aO→St→Prop) (fl:Fl) (d7:aO) (af:St):Prop:=match fl with
   | .next=>r C d7 K E af
   | .cont=>K .cont d7 af
   | .brk=>K .brk d7 af
   | .ret v=>K (.ret v) d7 af
noncomputable abbrev KH (s r:TS):TS:=fun C fr K E σ=>s C fr (ID r C K E) E σ
noncomputable abbrev rS (m:MS):TS:=MS.rec (motive_1:=fun O=>TS) (motive_2:=fun O=>TS) Ia Ia KG Sh KO KR KQ KP Se (fun c O O=>Sb c) (fun c O=>KS c) (fun tg it O=>KN tg it) Sa Dp Sf KJ KL Sd (fun O O=>KH) m
noncomputable abbrev rB (m:MB):TS:=MB.rec (motive_1:=fun O=>TS) (motive_2:=fun O=>TS) Ia Ia KG Sh KO KR KQ KP Se (fun c O O=>Sb c) (fun c O=>KS c) (fun tg it O=>KN tg it) Sa Dp Sf KJ KL Sd (fun O O=>KH) m
abbrev qS (C:CW) (m:MS) (fr:aO) (K:Fl→aO→St→Prop) (E:aO→St→Prop) (σ:St):Prop:=rS m C fr K E σ
abbrev qB (C:CW) (m:MB) (fr:aO) (K:Fl→aO→St→Prop) (E:aO→St→Prop) (σ:St):Prop:=rB m C fr K E σ
end
end Mine
end
section
open PySem PySem.W PySem.Calls PyProof.Rows
namespace Mine
noncomputable section
noncomputable def dP:Pos:=⟨0,0,0,0⟩
noncomputable def dE:Expr:=.Constant .none 0 dP
structure Vw where
 t:Nat:=0
 x:Str:=⟨#[]⟩
 a:Expr:=dE
 b:Expr:=dE
 c:Expr:=dE
 es:List Expr:=[]
 os:Option Expr × Option Expr × Option Expr:=(none,none,none)
 bo:Operator:=.Add
 co:CmpOp:=.Eq
 uo:UnaryOp:=.Not
 oo:BoolOp:=.And
 p:Pos:=dP
 ks:List (Option Expr):=[]
 gs:List Comprehension:=[]
 sc:Scope:=⟨.function,[],false,false,[]⟩
 k:Const:=.none
 ar:Arguments:=⟨[],[],none,[],[],none,[]⟩
noncomputable def r5 (e:Expr) (d:α) (boo:BoolOp→List Expr→Pos→α) (bin:Expr→Operator→Expr→Pos→α) (una:UnaryOp→Expr→Pos→α) (lam:Arguments→Expr→Scope→Pos→α) (ife:Expr→Expr→Expr→Pos→α) (dic:List (Option Expr)→List Expr→Pos→α) (set:α)
  (lc:Expr→List Comprehension→Scope→Pos→α) (oc:α) (cmp:Expr→List CmpOp→List Expr→Pos→α) (call:Expr→List Expr→List Keyword→Pos→α) (con:Const→Nat→Pos→α) (PM:Expr→Str→Pos→α) (sub:Expr→Expr→Pos→α) (sta:α) (nam:Str→Pos→α) (lis:List Expr→Pos→α) (tup:List Expr→Nat→Pos→α) (sli:Option Expr→Option Expr→Option Expr→Pos→α):α:=
 Expr.casesOn (motive_1:=fun O=>α) e boo (fun O O O=>d) bin una lam ife dic (fun O O O=>set) lc (fun O O O O=>oc) (fun O O O O O=>oc) (fun O O O O=>d) (fun O O=>d) (fun O O=>d) (fun O O=>d) cmp call (fun O O O O=>d) (fun O O=>d) con PM sub (fun O O=>sta) nam lis tup sli
noncomputable def mZ (l:List α) (d:β) (f:α→β):β:=List.casesOn (motive:=fun O=>β) l d fun a r=>List.casesOn (motive:=fun O=>β) r (f a) fun O O=>d
noncomputable def vw (e:Expr):Vw:=r5 e {}
 (fun o es p=>{ t:=9,es:=es,oo:=o,p:=p}) (fun a op b p=>{ t:=6,a:=a,b:=b,bo:=op,p:=p}) (fun op a p=>{ t:=8,a:=a,uo:=op,p:=p}) (fun ar a sc p=>{ t:=16,ar:=ar,a:=a,sc:=sc,p:=p})
 (fun c a b p=>{ t:=10,a:=a,b:=b,c:=c,p:=p}) (fun ks vs p=>{ t:=13,ks:=ks,es:=vs,p:=p}) {} (fun a gs sc p=>{ t:=14,a:=a,gs:=gs,sc:=sc,p:=p}) {}
 (fun a ops bs p=>mZ ops {} fun op=>mZ bs {} fun b=>{ t:=7,a:=a,co:=op,b:=b,p:=p}) (fun f as kw p=>List.casesOn (motive:=fun O=>Vw) kw { t:=2,a:=f,es:=as,p:=p} fun O O=>{}) (fun c k p=>{ t:=15,k:=c,p:=p})
 (fun e x p=>{ t:=3,a:=e,x:=x,p:=p}) (fun a i p=>r5 i { t:=4,a:=a,b:=i,p:=p} (fun O O O=>{ t:=4,a:=a,b:=i,p:=p}) (fun O O O O=>{ t:=4,a:=a,b:=i,p:=p}) (fun O O O=>{ t:=4,a:=a,b:=i,p:=p}) (fun O O O O=>{ t:=4,a:=a,b:=i,p:=p}) (fun O O O O=>{ t:=4,a:=a,b:=i,p:=p}) (fun O O O=>{ t:=4,a:=a,b:=i,p:=p}) { t:=4,a:=a,b:=i,p:=p} (fun O O O O=>{ t:=4,a:=a,b:=i,p:=p}) { t:=4,a:=a,b:=i,p:=p} (fun O O O O=>{ t:=4,a:=a,b:=i,p:=p}) (fun O O O O=>{ t:=4,a:=a,b:=i,p:=p}) (fun O O O=>{ t:=4,a:=a,b:=i,p:=p}) (fun O O O=>{ t:=4,a:=a,b:=i,p:=p}) (fun O O O=>{ t:=4,a:=a,b:=i,p:=p}) { t:=4,a:=a,b:=i,p:=p} (fun O O=>{ t:=4,a:=a,b:=i,p:=p}) (fun O O=>{ t:=4,a:=a,b:=i,p:=p}) (fun O O O=>{ t:=4,a:=a,b:=i,p:=p}) (fun x y z q=>{ t:=5,a:=a,os:=(x,y,z),p:=p})) {} (fun x p=>{ t:=1,x:=x,p:=p})
 (fun es p=>{ t:=12,es:=es,p:=p}) (fun es k p=>{ t:=11,es:=es,p:=p}) (fun O O O O=>{})
def il (slice:Expr):Prop:=∀o i,subscripted slice false o i=operate [o,i] (getItem o i)
structure Sw where
 t:Nat:=0
 e:Expr:=dE
 i:Expr:=dE
 ts:List Expr:=[]
 a:List Stmt:=[]
 b:List Stmt:=[]
 p:Pos:=dP
 hs:List ExceptHandler:=[]
noncomputable def sw (st:Stmt):Sw:=Stmt.casesOn (motive_2:=fun O=>Sw) st (fun O O O O O O O O O O=>{}) (fun O O O O O O O O O O=>{}) (fun O O O O O O O O O O O=>{})
 (fun v p=>Option.rec (motive:=fun O=>Sw) {} (fun e=>{ t:=1,e:=e,p:=p}) v) (fun O O=>{}) (fun ts v p=>{ t:=2,ts:=ts,e:=v,p:=p}) (fun O O O O O O O=>{}) (fun O O O O=>{}) (fun O O O O O=>{})
 (fun t i a b p=>{ t:=5,i:=t,e:=i,a:=a,b:=b,p:=p}) (fun O O O O O=>{}) (fun c a b p=>{ t:=4,e:=c,a:=a,b:=b,p:=p}) (fun c a b p=>{ t:=3,e:=c,a:=a,b:=b,p:=p}) (fun O O O=>{}) (fun O O O=>{}) (fun O O O=>{})
 (fun x c p=>Option.rec (motive:=fun O=>Sw) {} (fun e=>Option.rec (motive:=fun O=>Sw) { t:=8,e:=e,p:=p} (fun O=>{}) c) x) (fun a hs b c p=>List.rec (motive:=fun O=>Sw) (List.rec (motive:=fun O=>Sw) { t:=9,a:=a,hs:=hs,p:=p} (fun O O O=>{}) c) (fun O O O=>{}) b)
 (fun O O O O O=>{}) (fun O O O=>{}) (fun O O=>{}) (fun O O O O=>{}) (fun O O=>{}) (fun O O=>{}) (fun e p=>{ t:=6,e:=e,p:=p}) (fun O=>{}) (fun O=>{}) (fun p=>{ t:=7,p:=p})
def Px (e:Expr) (v:Vw):Nat→Prop
 | 1=>e= .Name v.x v.p
 | 2=>e= .Call v.a v.es [] v.p
 | 3=>e= .Attribute v.a v.x v.p
 | 4=>e= .Subscript v.a v.b v.p∧il v.b
 | 5=>∃p,e= .Subscript v.a (.Slice v.os.1 v.os.2.1 v.os.2.2 p) v.p
 | 6=>e= .BinOp v.a v.bo v.b v.p
 | 7=>e= .Compare v.a [v.co] [v.b] v.p
 | 8=>e= .UnaryOp v.uo v.a v.p
 | 9=>e= .BoolOp v.oo v.es v.p
 | 10=>e= .IfExp v.c v.a v.b v.p
 | 11=>∃k,e= .Tuple v.es k v.p
 | 12=>e= .List v.es v.p
 | 13=>e= .Dict v.ks v.es v.p
 | 14=>e= .ListComp v.a v.gs v.sc v.p
 | 15=>∃k,e= .Constant v.k k v.p
 | _=>True
theorem OF (e:Expr):Px e (vw e) (vw e).t:=by
 cases e with
 | Name=>exact rfl
 | Call f as kw p=>cases kw with | nil=>exact rfl | cons=>exact trivial
 | Attribute=>exact rfl
 | Subscript a i p=>cases i <;> first | exact ⟨_,rfl⟩ | exact ⟨rfl,fun o i'=>rfl⟩
 | BinOp=>exact rfl
 | Compare a ops bs p=>cases ops with
  | nil=>exact trivial
  | cons o r=>cases r with
   | nil=>cases bs with
    | nil=>exact trivial
    | cons b r=>cases r with | nil=>exact rfl | cons=>exact trivial
   | cons=>exact trivial
 | UnaryOp=>exact rfl
 | BoolOp=>exact rfl
 | IfExp=>exact rfl
 | Tuple=>exact ⟨_,rfl⟩
 | List=>exact rfl
 | Dict=>exact rfl
 | ListComp=>exact rfl
 | Constant=>exact ⟨_,rfl⟩
 | _=>exact trivial
theorem bj (h:((vw e).t == n)=true):Px e (vw e) n:=beq_iff_eq.mp h▸OF e
section
variable {e:Expr} {P:Expr→Prop}
noncomputable def isName (e:Expr) (f:Str→Bool):Bool:=(vw e).t == 1 && f (vw e).x
noncomputable def isFun (e:Expr):Bool:=(vw e).t == 1 || (vw e).t == 4
theorem qw (h:isFun e=true) (k1:∀x p,P (.Name x p)) (k2:∀a i p,P (.Subscript a i p)):P e:=
 ((uk _ _).mp h).elim (fun h=>(show e=_ from bj h).symm▸k1 _ _) fun h=>(bj h).1.symm▸k2 _ _ _
noncomputable def isCall (e:Expr) (f:Expr→List Expr→Bool):Bool:=(vw e).t == 2 && (isFun (vw e).a && f (vw e).a (vw e).es)
noncomputable def mN (e:Expr) (f:Expr→Str→Bool):Bool:=(vw e).t == 3 && f (vw e).a (vw e).x
noncomputable def Cv (e:Expr) (f:Expr→Expr→Bool):Bool:=(vw e).t == 4 && f (vw e).a (vw e).b
noncomputable def sW (e:Expr) (f:Expr→Option Expr × Option Expr × Option Expr→Bool):Bool:=(vw e).t == 5 && f (vw e).a (vw e).os
noncomputable def Kh (c:Operator) (e:Expr) (f:Expr→Expr→Bool):Bool:=(vw e).t == 6 && ((vw e).bo == c && f (vw e).a (vw e).b)
noncomputable def vB (e:Expr):Bool:=r5 e false (fun O O O=>false) (fun O O O O=>false) (fun O O O=>false) (fun O O O O=>false) (fun O O O O=>false) (fun O O O=>false) true (fun O O O O=>false) false (fun O O O O=>false) (fun O O O O=>false) (fun O O O=>false) (fun O O O=>false) (fun O O O=>false) false (fun O O=>false) (fun O O=>false) (fun O O O=>false) (fun O O O O=>false)
noncomputable def qv (c:CmpOp) (e:Expr) (f:Expr→Expr→Bool):Bool:=(vw e).t == 7 && ((vw e).co == c && (!vB (vw e).b && f (vw e).a (vw e).b))
noncomputable def xH (o:UnaryOp) (e:Expr) (f:Expr→Bool):Bool:=(vw e).t == 8 && ((vw e).uo == o && f (vw e).a)
noncomputable def m5 (o:BoolOp) (b:Expr) (r:List Expr) (p:Pos):Expr:=if r.isEmpty then b else .BoolOp o (b::r) p
noncomputable def tV (l:List α) (d:β) (f:α→α→List α→β):β:=List.casesOn (motive:=fun O=>β) l d fun a r=>List.casesOn (motive:=fun O=>β) r d fun b r=>f a b r
noncomputable def Cg (o:BoolOp) (e:Expr) (f:Expr→Expr→Bool):Bool:=(vw e).t == 9 && ((vw e).oo == o && tV (vw e).es false fun a b r=>f a (m5 o b r (vw e).p))
noncomputable def isIf (e:Expr) (f:Expr→Expr→Expr→Bool):Bool:=(vw e).t == 10 && f (vw e).c (vw e).a (vw e).b
noncomputable def isTup (e:Expr) (f:List Expr→Bool):Bool:=(vw e).t == 11 && f (vw e).es
noncomputable def Cn (e:Expr) (f:List Expr→Bool):Bool:=(vw e).t == 12 && f (vw e).es
noncomputable def Ki (e:Expr) (f:List (Option Expr)→List Expr→Bool):Bool:=(vw e).t == 13 && f (vw e).ks (vw e).es
noncomputable def fW (e:Expr) (c:Const):Bool:=(vw e).t == 15 && (vw e).k == c
@[elab_as_elim] theorem bB (h:isName e f=true) (k:∀x p,f x=true→P (.Name x p)):P e:=(show e=_ from bj (ae h)).symm▸k _ _ (aa h)
@[elab_as_elim] theorem jl (h:isCall e f=true) (k:∀a as p,isFun a=true→f a as=true→P (.Call a as [] p)):P e:=
 (show e=_ from bj (ae h)).symm▸k _ _ _ (ae (aa h)) (aa (aa h))
@[elab_as_elim] theorem jk (h:mN e f=true) (k:∀a x p,f a x=true→P (.Attribute a x p)):P e:=(show e=_ from bj (ae h)).symm▸k _ _ _ (aa h)
@[elab_as_elim] theorem qA (h:Cv e f=true) (k:∀a i p,il i→f a i=true→P (.Subscript a i p)):P e:=(bj (ae h)).1.symm▸k _ _ _ (bj (ae h)).2 (aa h)
@[elab_as_elim] theorem lL (h:sW e f=true) (k:∀a x y z p q,f a (x,y,z)=true→P (.Subscript a (.Slice x y z p) q)):P e:=bQ (bj (ae h)) fun p q=>q.symm▸k _ _ _ _ p _ (aa h)
@[elab_as_elim] theorem Hl (h:Kh c e f=true) (k:∀a b p,f a b=true→P (.BinOp a c b p)):P e:=
 (show e=_ from bj (ae h)).symm▸(eq_of_beq (ae (aa h))).symm▸k _ _ _ (aa (aa h))
theorem Cu (h:vB b=false):behindInMarks op b=false:=by
 cases b <;> first | rfl | cases h
@[elab_as_elim] theorem mO (h:qv c e f=true) (k:∀a b p,behindInMarks c b=false→f a b=true→P (.Compare a [c] [b] p)):P e:=
 (show e=_ from bj (ae h)).symm▸(eq_of_beq (ae (aa h))).symm▸k _ _ _ (Cu ((Fj _).mp (ae (aa (aa h))))) (aa (aa (aa h)))
@[elab_as_elim] theorem lM (h:xH o e f=true) (k:∀a p,f a=true→P (.UnaryOp o a p)):P e:=
 (show e=_ from bj (ae h)).symm▸(eq_of_beq (ae (aa h))).symm▸k _ _ (aa (aa h))
theorem iK {α:Type} {l:List α} {f:α→α→List α→Bool} {P:List α→Prop} (h:tV l false f=true) (k:∀a b r,f a b r=true→P (a::b::r)):P l:=by
 cases l with
 | nil=>cases h
 | cons a r=>cases r with
  | nil=>cases h
  | cons b r=>exact k a b r h
@[elab_as_elim] theorem lK {o:BoolOp} {f:Expr→Expr→Bool} (h:Cg o e f=true) (k:∀a b r p,f a (m5 o b r p)=true→P (.BoolOp o (a::b::r) p)):P e:=
 (show e=_ from bj (ae h)).symm▸(eq_of_beq (ae (aa h))).symm▸iK (P:=fun l=>P (.BoolOp o l (vw e).p)) (aa (aa h)) fun a b r=>k a b r _
@[elab_as_elim] theorem M0 (h:isIf e f=true) (k:∀c a b p,f c a b=true→P (.IfExp c a b p)):P e:=(show e=_ from bj (ae h)).symm▸k _ _ _ _ (aa h)
@[elab_as_elim] theorem fM (h:isTup e f=true) (k:∀es n p,f es=true→P (.Tuple es n p)):P e:=bQ (bj (ae h)) fun n q=>q.symm▸k _ n _ (aa h)
@[elab_as_elim] theorem xD (h:Cn e f=true) (k:∀es p,f es=true→P (.List es p)):P e:=(show e=_ from bj (ae h)).symm▸k _ _ (aa h)
@[elab_as_elim] theorem Hn (h:Ki e f=true) (k:∀ks es p,f ks es=true→P (.Dict ks es p)):P e:=(show e=_ from bj (ae h)).symm▸k _ _ _ (aa h)
@[elab_as_elim] theorem dn (h:fW e c=true) (k:∀n p,P (.Constant c n p)):P e:=bQ (bj (ae h)) fun n q=>q.symm▸(show (vw e).k=c from eq_of_beq (aa h)).symm▸k n _
end
end
structure Ga where
 p:Pl
 o:List Addr
 fz:List (Addr × Obj)
noncomputable def tabs:List Addr:=[471,504]
noncomputable def Ga.fp (γ:Ga):List Addr:=γ.p.map (·.2)++(γ.o++tabs)
structure Ga.Le (γ aj:Ga):Prop where
 p:Pl.Le γ.p aj.p
 o:∀(i:Nat) (a:Addr),γ.o[i]?=some a→aj.o[i]?=some a
 fz:∀x∈γ.fz,x∈aj.fz
theorem Ga.Le.refl (γ:Ga):γ.Le γ:=⟨Pl.Le.refl _,fun O O h=>h,fun O h=>h⟩
theorem Ga.Le.trans {a b c:Ga} (x:a.Le b) (y:b.Le c):a.Le c:=⟨x.p.trans y.p,fun i q h=>y.o i q (x.o i q h),fun q h=>y.fz q (x.fz q h)⟩
def gb (γ:Ga) (g:GH) (aj:Ga) (g':GH):Prop:=∀b o,b∉γ.fp→g b=some o→b∉aj.fp∧g' b=some o
theorem gb.refl (γ:Ga) (g:GH):gb γ g γ g:=fun b o n h=>⟨n,h⟩
theorem gb.trans (x:gb a g b g') (y:gb b g' c uP):gb a g c uP:=fun d o n h=>let ⟨u,v⟩:=x d o n h;y d o u v
theorem gb.of_le (l:GH.le g g'):gb γ g γ g':=fun b o n h=>⟨n,l b o h⟩
theorem gb.Dx (l:Off I g g') (hm:I∈γ.fp):gb γ g γ g':=fun b o n h=>⟨n,l b o (fun e=>n (e▸hm)) h⟩
def OU (a:AV) (o:Obj):Prop:=match a with
 | .nil=>∃t k,o=dz [.str (sT 2) t] k
 | .num n=>∃t u k,o=dz [.str (sT 1) t,.int n u] k
 | .cell i=>∃t u k,o=dz [.str (sT 0) t,.int i u] k
structure iV where
 qual:Str
 params:Arguments
 body:Expr
 scope:Scope
 pos:Pos
def eW (γ:Ga) (a:Addr) (D:iV) (caps:List (Str × Value)):Prop:=∃cl pm c' xl oc vs t,(a,kla_obj "<lambda>" D.qual D.params D.body D.scope cl pm c' xl)∈γ.fz∧(c',oc)∈γ.fz∧oc.data= .fields vs∧vs[1]?=some (.str D.qual t) ∧
 ∀p∈caps,∃ca o,cl.lookup p.1=some ca∧(ca,o)∈γ.fz∧o.data= .cell (some p.2)
noncomputable def Xc (v:Vw) (q:Str):iV:=⟨q,v.ar,v.a,v.sc,v.p⟩
noncomputable def RD (l:List Stmt) (q:Str):iV:=Xc (vw ((vw (sw (l.headD (.Pass dP))).e).es.getD 1 dE)) q
noncomputable def jL (w:World):iV:=RD (eA w).body "rest_from.<locals>.<lambda>"
noncomputable def jM (w:World):iV:=RD (dv w).body "pair_with.<locals>.<lambda>"
def aq (w:World) (γ:Ga) (v:Value) (V:V):Prop:=match V with
 | .av a=>VR γ.p v a
 | .lv a=>∃t o,v= .ref t∧(t,o)∈γ.fz∧OU a o
 | .none=>v= .none
 | .bool b=>v= .bool b
 | .str k=>∃t,v= .str (sT k) t∧k<30
 | .fn a=>v= .ref a∧keepIn (KK w) (.ref a)=true
 | .ob i=>∃a,v= .ref a∧γ.o[i]?=some a
 | .tk i=>∃d x,v= .ref x∧γ.o[i]?=some d∧(x,instObj 369 d)∈γ.fz
 | .ll x f=>∃a u,v= .ref a∧eW γ a (jL w) [("is_same",.ref f),("thing",u)]∧VR γ.p u x∧keepIn (KK w) (.ref f)=true
 | .lq x f b=>∃a u,v= .ref a∧eW γ a (jM w) [("is_same",.ref f),("key",u),("is_by_cdr",.bool b)]∧VR γ.p u x∧keepIn (KK w) (.ref f)=true
 | .sc ns=>∃a o xs n,v= .ref a∧(a,o)∈γ.fz∧o.cls= .type "list"∧o.data= .seq (List.toArray xs) n∧IntsAre xs ns
section
variable {w:World} {γ:Ga}
theorem aq.av {v a} (h:VR γ.p v a):aq w γ v (.av a):=h
theorem aq.lv {t o a} (h:(t,o)∈γ.fz) (k:OU a o):aq w γ (.ref t) (.lv a):=⟨_,_,rfl,h,k⟩
theorem aq.none:aq w γ .none .none:=rfl
theorem aq.bool {b}:aq w γ (.bool b) (.bool b):=rfl
theorem aq.str {k t} (h:k<30):aq w γ (.str (sT k) t) (.str k):=⟨_,rfl,h⟩
theorem aq.fn {a} (h:keepIn (KK w) (.ref a)=true):aq w γ (.ref a) (.fn a):=⟨rfl,h⟩
theorem aq.ob {a} (h:γ.o[i]?=some a):aq w γ (.ref a) (.ob i):=⟨_,rfl,h⟩
theorem aq.tk {d x} (h:γ.o[i]?=some d) (k:(x,instObj 369 d)∈γ.fz):aq w γ (.ref x) (.tk i):=⟨_,_,rfl,h,k⟩
theorem aq.ll {a x v f} (h:eW γ a (jL w) [("is_same",.ref f),("thing",v)]) (k:VR γ.p v x) (m:keepIn (KK w) (.ref f)=true):aq w γ (.ref a) (.ll x f):=⟨_,_,rfl,h,k,m⟩
theorem aq.lq {a x v f b} (h:eW γ a (jM w) [("is_same",.ref f),("key",v),("is_by_cdr",.bool b)]) (k:VR γ.p v x) (m:keepIn (KK w) (.ref f)=true):aq w γ (.ref a) (.lq x f b):=⟨_,_,rfl,h,k,m⟩
theorem aq.sc {a o xs n ns} (h:(a,o)∈γ.fz) (h1:o.cls= .type "list") (h2:o.data= .seq (List.toArray xs) n) (h3:IntsAre xs ns):aq w γ (.ref a) (.sc ns):=⟨_,_,_,_,rfl,h,h1,h2,h3⟩
end
inductive ao (w:World) (γ:Ga):List Value→List V→Prop
 | nil:ao w γ [] []
 | cons {v a vs as}:aq w γ v a→ao w γ vs as→ao w γ (v::vs) (a::as)
theorem eW.up {a D caps} (h:eW γ a D caps) (l:γ.Le aj):eW aj a D caps:=
 h.imp fun cl=>cD fun pm=>cD fun c'=>cD fun xl=>cD fun oc=>cD fun vs=>cD fun t h=>⟨l.fz _ h.1,l.fz _ h.2.1,h.2.2.1,h.2.2.2.1,fun p hp=>(h.2.2.2.2 p hp).imp fun ca=>cD fun o h=>⟨h.1,l.fz _ h.2.1,h.2.2⟩⟩
theorem aq.up {v V} (h:aq w γ v V) (l:γ.Le aj):aq w aj v V:=by
 induction V with
 | av=>exact VR.up h l.p
 | lv=>exact cD (fun t=>cD fun o h=>⟨h.1,l.fz _ h.2.1,h.2.2⟩) h
 | ob=>exact cD (fun a h=>⟨h.1,l.o _ _ h.2⟩) h
 | tk=>exact cD (fun t=>cD fun o h=>⟨h.1,l.o _ _ h.2.1,l.fz _ h.2.2⟩) h
 | ll=>exact cD (fun a=>cD fun u h=>⟨h.1,h.2.1.up l,h.2.2.1.up l.p,h.2.2.2⟩) h
 | lq=>exact cD (fun a=>cD fun u h=>⟨h.1,h.2.1.up l,h.2.2.1.up l.p,h.2.2.2⟩) h
 | sc=>exact cD (fun a=>cD fun o=>cD fun xs=>cD fun n h=>⟨h.1,l.fz _ h.2.1,h.2.2⟩) h
 | _=>exact h
theorem ao.up {v V} (h:ao w γ v V) (l:γ.Le aj):ao w aj v V:=by
 induction h with
 | nil=>exact .nil
 | cons h _ ih=>exact .cons (h.up l) ih
theorem ao.length {w γ vs as} (h:ao w γ vs as):vs.length=as.length:=by induction h <;> simp_all
theorem ao.append {w γ vs as us bs} (h:ao w γ vs as) (k:ao w γ us bs):ao w γ (vs++us) (as++bs):=by
 induction h with
 | nil=>exact k
 | cons a _ ih=>exact .cons a ih
theorem ao.snoc {w γ vs as v a} (h:ao w γ vs as) (k:aq w γ v a):ao w γ (vs++[v]) (as++[a]):=h.append (.cons k .nil)
theorem ao.get {w γ vs as} (h:ao w γ vs as):∀ {i:Nat} {a:V},as[i]?=some a→∃v,vs[i]?=some v∧aq w γ v a:=by
 induction h with
 | nil=>intro i a e;simp at e
 | cons hv _ ih=>
  intro i b e
  induction i with
  | zero=>simp at e;subst e;exact ⟨_,rfl,hv⟩
  | succ i=>simp at e;obtain ⟨v,h1,h2⟩:=ih e;exact ⟨v,h1,h2⟩
theorem ao.take {w γ vs as} (h:ao w γ vs as):∀k,ao w γ (vs.take k) (as.take k):=by
 induction h with
 | nil=>intro k;simpa using ao.nil
 | cons hv _ ih=>intro k;induction k with
  | zero=>exact .nil
  | succ k=>exact .cons hv (ih k)
theorem ao.drop {w γ vs as} (h:ao w γ vs as):∀k,ao w γ (vs.drop k) (as.drop k):=by
 induction h with
 | nil=>intro k;simpa using ao.nil
 | cons hv h ih=>intro k;induction k with
  | zero=>exact .cons hv h
  | succ k=>simpa using ih k
theorem ao.rev {w γ vs as} (h:ao w γ vs as):ao w γ vs.reverse as.reverse:=by
 induction h with
 | nil=>exact .nil
 | cons hv _ ih=>rw [j0,j0];exact ih.snoc hv
theorem ao.split {w γ as bs}:∀ {vs},ao w γ vs (as++bs)→∃us ws,vs=us++ws∧ao w γ us as∧ao w γ ws bs:=by
 induction as with
 | nil=>intro vs h;exact ⟨[],vs,rfl,.nil,h⟩
 | cons a as ih=>intro vs h;cases h with
  | cons h1 h2=>obtain ⟨us,ws,rfl,h3,h4⟩:=ih h2;exact ⟨_::us,ws,rfl,.cons h1 h3,h4⟩
theorem ao.set {w γ vs as v a} (h:ao w γ vs as) (k:aq w γ v a):∀n,ao w γ (vs.set n v) (as.set n a):=by
 induction h with
 | nil=>intro n;exact .nil
 | cons hv h ih=>intro n;induction n with
  | zero=>exact .cons k h
  | succ n=>exact .cons hv (ih n)
inductive DR {K:Type} (w:World) (γ:Ga):List (K × Value)→List (K × V)→Prop
 | nil:DR w γ [] []
 | cons {k v a r s}:aq w γ v a→DR w γ r s→DR w γ ((k,v)::r) ((k,a)::s)
theorem DR.up {s} (h:DR w γ r s) (l:γ.Le aj):DR w aj r s:=by
 induction h with
 | nil=>exact .nil
 | cons h _ ih=>exact .cons (h.up l) ih
theorem DR.keys {K:Type} {w:World} {γ:Ga} {r:List (K × Value)} {s} (h:DR w γ r s):r.map (·.1)=s.map (·.1):=by
 induction h with
 | nil=>rfl
 | cons _ _ ih=>simp [ih]
theorem DR.len {s} (h:DR w γ r s):r.length=s.length:=by
 induction h with
 | nil=>rfl
 | cons _ _ ih=>simp [ih]
theorem DR.vals {K:Type} {w:World} {γ:Ga} {r:List (K × Value)} {s} (h:DR w γ r s):ao w γ (r.map (·.2)) (s.map (·.2)):=by
 induction h with
 | nil=>exact .nil
 | cons h _ ih=>exact .cons h ih
theorem DR.append {s s'} (h:DR w γ r s) (k:DR w γ r' s'):DR w γ (r++r') (s++s'):=by
 induction h with
 | nil=>exact k
 | cons h _ ih=>exact .cons h ih
noncomputable def oi (kvs:List (Nat × Value)):List (Str × Value):=kvs.map fun p=>(sT p.1,p.2)
structure Ad where
 (a b c d e f dp tn:Tok)
noncomputable def F8 (P:Params) (l r sl sr:Value) (dp tn:Int) (t:Ad):Obj:=dictOf
 [⟨PyData.keyHash P "left",.str "left" t.a,l⟩,⟨PyData.keyHash P "right",.str "right" t.b,r⟩,⟨PyData.keyHash P "deep",.str "deep" t.c,.int dp t.dp⟩,⟨PyData.keyHash P "turn",.str "turn" t.d,.int tn t.tn⟩,
  ⟨PyData.keyHash P "slow_left",.str "slow_left" t.e,sl⟩,⟨PyData.keyHash P "slow_right",.str "slow_right" t.f,sr⟩] 6
def OR (aab:Program) (w:World) (γ:Ga) (b:Ob) (o:Obj):Prop:=match b with
 | .lst l=>∃xs n,o=listOf xs.toArray n∧ao w γ xs l
 | .tup l=>∃xs n,o=dz xs n∧ao w γ xs l
 | .dS l=>∃kvs,o.IsDictOf (strKind aab w) (oi kvs)∧(∀p∈l,p.1<30)∧DR w γ kvs l
 | .dI l=>∃kvs,o.IsDictOf (intKind aab w) kvs∧DR w γ kvs l
 | .task tk=>∃l r sl sr t,o=F8 w.params l r sl sr tk.deep tk.turn t∧VR γ.p l tk.left∧VR γ.p r tk.right∧VR γ.p sl tk.sl∧VR γ.p sr tk.sr
section
variable {aab:Program} {w:World} {γ:Ga}
theorem OR.lst {l xs n} (h:ao w γ xs l):OR aab w γ (.lst l) (listOf xs.toArray n):=⟨_,_,rfl,h⟩
theorem OR.tup {l xs n} (h:ao w γ xs l):OR aab w γ (.tup l) (dz xs n):=⟨_,_,rfl,h⟩
theorem OR.dS {l kvs o} (h:o.IsDictOf (strKind aab w) (oi kvs)) (k:∀p∈l,p.1<30) (m:DR w γ kvs l):OR aab w γ (.dS l) o:=⟨_,h,k,m⟩
theorem OR.dI {l kvs o} (h:o.IsDictOf (intKind aab w) kvs) (m:DR w γ kvs l):OR aab w γ (.dI l) o:=⟨_,h,m⟩
theorem OR.task {l r sl sr t} (a:VR γ.p l tk.left) (b:VR γ.p r tk.right) (c:VR γ.p sl tk.sl) (d:VR γ.p sr tk.sr):OR aab w γ (.task tk) (F8 w.params l r sl sr tk.deep tk.turn t):=⟨_,_,_,_,_,rfl,a,b,c,d⟩
theorem OR.up {ob o} (h:OR aab w γ ob o) (l:γ.Le aj):OR aab w aj ob o:=by
 induction ob with
 | lst=>exact cD (fun xs=>cD fun n h=>⟨h.1,h.2.up l⟩) h
 | tup=>exact cD (fun xs=>cD fun n h=>⟨h.1,h.2.up l⟩) h
 | dS=>exact cD (fun k h=>⟨h.1,h.2.1,h.2.2.up l⟩) h
 | dI=>exact cD (fun k h=>⟨h.1,h.2.up l⟩) h
 | task=>exact cD (fun a=>cD fun b=>cD fun c=>cD fun d=>cD fun t h=>⟨h.1,h.2.1.up l.p,h.2.2.1.up l.p,h.2.2.2.1.up l.p,h.2.2.2.2.up l.p⟩) h
theorem OR.cls {ob o} (h:OR aab w γ ob o):o.cls= .type "list"∨o.cls= .type "tuple"∨o.cls= .type "dict":=by
 induction ob with
 | lst=>exact h.elim fun O h=>h.elim fun O h=>.inl (h.1▸rfl)
 | tup=>exact h.elim fun O h=>h.elim fun O h=>.inr (.inl (h.1▸rfl))
 | dS=>exact h.elim fun O h=>h.1.elim fun O h=>h.elim fun O h=>.inr (.inr h.1.1)
 | dI=>exact h.elim fun O h=>h.1.elim fun O h=>h.elim fun O h=>.inr (.inr h.1.1)
 | task=>exact h.elim fun O h=>h.elim fun O h=>h.elim fun O h=>h.elim fun O h=>h.elim fun O h=>.inr (.inr (h.1▸rfl))
end
noncomputable def IC:List String:=["list_iterator", "tuple_iterator", "range_iterator", "zip", "slice", "dict_valueiterator", "dict_values", "range"]
def wO (o:Obj):Prop:=(∃t,o.cls= .type t∧t∈IC)∧∃f,o.data= .fields f
def kH (γ:Ga) (g:GH) (P:Addr) (D:iV):Prop:=∃ps,g P=some (tabObj ps)∧TriplesOk ps.toList ∧
 (codeAmong D.pos ps.toList=none∨∃c' oc vs t,codeAmong D.pos ps.toList=some (.ref c')∧(c',oc)∈γ.fz∧oc.data= .fields vs∧vs[1]?=some (.str D.qual t))
theorem kH.up {P D} (h:kH γ g P D) (l:γ.Le aj) (e:∀o,g P=some o→g' P=some o):kH aj g' P D:=
 h.imp fun ps h=>⟨e _ h.1,h.2.1,h.2.2.imp id fun h=>h.imp fun c'=>cD fun oc=>cD fun vs=>cD fun t h=>⟨h.1,l.fz _ h.2.1,h.2.2⟩⟩
structure HP (aab:Program) (w:World) (hT:Heap) (γ:Ga) (σ:St) (g:GH):Prop where
 cs:CS hT w.params g γ.p σ.cells
 len:γ.o.length=σ.objs.length
 obj:∀(i:Nat) (a:Addr) (ob:Ob),γ.o[i]?=some a→σ.objs[i]?=some ob→∃c,g a=some c∧OR aab w γ ob c
 new:∀a∈γ.o,hT.get? a=none∧(a == sysModules)=false
 fz:∀x∈γ.fz,g x.1=some x.2∧x.1∉γ.fp∧¬ wO x.2
 nd:γ.fp.Nodup
 tb:kH γ g 471 (jL w)∧kH γ g 504 (jM w)
 tn:hT.get? 471=none∧hT.get? 504=none
def kh (γ:Ga) (g:GH) (aj:Ga):Prop:=∀ca,ca∉γ.fp→g ca≠none→(∀q∈γ.fz,q.1≠ca)→∀q∈aj.fz,q.1≠ca
theorem kh.refl (γ:Ga) (g:GH):kh γ g γ:=fun O O O h=>h
theorem kh.trans (x:kh γ g aj) (t:gb γ g aj g') (y:kh aj g' uM):kh γ g uM:=fun ca n e h=>
 (Option.ne_none_iff_exists'.mp e).elim fun o q=>have t':=t ca o n q;y ca t'.1 (fun z=>fg t'.2 z) (x ca n e h)
structure Go (hT:Heap) (l:List Env) (γ:Ga) (g:GH) (s:Shared) (aj:Ga) (g':GH) (s':Shared):Prop where
 at_:At hT l g' s'.heap
 bk:Bk l s s'
 le:γ.Le aj
 tr:gb γ g aj g'
 fk:kh γ g aj
section
variable {aab:Program} {w:World} {hT:Heap} {l:List Env} {γ aj uM:Ga} {g g' uP:GH} {s s' vQ:Shared} {σ:St} {a:Addr} {h h':Heap}
theorem Go.refl (S:At hT l g s.heap):Go hT l γ g s γ g s:=⟨S,Bk.refl _ _,Ga.Le.refl _,gb.refl _ _,kh.refl _ _⟩
theorem Go.trans (x:Go hT l γ g s aj g' s') (y:Go hT l aj g' s' uM uP vQ):Go hT l γ g s uM uP vQ:=⟨y.at_,x.bk.trans y.bk,x.le.trans y.le,x.tr.trans y.tr,x.fk.trans x.tr y.fk⟩
theorem Go.toks (S:At hT l g s.heap) (t:Nat):Go hT l γ g s γ g {s with toks:=t}:=⟨S,⟨Kp.refl _ _,⟨rfl,rfl,rfl⟩⟩,Ga.Le.refl _,gb.refl _ _,kh.refl _ _⟩
theorem At.keeps (S:At hT l g h) (k:∀b o,h.get? b=some o→h'.get? b=some o):At hT l g h':=⟨S.base,fun b o e=>k b o (S.a5 b o e),S.jx,aS (Kp.of_keeps k) S.cO⟩
theorem Go.keeps (S:At hT l g s.heap) (k:∀b o,s.heap.get? b=some o→h'.get? b=some o):Go hT l γ g s γ g {s with heap:=h',toks:=t}:=
 ⟨S.keeps k,⟨Kp.of_keeps k,⟨rfl,rfl,rfl⟩⟩,Ga.Le.refl _,gb.refl _ _,kh.refl _ _⟩
theorem At.og (S:At hT l g h) (e:g a=none):hT.get? a=none:=none_of fun o q=>fg (S.base _ _ q) e
theorem GH.B9 (e:g.hide x b=some y):b≠x∧g b=some y:=
 if q:b=x then (fg e (bE q)).elim else ⟨q,(aW q).symm.trans e⟩
theorem At.out (S:At hT l g h) (hx:g x=some o) (hn:hT.get? x=none) (hs:Heap.ExtBut x h h'):At hT l (g.hide x) h'∧Kp l h h':=
 have kp:Kp l h h':=fun b hm o e=>⟨o.slots,hs b o (S.o6 hx b hm) e⟩
 ⟨⟨fun b o e=>Off.hide g x b o (fun q=>fg e (q▸hn)) (S.base _ _ e),fun b o e=>hs b o (GH.B9 e).1 (S.a5 _ _ (GH.B9 e).2),fun b hm=>(aW (S.o6 hx b hm)).trans (S.jx b hm),aS kp S.cO⟩,kp⟩
theorem HP.Vk (H:HP aab w hT γ σ g) (k:∀b o,g b=some o→(b∈γ.fp∨(∃q∈γ.p,b=q.1)∨∃x∈γ.fz,b=x.1)→g' b=some o):HP aab w hT γ σ g':=by
 have m2:∀ {i:Nat} {q:Addr × Addr},γ.p[i]?=some q→q.2∈γ.fp:=fun hp=>dF _ (dC.mpr ⟨_,bL hp,rfl⟩)
 refine ⟨⟨H.cs.len,H.cs.nd,H.cs.Ny,H.cs.new,fun i q ab hp hc=> ?_⟩,H.len,fun i a ob ha hb=> ?_,H.new,fun x hx=> ?_,H.nd,⟨H.tb.1.up (Ga.Le.refl _) fun o e=>k _ _ e (.inl ?_),H.tb.2.up (Ga.Le.refl _) fun o e=>k _ _ e (.inl ?_)⟩,H.tn⟩
 ·refine lR (H.cs.at_ i q ab hp hc) fun a x y t u b r=> ?_
  exact ⟨k _ _ a (.inr (.inl ⟨q,bL hp,rfl⟩)),x,y,t,u,k _ _ b (.inl (m2 hp)),r⟩
 ·refine bc (H.obj i a ob ha hb) fun c e r=> ?_
  exact ⟨c,k _ _ e (.inl (cB _ (dF _ (bL ha)))),r⟩
 ·refine wg (H.fz x hx) fun a b c=> ?_
  exact ⟨k _ _ a (.inr (.inr ⟨x,hx,rfl⟩)),b,c⟩
 ·exact cB _ (cB _ (by simp [tabs]))
 ·exact cB _ (cB _ (by simp [tabs]))
theorem HP.mono (H:HP aab w hT γ σ g) (k:GH.le g g'):HP aab w hT γ σ g':=H.Vk fun b o e O=>k b o e
theorem HP.inst (H:HP aab w hT γ σ g) (hq:q∈γ.p):g q.1=some (instObj 82 q.2):=
 (uH.mp hq).elim fun i hi=>(H.cs.has hi).elim fun ab hc=>(H.cs.at_ i q ab hi hc).1
theorem D3 (h:wO (instObj a d)):False:=h.1.elim fun t h=>nomatch h.1
theorem HP.off (H:HP aab w hT γ σ g) (hI:g I=some o) (hs:wO o) (hf:I∉γ.fp) (k:Off I g g'):HP aab w hT γ σ g':=
 H.Vk fun b x e hb=>k b x (fun q:b=I=>hb.elim (fun hb=>hf (q▸hb)) fun hb=>hb.elim (fun hb=>hb.elim fun z h=>D3 (cH (hI.symm.trans ((h.2.symm.trans q:z.1=I)▸H.inst h.1))▸hs))
  fun hb=>hb.elim fun y h=>(H.fz y h.1).2.2 (cH (hI.symm.trans ((h.2.symm.trans q:y.1=I)▸(H.fz y h.1).1))▸hs)) e
theorem HP.seen (H:HP aab w hT γ σ g):∀b∈γ.fp,∃o,g b=some o:=fun b hb=>(cU.mp hb).elim
 (fun hb=>bc (dC.mp hb) fun q hq e=>(uH.mp hq).elim fun i hi=>(H.cs.has hi).elim fun ab hc=>lR (H.cs.at_ i q ab hi hc) fun O x y t u e' O=>⟨_,e▸e'⟩)
 fun hb=>(cU.mp hb).elim (fun hb=>(uH.mp hb).elim fun i hi=>(H.obj i b _ hi (gm (H.len▸(bl.mp hi).1))).imp fun c h=>h.1)
  fun hb=>(cF.mp hb).elim (fun e=>H.tb.1.elim fun ps h=>⟨_,e▸h.1⟩) fun hb=>H.tb.2.elim fun ps h=>⟨_,dX.mp hb▸h.1⟩
theorem HP.fresh (H:HP aab w hT γ σ g) (e:g a=none):a∉γ.fp:=fun hm=>(H.seen a hm).elim fun o q=>fg q e
noncomputable def Ga.cw (γ:Ga) (a:Addr):Ga:={γ with o:=γ.o++[a]}
noncomputable def Ga.nN (γ:Ga) (a:Addr) (o:Obj):Ga:={γ with fz:=(a,o)::γ.fz}
theorem Ga.bf (γ:Ga) (a:Addr):γ.Le (γ.cw a):=⟨Pl.Le.refl _,fun i b h=>by
 show (γ.o++[a])[i]?=some b
 rw [ow (bl.mp h).1];exact h,fun O h=>h⟩
theorem Ga.gV (γ:Ga) (a:Addr) (o:Obj):γ.Le (γ.nN a o):=⟨Pl.Le.refl _,fun O O h=>h,fun O h=>.tail _ h⟩
theorem Ga.eG:b∈(γ.cw a).fp↔b∈γ.fp∨b=a:=
 ⟨fun h=>(cU.mp h).elim (fun h=>.inl (dF _ h)) fun h=>(cU.mp h).elim (fun h=>(cU.mp h).elim (fun h=>.inl (cB _ (dF _ h))) fun h=>.inr (dX.mp h)) fun h=>.inl (cB _ (cB _ h)),
  fun h=>h.elim (fun h=>(cU.mp h).elim (dF _) fun h=>cB _ ((cU.mp h).elim (fun h=>dF _ (dF _ h)) (cB _))) fun e=>e▸cB _ (dF _ (cB _ (.head _)))⟩
theorem Ga.xZ (nd:γ.fp.Nodup) (nf:a∉γ.fp):(γ.cw a).fp.Nodup:=by
 show (γ.p.map (·.2)++((γ.o++[a])++tabs)).Nodup
 rw [fA]
 exact ((List.perm_middle.append_left _).trans List.perm_middle).nodup_iff.mpr (bV.mpr ⟨nf,nd⟩)
theorem HP.AD (H:HP aab w hT γ σ g):(γ.cw a).o.length=(σ.objs++[ob]).length:=(bK (as:=γ.o) (bs:=[a])).trans ((aD (· +1) H.len).trans (bK (as:=σ.objs) (bs:=[ob])).symm)
theorem HP.cw (H:HP aab w hT γ σ g) (n:g a=none) (O7:hT.get? a=none∧(a == sysModules)=false) (h:OR aab w (γ.cw a) ob o):HP aab w hT (γ.cw a) {σ with objs:=σ.objs++[ob]} (g.set a o):=
 have l:=γ.bf a
 have k:=GH.bS (g:=g) o n
 ⟨H.cs.mono k,H.AD,fun i b NC hb hc=>(Em H.len hb hc).elim (fun q=>(H.obj i b NC q.1 q.2).imp fun c h=>⟨k _ _ h.1,h.2.up l⟩) fun q=>⟨o,q.1▸GH.set_same _ _ _,q.2▸h⟩,fun b hb=>(cU.mp hb).elim (H.new b) fun q=>dX.mp q▸O7,
  fun x hx=>have f:=H.fz x hx;⟨k _ _ f.1,fun q=>(Ga.eG.mp q).elim f.2.1 fun q:x.1=a=>fg f.1 (q▸n),f.2.2⟩,Ga.xZ H.nd (H.fresh n),⟨H.tb.1.up l fun o e=>k _ _ e,H.tb.2.up l fun o e=>k _ _ e⟩,H.tn⟩
theorem HP.nN (H:HP aab w hT γ σ g) (e:g a=some o) (nf:a∉γ.fp) (hs:¬ wO o):HP aab w hT (γ.nN a o) σ g:=
 ⟨H.cs,H.len,fun i b ob hb hc=>(H.obj i b ob hb hc).imp fun c h=>⟨h.1,h.2.up (γ.gV a o)⟩,H.new,cc.mpr ⟨⟨e,nf,hs⟩,H.fz⟩,H.nd,⟨H.tb.1.up (γ.gV a o) fun O e=>e,H.tb.2.up (γ.gV a o) fun O e=>e⟩,H.tn⟩
theorem gb.cw (H:HP aab w hT γ σ g) (n:g a=none):gb γ g (γ.cw a) (g.set a o):=fun b x nb e=>⟨fun q=>(Ga.eG.mp q).elim nb fun q=>fg e (q▸n),GH.bS o n _ _ e⟩
theorem jP {l:List Addr} (h:l.Nodup) {i j:Nat} {a:Addr} (x:l[i]?=some a) (y:l[j]?=some a):i=j:=
 (bl.mp x).elim fun l1 e1=>(bl.mp y).elim fun l2 e2=>(Fh h).mp (e1.trans e2.symm)
theorem Ik (h:OR aab w γ ob (instObj 82 d)):False:=h.cls.elim (fun z=>nomatch z) fun z=>z.elim (fun z=>nomatch z) fun z=>nomatch z
theorem HP.aV (H:HP aab w hT γ σ g) {i:Nat} {o:Obj} {ob:Ob} (ha:γ.o[i]?=some a) (h:OR aab w γ ob o):HP aab w hT γ (σ.aV i ob) (g.set a o):=
 have hm:a∈γ.o:=bL ha
 have hi:i<σ.objs.length:=H.len▸(bl.mp ha).1
 have n0:=hY.mp H.nd
 have n1:=hY.mp n0.2.1
 have nt:∀b∈tabs,b≠a:=fun b hb q=>n1.2.2 a hm b hb q.symm
 ⟨⟨H.cs.len,H.cs.nd,H.cs.Ny,H.cs.new,fun j q ab hp hc=>lR (H.cs.at_ j q ab hp hc) fun a1 x y t u b1 r=>⟨(GH.au _ _ fun e:q.1=a=>(H.obj i a _ ha (gm hi)).elim fun c0 r0=>Ik (cH (r0.1.symm.trans (e▸a1))▸r0.2)).trans a1,x,y,t,u,
   (GH.au _ _ fun e=>n0.2.2 q.2 (dC.mpr ⟨q,bL hp,rfl⟩) a (dF _ hm) e).trans b1,r⟩⟩,
  H.len.trans wF.symm,fun j b NC hb hc=>if e:i=j then ⟨o,cH (ha.symm.trans (e.symm▸hb))▸GH.set_same _ _ _,cH ((px hi).symm.trans (e.symm▸hc))▸h⟩
   else (H.obj j b NC hb ((uI e).symm.trans hc)).imp fun c r=>⟨(GH.au _ _ fun q:b=a=>e (jP n1.1 ha (q▸hb))).trans r.1,r.2⟩,
  H.new,fun x hx=>have f:=H.fz x hx;⟨(GH.au _ _ fun q:x.1=a=>f.2.1 (cB _ (dF _ (q▸hm)))).trans f.1,f.2⟩,H.nd,
  ⟨H.tb.1.up (Ga.Le.refl _) fun o e=>(GH.au _ _ (nt _ (.head _))).trans e,H.tb.2.up (Ga.Le.refl _) fun o e=>(GH.au _ _ (nt _ (.tail _ (.head _)))).trans e⟩,H.tn⟩
theorem HP.Dl {i:Nat} (ha:γ.o[i]?=some a):a∈γ.fp:=cB _ (dF _ (bL ha))
theorem HP.setC (H:HP aab w hT γ σ g) {i:Nat} {q:Addr × Addr} {a b:AV} {x y:Value} {t u:Tok} (hq:γ.p[i]?=some q) (hx:VR γ.p x a) (hy:VR γ.p y b):HP aab w hT γ (σ.setC i (a,b)) (g.set q.2 (a7 w.params x y t u)):=
 have Ra:q.2∈γ.p.map (·.2):=dC.mpr ⟨q,bL hq,rfl⟩
 have no:∀b∈γ.o++tabs,b≠q.2:=fun b hb e=>(hY.mp H.nd).2.2 q.2 Ra b hb e.symm
 ⟨H.cs.turn hq hx hy,H.len,fun j b NC hb hc=>(H.obj j b NC hb hc).imp fun c r=>⟨(GH.au _ _ (no b (dF _ (bL hb)))).trans r.1,r.2⟩,H.new,
  fun z hz=>have f:=H.fz z hz;⟨(GH.au _ _ fun e:z.1=q.2=>f.2.1 (e▸dF _ Ra)).trans f.1,f.2⟩,H.nd,
  ⟨H.tb.1.up (Ga.Le.refl _) fun o e=>(GH.au _ _ (no _ (cB _ (.head _)))).trans e,H.tb.2.up (Ga.Le.refl _) fun o e=>(GH.au _ _ (no _ (cB _ (.tail _ (.head _))))).trans e⟩,H.tn⟩
theorem Go.Xw (T:Tp (KK w) hT) (S:At hT l g s.heap) (H:HP aab w hT γ σ g) (h:OR aab w (γ.cw s.heap.objs.size) ob o) (hf:o.isFreed=false) :
  Go hT l γ g s (γ.cw s.heap.objs.size) (g.set s.heap.objs.size o) {s with heap:=s.heap.push o,toks:=t}∧HP aab w hT (γ.cw s.heap.objs.size) {σ with objs:=σ.objs++[ob]} (g.set s.heap.objs.size o):=
 ⟨⟨S.push o hf,⟨Kp.of_keeps fun b x e=>bG _ e,⟨rfl,rfl,rfl⟩⟩,γ.bf _,gb.cw H S.fresh,fun O O O h=>h⟩,H.cw S.fresh ⟨S.og S.fresh,e9 T S⟩ h⟩
theorem Go.Sm (S:At hT l g s.heap) (H:HP aab w hT γ σ g) (o:Obj) (hf:o.isFreed=false) (hs:¬ wO o) :
  Go hT l γ g s (γ.nN s.heap.objs.size o) (g.set s.heap.objs.size o) {s with heap:=s.heap.push o,toks:=t}∧HP aab w hT (γ.nN s.heap.objs.size o) σ (g.set s.heap.objs.size o):=
 ⟨⟨S.push o hf,⟨Kp.of_keeps fun b x e=>bG _ e,⟨rfl,rfl,rfl⟩⟩,γ.gV _ _,gb.of_le (GH.bS _ S.fresh),fun ca O e h=>cc.mpr ⟨fun z:s.heap.objs.size=ca=>e (z▸S.fresh),h⟩⟩,(H.mono (GH.bS _ S.fresh)).nN (GH.set_same _ _ _) (H.fresh S.fresh) hs⟩
theorem Go.tA (S:At hT l g s.heap) (H:HP aab w hT γ σ g) (o:Obj) (hf:o.isFreed=false) :
  Go hT l γ g s γ (g.set s.heap.objs.size o) {s with heap:=s.heap.push o,toks:=t}∧HP aab w hT γ σ (g.set s.heap.objs.size o)∧s.heap.objs.size∉γ.fp∧hT.get? s.heap.objs.size=none:=
 ⟨⟨S.push o hf,⟨Kp.of_keeps fun b x e=>bG _ e,⟨rfl,rfl,rfl⟩⟩,Ga.Le.refl _,gb.of_le (GH.bS _ S.fresh),kh.refl _ _⟩,H.mono (GH.bS _ S.fresh),H.fresh S.fresh,S.og S.fresh⟩
theorem Go.EN (S:At hT l g s.heap) (H:HP aab w hT γ σ g) {i:Nat} {o o':Obj} {ob:Ob} {t:Nat} (ha:γ.o[i]?=some a) (hx:g a=some o) (hs:Heap.SameBut a s.heap h') (ho:h'.get? a=some o') (h:OR aab w γ ob o') :
  Go hT l γ g s γ (g.set a o') {s with heap:=h',toks:=t}∧HP aab w hT γ (σ.aV i ob) (g.set a o'):=
 ⟨⟨S.upd hx (H.new a (bL ha)).1 hs ho,⟨S.v9 hx hs,⟨rfl,rfl,rfl⟩⟩,Ga.Le.refl _,gb.Dx (Off.set _ _ _) (HP.Dl ha),kh.refl _ _⟩,H.aV ha h⟩
theorem Go.Um (S:At hT l g s.heap) (H:HP aab w hT γ σ g) {i:Nat} {q:Addr × Addr} {a b:AV} {x y:Value} {u v:Tok} {t:Nat} {o:Obj} (hq:γ.p[i]?=some q) (hx:g q.2=some o) (hs:Heap.SameBut q.2 s.heap h') (ho:h'.get? q.2=some (a7 w.params x y u v)) (h1:VR γ.p x a) (h2:VR γ.p y b) :
  Go hT l γ g s γ (g.set q.2 (a7 w.params x y u v)) {s with heap:=h',toks:=t}∧HP aab w hT γ (σ.setC i (a,b)) (g.set q.2 (a7 w.params x y u v)):=
 ⟨⟨S.upd hx (H.cs.new q (bL hq)).2.1 hs ho,⟨S.v9 hx hs,⟨rfl,rfl,rfl⟩⟩,Ga.Le.refl _,gb.Dx (Off.set _ _ _) (dF _ (dC.mpr ⟨q,bL hq,rfl⟩)),kh.refl _ _⟩,H.setC hq h1 h2⟩
theorem Go.Un (S:At hT l g s.heap) (H:HP aab w hT γ σ g) (hx:g a=some o) (hn:hT.get? a=none) (hf:a∉γ.fp) (WW:wO o) (hs:Heap.SameBut a s.heap h') (ho:h'.get? a=some o') :
  At hT l (g.set a o') h'∧Bk l s {s with heap:=h',toks:=t}∧HP aab w hT γ σ (g.set a o'):=
 ⟨S.upd hx hn hs ho,⟨S.v9 hx hs,⟨rfl,rfl,rfl⟩⟩,H.off hx WW hf (Off.set _ _ _)⟩
theorem Ga.Le.fp (k:γ.Le aj) {b:Addr} (h:b∈γ.fp):b∈aj.fp:=(cU.mp h).elim
 (fun h=>bc (dC.mp h) fun q hq e=>(uH.mp hq).elim fun i hi=>dF _ (dC.mpr ⟨q,bL (k.p.pre i q hi),e⟩))
 fun h=>(cU.mp h).elim (fun h=>(uH.mp h).elim fun i hi=>HP.Dl (k.o i b hi)) fun h=>cB _ (cB _ h)
theorem Go.mq (G:Go hT l γ g s aj g' s') (H':HP aab w hT aj σ g') (e:g' a=none):g a=none:=none_of fun o q=>
 if m:a∈γ.fp then (H'.seen a (G.le.fp m)).elim fun o' e'=>fg e' e else fg (G.tr a o m q).2 e
theorem At.turn (S:At hT l g h) {I:List Addr} (hn:∀b∈I,(∃o,g b=some o)∧hT.get? b=none) (hk:∀b o,b∉I→h.get? b=some o→h'.get? b=some o) (off:∀b,b∉I→g' b=g b) (hs:∀b∈I,∀o,g' b=some o→h'.get? b=some o) :
  At hT l g' h'∧Kp l h h':=by
 have hb:∀b∈lJ l,b∉I:=fun b hb q=>(hn b q).1.elim fun o e=>fg e (S.jx b hb)
 have kp:Kp l h h':=fun b hm o e=>⟨o.slots,hk b o (hb b hm) e⟩
 refine ⟨⟨fun b o e=>(off b fun q=>fg e (hn b q).2).trans (S.base _ _ e),fun b o e=> ?_,fun b hm=>(off b (hb b hm)).trans (S.jx b hm),aS kp S.cO⟩,kp⟩
 exact if q:b∈I then hs b q o e else hk b o q (S.a5 _ _ ((off b q).symm.trans e))
theorem At.grow (S:At hT l g h) {I:List Addr} (hn:∀b∈I,h.get? b=none) (hk:∀b o,h.get? b=some o→h'.get? b=some o) (off:∀b,b∉I→g' b=g b) (hs:∀b∈I,∀o,g' b=some o→h'.get? b=some o) :
  At hT l g' h'∧GH.le g g':=by
 have gn:∀b∈I,g b=none:=fun b hb=>none_of fun o e=>fg (S.a5 _ _ e) (hn b hb)
 have hb:∀b∈lJ l,b∉I:=fun b hb q=>Jm (S.cO.mem hb) fun O o ho O=>fg ho (hn b q)
 have le:GH.le g g':=fun b o e=>(off b fun q=>fg e (gn b q)).trans e
 exact ⟨⟨fun b o e=>le _ _ (S.base _ _ e),fun b o e=>if q:b∈I then hs b q o e else hk b o (S.a5 _ _ ((off b q).symm.trans e)),fun b hm=>(off b (hb b hm)).trans (S.jx b hm),aS (Kp.of_keeps hk) S.cO⟩,le⟩
end
inductive OV (w:World) (γ:Ga):Option Value→Option V→Prop
 | none {v}:OV w γ v none
 | some {v V}:aq w γ v V→OV w γ (some v) (some V)
theorem XA {P:Option Value→Prop} {v:Option Value} {V:Mine.V} (h:OV w γ v (Option.some V)) (k:∀u,aq w γ u V→P (Option.some u)):P v:=by
 cases h with
 | some h=>exact k _ h
theorem OV.up {v V} (h:OV w γ v V) (l:γ.Le aj):OV w aj v V:=by
 induction h with
 | none=>exact .none
 | some h=>exact .some (h.up l)
def gv (hT:Heap) (wr:Bool) (γ:Ga) (g:GH) (env:Env) (x:Str) (v:Option Value):Prop:=
 ∃ca o,env.cells.lookup x=some ca∧g ca=some o∧o.data= .cell v∧ca∉γ.fp∧(wr=true→hT.get? ca=none∧∀q∈γ.fz,q.1≠ca)
inductive Sl (w:World) (hT:Heap) (wr:Bool) (γ:Ga) (g:GH) (env:Env):List (Str × NameKind)→List (Option Value)→aO→Prop
 | nil:Sl w hT wr γ g env [] [] []
 | loc {x r u V vs fr}:OV w γ u V→Sl w hT wr γ g env r vs fr→Sl w hT wr γ g env ((x,.local)::r) (u::vs) (V::fr)
 | gg {x k r u v V vs fr}:k=NameKind.cell∨k=NameKind.free→gv hT wr γ g env x v→OV w γ v V→Sl w hT wr γ g env r vs fr→Sl w hT wr γ g env ((x,k)::r) (u::vs) (V::fr)
 | lr {x r u vs fr}:Sl w hT wr γ g env r vs fr→Sl w hT wr γ g env ((x,.globalImplicit)::r) (u::vs) (none::fr)
section
variable {aab:Program} {w:World} {hT:Heap} {wr:Bool} {l:List Env} {γ aj:Ga} {g g':GH} {s s':Shared} {σ:St} {env:Env} {ns:List (Str × NameKind)} {vs:List (Option Value)} {fr:aO} {x:Str} {k:NameKind} {V:V}
theorem gv.up {v} (h:gv hT wr γ g env x v) (t:gb γ g aj g') (fz:wr=true→kh γ g aj):gv hT wr aj g' env x v:=by
 refine jw h fun ca o a b c d f=> ?_;clear h
 obtain ⟨d',b'⟩:=t ca o d b
 exact ⟨ca,o,a,b',c,d',fun hw=>⟨(f hw).1,fz hw ca d (by rw [b];simp) (f hw).2⟩⟩
theorem Sl.up (h:Sl w hT wr γ g env ns vs fr) (le:γ.Le aj) (t:gb γ g aj g') (fz:wr=true→kh γ g aj):Sl w hT wr aj g' env ns vs fr:=by
 induction h with
 | nil=>exact .nil
 | loc a _ ih=>exact .loc (a.up le) ih
 | gg k a b _ ih=>exact .gg k (a.up t fz) (b.up le) ih
 | lr _ ih=>exact .lr ih
theorem Sl.load (h:Sl w hT wr γ g env ns vs fr):∀ {i:Nat},ns[i]?=some (x,k)→bq fr i=some V →
  ∃v,aq w γ v V∧((k= .local∧Loc ns vs x .local v)∨((k= .cell∨k= .free)∧gv hT wr γ g env x (some v))):=by
 induction h with
 | nil=>intro i hi;simp at hi
 | loc a _ ih=>
  intro i hi hf
  induction i with
  | zero=>
   simp at hi
   obtain ⟨q9,rfl⟩:=hi
   obtain rfl:=q9.symm
   simp only [bq] at hf
   subst hf
   cases a with
   | some a=>exact ⟨_,a,.inl ⟨rfl,.head⟩⟩
  | succ i=>
   refine bc (ih (hi) (by simpa only [bq] using hf)) fun v h1 h2=> ?_
   exact ⟨v,h1,h2.imp (fun z=>⟨z.1,.tail z.2⟩) id⟩
 | gg hk a b _ ih=>
  intro i hi hf
  cases i with
  | zero=>
   simp at hi
   obtain ⟨rfl,rfl⟩:=hi
   simp only [bq] at hf
   subst hf
   cases b with
   | some b=>exact ⟨_,b,.inr ⟨hk,a⟩⟩
  | succ i=>
   refine bc (ih (by simpa using hi) (by simpa only [bq] using hf)) fun v h1 h2=> ?_
   exact ⟨v,h1,h2.imp (fun z=>⟨z.1,.tail z.2⟩) id⟩
 | lr _ ih=>
  intro i hi hf
  induction i with
  | zero=>simp [bq] at hf
  | succ i=>
   refine bc (ih (by simpa using hi) (by simpa only [bq] using hf)) fun v h1 h2=> ?_
   exact ⟨v,h1,h2.imp (fun z=>⟨z.1,.tail z.2⟩) id⟩
theorem Sl.cell (h:Sl w hT wr γ g env ns vs fr):∀ {i:Nat},ns[i]?=some (x,.cell)→∃v,gv hT wr γ g env x v∧OV w γ v (bq fr i):=by
 induction h with
 | nil=>intro i hi;simp at hi
 | loc a _ ih=>
  intro i hi
  induction i with
  | zero=>simp at hi
  | succ i=>exact ih (i:=i) (by simpa using hi)
 | gg hk a b _ ih=>
  intro i hi
  induction i with
  | zero=>
   simp at hi
   obtain ⟨q9,rfl⟩:=hi
   obtain rfl:=q9.symm
   exact ⟨_,a,b⟩
  | succ i=>exact ih (i:=i) (hi)
 | lr _ ih=>
  intro i hi
  cases i with
  | zero=>simp at hi
  | succ i=>exact ih (i:=i) (by simpa using hi)
theorem Sl.putL (h:Sl w hT wr γ g env ns vs fr) (hv:aq w γ v V):∀ {i:Nat},ns[i]?=some (x,.local)→∃cR,FL ns vs x .local v cR∧Sl w hT wr γ g env ns cR (m4 fr i V):=by
 induction h with
 | nil=>intro i hi;simp at hi
 | loc a h ih=>
  intro i hi
  induction i with
  | zero=>
   simp at hi
   subst hi
   exact ⟨_,.head,.loc (.some hv) h⟩
  | succ i=>
   refine bc (ih (i:=i) (by simpa using hi)) fun cR h1 h2=> ?_
   exact ⟨_,.tail h1,.loc a h2⟩
 | gg hk a b h ih=>
  intro i hi
  induction i with
  | zero=>simp at hi;rcases hk with rfl | rfl <;> cases hi.2
  | succ i=>
   refine bc (ih (i:=i) (by simpa using hi)) fun cR h1 h2=> ?_
   exact ⟨_,.tail h1,.gg hk a b h2⟩
 | lr h ih=>
  intro i hi
  cases i with
  | zero=>simp at hi
  | succ i=>
   refine bc (ih (i:=i) (by simpa using hi)) fun cR h1 h2=> ?_
   exact ⟨_,.tail h1,.lr h2⟩
theorem jn {l:List (Str × Addr)} (h:l.Pairwise (fun x y=>x.2≠y.2)) {x y:Str} {a b:Addr} (ha:l.lookup x=some a) (hb:l.lookup y=some b) (hxy:x≠y):a≠b:=by
 induction l with
 | nil=>cases ha
 | cons p r ih=>
  rw [List.pairwise_cons] at h
  obtain ⟨z,c⟩:=p
  rw [eU] at ha hb
  by_cases hx:x=z
  ·subst hx
   simp at ha;subst ha
   have:(y == x)=false:=by simpa using nG hxy
   rw [this] at hb
   exact h.1 _ (mem_of_lookup hb)
  ·have h1:(x == z)=false:=by simpa using hx
   rw [h1] at ha
   by_cases hy:y=z
   ·subst hy
    simp at hb;subst hb
    exact fun e=>h.1 _ (mem_of_lookup ha) e.symm
   ·have h2:(y == z)=false:=by simpa using hy
    rw [h2] at hb
    exact ih h.2 ha hb
theorem Sl.XD {v:Value} {ca:Addr} {o:Obj} (h:Sl w hT wr γ g env ns vs fr) (hv:aq w γ v V) (nd:(ns.map (·.1)).Nodup) (ap:env.cells.Pairwise (fun x y=>x.2≠y.2)) (e1:env.cells.lookup x=some ca) (e3:o.data= .cell (some v)) (nf:ca∉γ.fp) (nz:wr=true→hT.get? ca=none∧∀q∈γ.fz,q.1≠ca) :
  ∀ {i:Nat},ns[i]?=some (x,.cell)→Sl w hT wr γ (g.set ca o) env ns vs (m4 fr i V):=by
 have off:∀ {ns vs fr},Sl w hT wr γ g env ns vs fr→x∉ns.map (·.1)→Sl w hT wr γ (g.set ca o) env ns vs fr:=by
  intro ns vs fr h
  induction h with
  | nil=>intro _;exact .nil
  | loc a _ ih=>intro hx;exact .loc a (ih fun m=>hx (.tail _ m))
  | gg hk a b _ ih=>
   intro hx
   refine fZ a fun cb ob a1 a2 a3=> ?_;clear a
   refine .gg hk ⟨cb,ob,a1,?_,a3⟩ b (ih fun m=>hx (.tail _ m))
   rw [GH.au _ _ (jn ap a1 e1 fun e=>hx (((e)▸(.head _))))];exact a2
  | lr _ ih=>intro hx;exact .lr (ih fun m=>hx (.tail _ m))
 induction h with
 | nil=>intro i hi;simp at hi
 | loc a h ih=>
  intro i hi
  rw [dh,bV] at nd
  induction i with
  | zero=>simp at hi
  | succ i=>exact .loc a (ih nd.2 (by simpa using hi))
 | gg hk a b h ih=>
  intro i hi
  rw [dh,bV] at nd
  induction i with
  | zero=>
   simp at hi
   obtain ⟨q9,rfl⟩:=hi
   obtain rfl:=q9.symm
   exact .gg hk ⟨ca,o,e1,GH.set_same _ _ _,e3,nf,nz⟩ (.some hv) (off h nd.1)
  | succ i=>
   have oQ:=hi
   rw [List.getElem?_cons_succ] at oQ
   have hm:=ru (f:=fun (p:Str × NameKind)=>p.1) (bL oQ)
   refine fZ a fun cb ob a1 a2 a3=> ?_;clear a
   refine .gg hk ⟨cb,ob,a1,?_,a3⟩ b (ih nd.2 oQ)
   rw [GH.au _ _ (jn ap a1 e1 fun e=>nd.1 (((e)▸(hm))))];exact a2
 | lr h ih=>
  intro i hi
  rw [dh,bV] at nd
  cases i with
  | zero=>simp at hi
  | succ i=>exact .lr (ih nd.2 (by simpa using hi))
structure pG (en:Env) (ns:List (Str × NameKind)):Prop where
 kind:en.scope.kind= .function
 gl:en.globals=mainGlobals
 bu:en.builtins=builtinsNs
 ko:∀x k,(x,k)∈ns→en.kindOf x=some k
 km:∀x,en.kindOf x=ns.lookup x
 uO:∀x k,(x,k)∈ns→(x == ("__debug__":Str))=false
def Jv (o:Obj):Prop:=(∃f,o.data= .fields f)∨∃f n,o.data= .seq f n
def mf (I:List Addr) (g g':GH):Prop:=∀b o,b∉I→g b=some o→g' b=some o
structure cZ (w:World) (hT:Heap) (l:List Env) (e:Env) (ns:List (Str × NameKind)) (FR:Ga→GH→aO→Shared→Prop):Prop where
 en:pG e ns
 at_:∀ {γ g fr s},FR γ g fr s→At hT l g s.heap
 go:∀ {γ g fr s aj g' s'},FR γ g fr s→Go hT l γ g s aj g' s'→FR aj g' fr s'
 off:∀ {γ g fr s g' s' I},FR γ g fr s→(∀b∈I,∃o,g b=some o∧Jv o)→At hT l g' s'.heap→Bk l s s'→mf I g g'→FR γ g' fr s'
 gg:∀ {γ g fr s i x},FR γ g fr s→ns[i]?=some (x,NameKind.cell)→(∃ca,e.cells.lookup x=some ca)∧∀V,bq fr i=some V→∃v,aq w γ v V∧gv hT false γ g e x (some v)
 ld:∀ {γ g fr s i x k V},FR γ g fr s→ns[i]?=some (x,k)→bq fr i=some V→∃v,aq w γ v V∧∀ {M A pos} {Q:Value→Shared→Prop} {E:Value→Shared→Prop},Q v s→wpAny M A (eval (.Name x pos) e) Q E s
theorem gv.off {v} (h:gv hT wr γ g env x v) (hI:∀b∈I,∃o,g b=some o∧Jv o) (o:mf I g g'):gv hT wr γ g' env x v:=by
 refine jw h fun ca ob a b c d f=> ?_;clear h
 refine ⟨ca,ob,a,o _ _ (fun hm=> ?_) b,c,d,f⟩
 refine bc (hI ca hm) fun o' h1 h2=> ?_
 cases (b).symm.trans h1
 rcases h2 with ⟨f,h2⟩ | ⟨f,k,h2⟩ <;> (cases (c).symm.trans h2)
theorem Sl.off (h:Sl w hT wr γ g env ns vs fr) (hI:∀b∈I,∃o,g b=some o∧Jv o) (o:mf I g g'):Sl w hT wr γ g' env ns vs fr:=by
 induction h with
 | nil=>exact .nil
 | loc a _ ih=>exact .loc a ih
 | gg k a b _ ih=>exact .gg k (a.off hI o) b ih
 | lr _ ih=>exact .lr ih
end
def jz (w:World) (hT:Heap) (wr:Bool) (env:Env) (ns:List (Str × NameKind)) (aac:List Env) (s₀:Shared) (L:Addr) (γ:Ga) (g:GH) (fr:aO) (s:Shared):Prop:=
 ∃vs,Fs hT env ns aac s₀ L vs g s∧Sl w hT wr γ g env ns vs fr
section
variable {w:World} {hT:Heap} {wr:Bool} {aac:List Env} {env:Env} {ns:List (Str × NameKind)} {s₀:Shared} {L:Addr}
theorem jz.nm (ok:kg env L ns):cZ w hT (env::aac) env ns (jz w hT wr env ns aac s₀ L) where
 en:=⟨ok.sc.kind,ok.gl,ok.bu,fun x k h=>aZ ok.sc.nd (ok.nm▸h),fun x=>by unfold Env.kindOf;rw [ok.nm],fun x k h=>ok.sc.uO _ (ok.nm▸h)⟩
 at_:=fun F=>F.elim fun vs F=>F.1.S
 go:=fun F G=>F.elim fun vs F=>⟨vs,F.1.back G.at_ G.bk,F.2.up G.le G.tr fun O=>G.fk⟩
 off:=fun F hI S B o=>F.elim fun vs F=>⟨vs,F.1.back S B,F.2.off hI o⟩
 gg:=fun F hi=>F.elim fun vs F=>(F.2.cell hi).elim fun v z=>z.1.elim fun ca z1=>z1.elim fun o z1=>⟨⟨ca,z1.1⟩,fun V hV=>XA (P:=fun v=>o.data= .cell v→∃u,aq w _ u V∧gv hT false _ _ env _ (some u)) (hV▸z.2) (fun u hu d=>⟨u,hu,ca,o,z1.1,z1.2.1,d,z1.2.2.2.1,fun q=>nomatch q⟩) z1.2.2.1⟩
 ld:=fun F hi hf=>F.elim fun vs F=>(F.2.load hi hf).elim fun v h=>⟨v,h.1,fun {M A pos Q E} hq=>h.2.elim (fun h2=>zH F.1.f (h2.1▸h2.2) hq) fun h2=>h2.2.elim fun ca z=>z.elim fun o z=>by
  have hm:=bL hi
  exact h2.1.elim (fun e=>t9 (ON F.1.f.ok.sc.kind (F.1.f.kind (e▸hm)) z.1 ⟨o,F.1.S.a5 _ _ z.2.1,z.2.2.1⟩ hq) (F.1.f.uO hm)) fun e=>t9 (wpAny_loadName_free F.1.f.ok.sc.kind (F.1.f.kind (e▸hm)) z.1 ⟨o,F.1.S.a5 _ _ z.2.1,z.2.2.1⟩ hq (F.1.f.ok.sc.cdt _ (F.1.f.ok.nm▸hm))) (F.1.f.uO hm)⟩
end
def Ct (aab:Program) (w:World) (hT:Heap) (l:List Env) (γ:Ga) (g:GH) (s:Shared) (Q:PV) (Qc:Value→Shared→Prop):Prop:=
 ∀aj g' af s' v vA,Go hT l γ g s aj g' s'→HP aab w hT aj af g'→aq w aj v vA→Q vA af→Qc v s'
section
variable {aab:Program} {w:World} {A:Around} {hT:Heap} {l:List Env} {γ aj:Ga} {g g':GH} {s s':Shared} {σ:St} {Q:PV} {Qc:Value→Shared→Prop} {Ec:Value→Shared→Prop} {v u:Value} {vA uA:V} {ex:Bool} {value slice:Expr}
theorem Ct.trans (x:Go hT l γ g s aj g' s') (k:Ct aab w hT l γ g s Q Qc):Ct aab w hT l aj g' s' Q Qc:=fun a b c d e f y=>k a b c d e f (x.trans y)
theorem Ct.now (S:At hT l g s.heap) (H:HP aab w hT γ σ g) (k:Ct aab w hT l γ g s Q Qc) (hv:aq w γ v vA) (q:Q vA σ):Qc v s:=k _ _ _ _ _ _ (Go.refl S) H hv q
theorem Ct.tok (S:At hT l g s.heap) (H:HP aab w hT γ σ g) (k:Ct aab w hT l γ g s Q Qc) (t:Nat) (hv:aq w γ v vA) (q:Q vA σ):Qc v {s with toks:=t}:=k _ _ _ _ _ _ (Go.toks S t) H hv q
theorem Ct.keep (S:At hT l g s.heap) (H:HP aab w hT γ σ g) (k:Ct aab w hT l γ g s Q Qc) (x:∀b o,s.heap.get? b=some o→h'.get? b=some o) (hv:aq w γ v vA) (q:Q vA σ):Qc v {s with heap:=h',toks:=t}:=k _ _ _ _ _ _ (Go.keeps S x) H hv q
theorem HP.X (H:HP aab w hT γ σ g) (T:Tp (KK w) hT) (S:At hT l g s.heap):(KK w).In s.heap:=T.nL S.a8
section
variable {P:Value→Prop} {R:Prop}
theorem VR.Dv (h:VR p v (.num n)):∃t,v= .int n t:=by cases h;exact ⟨_,rfl⟩
theorem VR.pM (h:VR p v (.cell i)):∃q:Addr × Addr,v= .ref q.1∧p[i]?=some q:=by cases h;exact ⟨_,rfl, ‹_›⟩
@[elab_as_elim] theorem aq.Sr (h:aq w γ v (.num n)) (k:∀t,P (.int n t)):P v:=(VR.Dv h).elim fun t e=>e▸k t
@[elab_as_elim] theorem aq.Xz (h:aq w γ v (.ob i)) (k:∀a,γ.o[i]?=some a→P (.ref a)):P v:=bQ h fun t e=>e.1▸k t e.2
@[elab_as_elim] theorem aq.b7 {K:Int→Prop} (h:aq w γ v vA) (o:opt vA.num? K) (k:∀n t,K n→P (.int n t)):P v:=by
 cases vA with
 | av a=>cases a with
  | num n=>exact (VR.Dv h).elim fun t e=>e▸k _ t o
  | _=>exact o.elim
 | _=>exact o.elim
@[elab_as_elim] theorem aq.oCell {K:Nat→Prop} (h:aq w γ v vA) (o:opt vA.cell? K) (k:∀i q,γ.p[i]?=some q→K i→P (.ref q.1)):P v:=by
 cases vA with
 | av a=>cases a with
  | cell n=>exact (VR.pM h).elim fun t e=>e.1▸k _ t e.2 o
  | _=>exact o.elim
 | _=>exact o.elim
theorem aq.FX {K:AV→Prop} (h:aq w γ v vA) (o:opt vA.Gm K) (k:∀x,VR γ.p v x→K x→R):R:=by
 cases vA with
 | av a=>exact k _ h o
 | _=>exact o.elim
@[elab_as_elim] theorem aq.Pm {K:AV→Prop} (h:aq w γ v vA) (o:opt vA.An K) (k:∀x t ob,OU x ob→(t,ob)∈γ.fz→K x→P (.ref t)):P v:=by
 cases vA with
 | lv a=>exact bQ h fun t h=>h.elim fun ob h=>h.1▸k _ t ob h.2.2 h.2.1 o
 | _=>exact o.elim
@[elab_as_elim] theorem aq.iS {K:Nat→Prop} (h:aq w γ v vA) (o:opt vA.eM K) (k:∀i a,γ.o[i]?=some a→K i→P (.ref a)):P v:=by
 cases vA with
 | ob i=>exact bQ h fun a h=>h.1▸k i a h.2 o
 | _=>exact o.elim
@[elab_as_elim] theorem aq.oTk {K:Nat→Prop} (h:aq w γ v vA) (o:opt vA.YR K) (k:∀i d x,γ.o[i]?=some d→(x,instObj 369 d)∈γ.fz→K i→P (.ref x)):P v:=by
 cases vA with
 | tk i=>exact bQ h fun d h=>h.elim fun x h=>h.1▸k i d x h.2.1 h.2.2 o
 | _=>exact o.elim
@[elab_as_elim] theorem aq.qX {K:Nat→Prop} (h:aq w γ v vA) (o:opt vA.oj K) (k:∀n t,n<30→K n→P (.str (sT n) t)):P v:=by
 cases vA with
 | str i=>exact bQ h fun t h=>h.1▸k i t h.2 o
 | _=>exact o.elim
@[elab_as_elim] theorem aq.oFn {K:Nat→Prop} (h:aq w γ v vA) (o:opt vA.Zn K) (k:∀a,K a→P (.ref a)):P v:=by
 cases vA with
 | fn i=>exact And.left h▸k i o
 | _=>exact o.elim
@[elab_as_elim] theorem aq.x8 {K:Bool→Prop} (h:aq w γ v vA) (o:opt vA.bool? K) (k:∀b,K b→P (.bool b)):P v:=by
 cases vA with
 | bool b=>exact (show v= .bool b from h)▸k b o
 | _=>exact o.elim
@[elab_as_elim] theorem aq.tH {K:Prop} (h:aq w γ v vA) (o:bif vA.isNone then K else False) (k:K→P .none):P v:=by
 cases vA with
 | none=>exact (show v= .none from h)▸k o
 | _=>exact o.elim
end
structure B1 (aab:Program) (w:World) (A:Around) (hT:Heap) (l:List Env) (f:Value→Sem Value) (o:Op):Prop where
 go:∀ {γ g s σ Q Qc Ec v V},At hT l g s.heap→HP aab w hT γ σ g→aq w γ v V→q1 o V Q σ→Ct aab w hT l γ g s Q Qc→wpAny (model aab w) A (f v) Qc Ec s
structure B2 (aab:Program) (w:World) (A:Around) (hT:Heap) (l:List Env) (f:Value→Value→Sem Value) (o:Op):Prop where
 go:∀ {γ g s σ Q Qc Ec v u V U},At hT l g s.heap→HP aab w hT γ σ g→aq w γ v V→aq w γ u U→q2 o V U Q σ→Ct aab w hT l γ g s Q Qc→wpAny (model aab w) A (f v u) Qc Ec s
theorem XP (T:Tp (KK w) hT):B1 aab w A hT l (fun v=>getAttr v "car" ex) .nJ:=⟨fun {γ g s σ Q Qc Ec v V} S H hv h k=>hv.oCell h fun i q hp h=>CN h fun ab hc h=>by
 refine yu (H.cs.inst S.a5 hp hc) fun x y t u I hx hy=> ?_
 exact get_value (H.X T S) I JU (findObj_own lF vk rfl (HS _ _ _ _ _)) (dQ hx) (k.tok S H _ (.av hx) h)⟩
theorem XR (T:Tp (KK w) hT):B1 aab w A hT l (fun v=>getAttr v "cdr" ex) .fC:=⟨fun {γ g s σ Q Qc Ec v V} S H hv h k=>hv.oCell h fun i q hp h=>CN h fun ab hc h=>by
 refine yu (H.cs.inst S.a5 hp hc) fun x y t u I hx hy=> ?_
 exact get_value (H.X T S) I JU (findObj_own lF vl rfl (HT _ _ _ _ _)) (dQ hy) (k.tok S H _ (.av hy) h)⟩
theorem Num.rel {n:Int} {t:Tok}:aq w γ (.int n t) (.num n):=.av .num
section
variable {R:Prop} {ob:Ob} {o:Obj}
theorem EL {h:Heap} {a:Addr} {xs:List Value} {n:Nat} (e:h.get? a=some (dz xs n)):IsTup h a xs.toArray:=⟨_,e,rfl,n,rfl⟩
theorem mV {h:Heap} {a:Addr} {xs:List Value} {n:Nat} (e:h.get? a=some (listOf xs.toArray n)):h.IsList a xs.toArray:=⟨_,e,rfl,n,rfl⟩
theorem HP.lst (H:HP aab w hT γ σ g) (S:At hT l g s.heap) {i:Nat} {a:Addr} {ls:List V} (ha:γ.o[i]?=some a) (hb:σ.objs[i]?=some (.lst ls)) :
  ∃xs n,g a=some (listOf xs.toArray n)∧ao w γ xs ls∧s.heap.get? a=some (listOf xs.toArray n)∧s.heap.IsList a xs.toArray:=
 (H.obj i a _ ha hb).elim fun c h=>h.2.imp fun xs=>cD fun n q=>have e:=q.1▸h.1;⟨e,q.2,S.a5 _ _ e,mV (S.a5 _ _ e)⟩
theorem HP.tup (H:HP aab w hT γ σ g) (S:At hT l g s.heap) {i:Nat} {a:Addr} {ls:List V} (ha:γ.o[i]?=some a) (hb:σ.objs[i]?=some (.tup ls)) :
  ∃xs n,g a=some (dz xs n)∧ao w γ xs ls∧IsTup s.heap a xs.toArray:=
 (H.obj i a _ ha hb).elim fun c h=>h.2.imp fun xs=>cD fun n q=>have e:=q.1▸h.1;⟨e,q.2,EL (S.a5 _ _ e)⟩
theorem HP.dI (H:HP aab w hT γ σ g) (S:At hT l g s.heap) {i:Nat} {a:Addr} {ls:List (Int × V)} (ha:γ.o[i]?=some a) (hb:σ.objs[i]?=some (.dI ls)) :
  ∃o kvs,g a=some o∧o.IsDictOf (intKind aab w) kvs∧DR w γ kvs ls∧s.heap.DictOf (intKind aab w) a kvs:=
 (H.obj i a _ ha hb).imp fun c h=>cD (fun kvs q=>⟨h.1,q.1,q.2,wG.mpr ⟨c,S.a5 _ _ h.1,q.1⟩⟩) h.2
theorem HP.dS (H:HP aab w hT γ σ g) (S:At hT l g s.heap) {i:Nat} {a:Addr} {ls:List (Nat × V)} (ha:γ.o[i]?=some a) (hb:σ.objs[i]?=some (.dS ls)) :
  ∃o kvs,g a=some o∧o.IsDictOf (strKind aab w) (oi kvs)∧(∀p∈ls,p.1<30)∧DR w γ kvs ls∧s.heap.DictOf (strKind aab w) a (oi kvs):=
 (H.obj i a _ ha hb).imp fun c h=>cD (fun kvs q=>⟨h.1,q.1,q.2.1,q.2.2,wG.mpr ⟨c,S.a5 _ _ h.1,q.1⟩⟩) h.2
theorem HP.tk (H:HP aab w hT γ σ g) {i:Nat} {a:Addr} {t:f9} (ha:γ.o[i]?=some a) (hb:σ.objs[i]?=some (.task t)) :
  ∃le ri sl sr tt,g a=some (F8 w.params le ri sl sr t.deep t.turn tt)∧VR γ.p le t.left∧VR γ.p ri t.right∧VR γ.p sl t.sl∧VR γ.p sr t.sr:=
 (H.obj i a _ ha hb).elim fun c h=>yv h.2 fun le ri sl sr tt q r=>⟨le,ri,sl,sr,tt,q▸h.1,r⟩
theorem HP.kL {i:Nat} {a:Addr} {K:List V→Prop} (H:HP aab w hT γ σ g) (S:At hT l g s.heap) (ha:γ.o[i]?=some a) (h:gW σ i K) (k:∀ls xs n,σ.objs[i]?=some (.lst ls)→ls.length<1000000→g a=some (listOf xs.toArray n)→ao w γ xs ls→s.heap.IsList a xs.toArray→K ls→R):R:=
 xR h fun ls hb hz q=>(H.lst S ha hb).elim fun xs h=>h.elim fun n h=>k ls xs n hb hz h.1 h.2.1 h.2.2.2 q
theorem HP.kI {i:Nat} {a:Addr} {ls:List (Int × V)} (H:HP aab w hT γ σ g) (S:At hT l g s.heap) (ha:γ.o[i]?=some a) (hb:σ.objs[i]?=some (.dI ls)) (k:∀o kvs,g a=some o→o.IsDictOf (intKind aab w) kvs→DR w γ kvs ls→s.heap.DictOf (intKind aab w) a kvs→R):R:=
 (H.dI S ha hb).elim fun o h=>h.elim fun kvs h=>k o kvs h.1 h.2.1 h.2.2.1 h.2.2.2
end
theorem ao.item {xs:List Value} {ls:List V} {j:Nat} {x:V} {R:Prop} (h:ao w γ xs ls) (hx:ls[j]?=some x) (k:∀y,xs[j]?=some y→j<xs.length→aq w γ y x→R):R:=
 (h.get hx).elim fun y h=>k y h.1 (bl.mp h.1).1 h.2
theorem z63 {n:Int} {k:Nat} (h0:0≤n) (h:n.toNat<k) (hk:k<1000000):n<2 ^ 63:=ub ((um h0).mp (cV h hk)) (by decide)
theorem Ta (hs:il slice):B2 aab w A hT l (subscriptTail value slice) .aw:=⟨fun {γ g s σ Q Qc Ec v u V U} S H hv hu h k=>hv.iS h fun i a ha h=>hu.b7 h fun n t h=>RQ h fun ls x hb h0 hz hx q=>by
 refine bX (H.lst S ha hb) fun xs m e bx e' L=> ?_
 exact bx.item hx fun y hy hl W6=>tail_any L.typeIs slot_list_getitem.lookup (wpAny_getItem_list L h0 (z63 h0 (bx.length▸hl) hz) (by simpa using hy) (k.now S H W6 q)) (hs _ _)⟩
theorem ao.nil_inv (h:ao w γ xs []):xs=[]:=by cases h;rfl
theorem ao.cons_inv {xs:List Value} {a:Mine.V} {l:List Mine.V} (h:ao w γ xs (a::l)):∃x r,xs=x::r∧aq w γ x a∧ao w γ r l:=by
 cases h with
 | cons h1 h2=>exact ⟨_,_,rfl,h1,h2⟩
@[elab_as_elim] theorem ao.x9 {xs:List Value} {a:V} (h:ao w γ xs [a]) {P:List Value→Prop} (k:∀x,aq w γ x a→P [x]):P xs:=
 h.cons_inv.elim fun x h=>h.elim fun r h=>h.1▸h.2.2.nil_inv▸k x h.2.1
@[elab_as_elim] theorem ao.pk {xs:List Value} {ls:List V} {x:V} (h:ao w γ xs (ls++[x])) {P:List Value→Prop} (k:∀us y,ao w γ us ls→aq w γ y x→P (us++[y])):P xs:=
 h.split.elim fun us h=>h.elim fun ws h=>h.1▸h.2.2.x9 (P:=fun ws=>P (us++ws)) fun y h2=>k us y h.2.1 h2
theorem HG {us:List Value} {y:Value}:(us++[y]).toArray[((-1:Int)+((us++[y]).toArray.size:Int)).toNat]?=some y:=by
 rw [show ((-1:Int)+((us++[y]).toArray.size:Int)).toNat=us.length from by simp;lia];simp
theorem Tc (hs:il slice):B2 aab w A hT l (subscriptTail value slice) .idxM:=⟨fun {γ g s σ Q Qc Ec v u V U} S H hv hu h k=>hv.iS h fun i a ha h=>hu.b7 h fun n t h=>by
 have q:=dH h
 obtain rfl:n= -1:=beq_iff_eq.mp (dG h)
 refine Kv q fun ls x hb O q=> ?_
 refine bX (H.lst S ha hb) fun xs m e bx e' L=> ?_
 exact bx.pk (P:=fun xs=>s.heap.IsList a xs.toArray→_) (fun us y h1 h2 L=>tail_any L.typeIs slot_list_getitem.lookup (wpAny_getItem_list_neg L (by decide) (by simp;lia) (by decide) HG (k.now S H h2 q)) (hs _ _)) L⟩
theorem Li {k:Int} {n:Nat} (h0:0≤k) (h:k.toNat<n):seqIndex? k n=some k.toNat:=by
 unfold seqIndex?
 have h1:¬ k<0:=by lia
 simp [h1];lia
theorem Te (hs:il slice):B2 aab w A hT l (subscriptTail value slice) .idxT:=⟨fun {γ g s σ Q Qc Ec v u V U} S H hv hu h k=>hv.iS h fun i a ha h=>hu.b7 h fun n t h=>Nd h fun ls x hb h0 hz hx q=>by
 refine fZ (H.tup S ha hb) fun xs m e bx L=> ?_
 exact bx.item hx fun y hy hl W6=>item_tupleT L (uJ (b:=0) (by decide) h0) (z63 h0 (bx.length▸hl) hz) (Li h0 hl) hy (k.now S H W6 q) (hs _ _)⟩
theorem HP.GX (H:HP aab w hT γ σ g) (S:At hT l g s.heap) {a:Addr} {o:Obj} (h:(a,o)∈γ.fz):s.heap.get? a=some o:=S.a5 _ _ (H.fz _ h).1
theorem SY (hs:il slice):B2 aab w A hT l (subscriptTail value slice) .idxA:=⟨fun {γ g s σ Q Qc Ec v u V U} S H hv hu h k=>hv.Pm h fun x a o ht hf h=>hu.b7 h fun n t h=>by
 have q:=dH h
 obtain rfl:n=0:=beq_iff_eq.mp (dG h)
 have e:=H.GX S hf
 have fin:∀ {xs:List Value} {m:Nat} {u:Tok},o=dz (.str (sT (xV x)) u::xs) m→xV x<30→wpAny (model aab w) A (subscriptTail value slice (.ref a) (.int 0 t)) Qc Ec s:=fun {xs m u'} h hz=>
  item_tupleT (EL (h▸e)) (by decide) (by decide) (Li (n:=(Value.str (sT (xV x)) u'::xs).length) (lB _) (Nat.zero_lt_succ xs.length)) rfl (k.now S H (.str hz) q) (hs _ _)
 cases x with
 | nil=>exact ht.elim fun O h=>h.elim fun O h=>fin h (by decide)
 | num=>exact ht.elim fun O h=>h.elim fun O h=>h.elim fun O h=>fin h (show 1<30 by decide)
 | cell=>exact ht.elim fun O h=>h.elim fun O h=>h.elim fun O h=>fin h (show 0<30 by decide)⟩
theorem S6 (hs:il slice):B2 aab w A hT l (subscriptTail value slice) .idxB:=⟨fun {γ g s σ Q Qc Ec v u V U} S H hv hu h k=>hv.Pm h fun x a o ht hf h=>hu.b7 h fun n t h=>by
 have q:=dH h
 obtain rfl:n=1:=beq_iff_eq.mp (dG h)
 have e:=H.GX S hf
 have fin:∀ {m:Int} {y:Value} {z:Nat} {u:Tok},o=dz [y,.int m u] z→Q (.num m) σ→wpAny (model aab w) A (subscriptTail value slice (.ref a) (.int 1 t)) Qc Ec s:=fun h q=>
  item_tupleT (EL (h▸e)) (by decide) (by decide) (j:=1) rfl rfl (k.now S H Num.rel q) (hs _ _)
 cases x with
 | nil=>exact q.elim
 | num=>exact ht.elim fun O h=>h.elim fun O h=>h.elim fun O h=>fin h q
 | cell=>exact ht.elim fun O h=>h.elim fun O h=>h.elim fun O h=>fin h q⟩
theorem EO {K:Type} [DecidableEq K] {p:K × Value} {r:List (K × Value)} {k:K} (e:p.1=k):valueAt (p::r) k=some p.2:=
 aD (Option.map fun x:K × Value=>x.2) (yF (p:=fun kv:K × Value=>decide (kv.1=k)) (hM e))
theorem EP {K:Type} [DecidableEq K] {p:K × Value} {r:List (K × Value)} {k:K} (e:p.1≠k):valueAt (p::r) k=valueAt r k:=
 aD (Option.map fun x:K × Value=>x.2) (Fn (p:=fun kv:K × Value=>decide (kv.1=k)) (mt f3 e))
theorem DR.look {K:Type} [DecidableEq K] {r:List (K × Value)} {ls:List (K × V)} (h:DR w γ r ls) (k:K):(∀x,ls.lookup k=some x→∃v,valueAt r k=some v∧aq w γ v x)∧(ls.lookup k=none→valueAt r k=none):=by
 induction h with
 | nil=>exact ⟨fun x e=>(nomatch e),fun O=>rfl⟩
 | @cons k' v a r s hv _ ih=>
  by_cases e:k=k'
  ·have e1:List.lookup k ((k',a)::s)=some a:=by rw [eU,beq_iff_eq.mpr e]
   exact ⟨fun x q=>⟨v,EO e.symm,cH (e1.symm.trans q)▸hv⟩,fun q=>nomatch e1.symm.trans q⟩
  ·have e1:List.lookup k ((k',a)::s)=s.lookup k:=by rw [eU,beq_eq_false_iff_ne.mpr e]
   rw [e1,EP (nG e)];exact ih
theorem S9 (hs:il slice):B2 aab w A hT l (subscriptTail value slice) .idxI:=⟨fun {γ g s σ Q Qc Ec v u V U} S H hv hu h k=>hv.iS h fun i a ha h=>hu.b7 h fun n t h=>Nb h fun ls x hb hx q=>H.kI S ha hb fun o kvs e h1 h2 D=>
 ((h2.look n).1 x hx).elim fun y h=>tail_any D.mapOf.typeIs slot_dict_getitem.lookup (wpAny_getItem_of (E6 aab w n t) D.mapOf h.1 (k.tok S H _ h.2 q)) (hs _ _)⟩
theorem vR:∀ {i j:Nat},i<30→j<30→sT i=sT j→i=j:=by
 have h:(List.range 30).all (fun i=>(List.range 30).all fun j=> !(sT i == sT j) || i == j)=true:=by decide +kernel
 intro i j hi hj e
 have:=iQ.mp (iQ.mp h i (pz.mpr hi)) j (pz.mpr hj)
 rw [e] at this
 simpa using this
theorem zQ {kvs:List (Nat × Value)} (hk:∀p∈kvs,p.1<30) {n:Nat} (hn:n<30):valueAt (oi kvs) (sT n)=valueAt kvs n:=by
 induction kvs with
 | nil=>rfl
 | cons p r ih=>
  have hk:=cc.mp hk
  by_cases e:p.1=n
  ·exact (EO (p:=(sT p.1,p.2)) (aD sT e)).trans (EO e).symm
  ·exact (EP (p:=(sT p.1,p.2)) fun q=>e (vR hk.1 hn q)).trans ((ih hk.2).trans (EP e).symm)
theorem DR.M4 {r:List (Nat × Value)} {ls:List (Nat × V)} (h:DR w γ r ls) (k:∀p∈ls,p.1<30):∀p∈r,p.1<30:=by
 induction h with
 | nil=>exact fun p hp=>absurd hp cS
 | cons _ _ ih=>exact cc.mpr ⟨(cc.mp k).1,ih (cc.mp k).2⟩
theorem Td (hs:il slice):B2 aab w A hT l (subscriptTail value slice) .idxS:=⟨fun {γ g s σ Q Qc Ec v u V U} S H hv hu h k=>hv.iS h fun i a ha h=>hu.qX h fun n t hn h=>Nc h fun ls x hb hx q=>by
 refine jw (H.dS S ha hb) fun o kvs e h1 h3 h2 D=> ?_
 exact ((h2.look n).1 x hx).elim fun y h=>tail_any D.mapOf.typeIs slot_dict_getitem.lookup (wpAny_getItem_of (strKind_is aab w (sT n) t) D.mapOf ((zQ (h2.M4 h3) hn).trans h.1) (k.tok S H _ h.2 q)) (hs _ _)⟩
end
section
variable {aab:Program} {w:World} {M:Model} {A:Around} {hT:Heap} {l:List Env} {γ aj:Ga} {g g':GH} {s s':Shared} {σ:St} {Q:PV} {Qc:Value→Shared→Prop} {Ec:Value→Shared→Prop} {v u:Value} {vA uA:V} {ex:Bool} {value slice:Expr} {env:Env} {pos p:Pos}
theorem f6.mk' {σ:St} {o:Ob}:f6 σ {σ with objs:=σ.objs++[o]} σ.objs.length o:=⟨rfl,rfl,rfl⟩
theorem Ct.new (T:Tp (KK w) hT) (S:At hT l g s.heap) (H:HP aab w hT γ σ g) {o:Obj} {ob:Ob} {t:Nat} (q:alloc σ ob Q) (k:Ct aab w hT l γ g s Q Qc) (h:OR aab w (γ.cw s.heap.objs.size) ob o) (hf:o.isFreed=false) :
  Qc (.ref s.heap.objs.size) {s with heap:=s.heap.push o,toks:=t}:=by
 obtain ⟨G,H'⟩:=Go.Xw (t:=t) T S H h hf
 refine k _ _ _ _ _ _ G H' (.ob (i:=σ.objs.length) ?_) (q _ _ f6.mk')
 show (γ.o++[s.heap.objs.size])[σ.objs.length]?=_
 rw [←H.len];simp
noncomputable def Ei (a b c:Value):Obj:={ cls:=.type "slice",data:=.fields #[a,b,c] }
theorem UM {lo up st:Option Expr} {Q:Value→Shared→Prop}
  (h:wpAny M A (eval value env) (fun o s₁=>wpAny M A (evalPart lo env) (fun a aG=>wpAny M A (evalPart up env) (fun b bP=>wpAny M A (evalPart st env) (fun c jV=>wpAny M A (subscriptTail value (.Slice lo up st p) o (.ref jV.heap.objs.size)) Q Ec {jV with heap:=jV.heap.push (Ei a b c)}) Ec bP) Ec aG) Ec s₁) Ec s) :
  wpAny M A (eval (.Subscript value (.Slice lo up st p) pos) env) Q Ec s:=
 JR (dW h (fun o s₁ aA=>wpAny_Slice aA) fun O O x=>x)
theorem Cf (h:IntsAre xs ns):ao w γ xs (ns.map V.num):=by
 induction h with
 | nil=>exact .nil
 | cons n t _ ih=>exact .cons Num.rel ih
@[elab_as_elim] theorem HP.alts {K1:List Int→Prop} {K2:Nat→Prop} {P:Value→Prop} (hv:aq w γ v vA) (H:HP aab w hT γ σ g) (S:At hT l g s.heap) (h:alt vA.YA K1 (opt vA.eM K2)) (k1:∀ns a xs,ao w γ xs (ns.map V.num)→s.heap.IsList a xs.toArray→K1 ns→P (.ref a)) (k2:∀i a,γ.o[i]?=some a→K2 i→P (.ref a)):P v:=by
 cases vA with
 | ob i=>exact aq.iS hv h k2
 | sc ns=>exact bQ hv fun a h0=>h0.elim fun o h0=>h0.elim fun xs h0=>h0.elim fun n h0=>h0.1▸k1 ns a xs (Cf h0.2.2.2.2) ⟨o,S.a5 _ _ (H.fz _ h0.2.1).1,h0.2.2.1,n,h0.2.2.2.1⟩ h
 | _=>exact h.elim
theorem Vi {lo up st:Option Expr} {ad:Addr} {xs:List Value} {ls ls':List V} {a b c:Value} {x y z:Option Int} (T:Tp (KK w) hT) (S:At hT l g s.heap) (H:HP aab w hT γ σ g) (L0:s.heap.IsList ad xs.toArray) (bx:ao w γ xs ls) (hz:ls.length<1000000)
  (pa:IsPart a x) (pb:IsPart b y) (pc:IsPart c z) (hz0:z≠some 0) (hp:∀xs,ao w γ xs ls→∃ys:List Value,slicePick xs.toArray x y z=ys.toArray∧ao w γ ys ls') (q:alloc σ (.lst ls') Q) (k:Ct aab w hT l γ g s Q Qc) :
  wpAny (model aab w) A (subscriptTail value (.Slice lo up st p) (.ref ad) (.ref s.heap.objs.size)) Qc Ec {s with heap:=s.heap.push (Ei a b c)}:=by
 refine bc (hp xs bx) fun ys FW hr=> ?_
 have hl:=bx.length
 obtain ⟨G,H', -, -⟩:=Go.tA (t:=s.toks) S H (Ei a b c) rfl
 have L':(s.heap.push (Ei a b c)).IsList ad xs.toArray:=let ⟨o,e,x⟩:=L0;⟨o,bG _ e,x⟩
 have fin:wpAny (model aab w) A (getItem (.ref ad) (.ref s.heap.objs.size)) Qc Ec {s with heap:=s.heap.push (Ei a b c)}:=by
  refine wpAny_getItem_list_slice L' (Heap.IsSliceOf.new ..) pa pb pc hz0 ?_ (by rw [iR,hl,gM];lia)
  rw [FW]
  exact Ct.new (s:={s with heap:=s.heap.push (Ei a b c)}) T G.at_ H' q (k.trans G) (.lst (hr.up (γ.bf _))) rfl
 cases st with
 | none=>exact tail_any (ops:=[_,_]) L'.typeIs slot_list_getitem.lookup fin rfl
 | some st=>exact tail_any (ops:=[_,_]) L'.typeIs slot_list_getitem.lookup fin rfl
theorem Tw {up:Expr} (T:Tp (KK w) hT) (S:At hT l g s.heap) (H:HP aab w hT γ σ g) (hv:aq w γ v vA) (hu:aq w γ u uA) (h:q2 .ng vA uA Q σ) (k:Ct aab w hT l γ g s Q Qc) :
  wpAny (model aab w) A (subscriptTail value (.Slice none (some up) none p) v (.ref s.heap.objs.size)) Qc Ec {s with heap:=s.heap.push (Ei .none u .none)}:=by
 have fin:∀ {a:Addr} {xs:List Value} {ls:List V} {n:Int} {t:Tok},ao w γ xs ls→s.heap.IsList a xs.toArray→ls.length<1000000→0≤n→nw σ (.lst (ls.take n.toNat)) Q→wpAny (model aab w) A (subscriptTail value (.Slice none (some up) none p) (.ref a) (.ref s.heap.objs.size)) Qc Ec {s with heap:=s.heap.push (Ei .none (.int n t) .none)}:=fun {a xs ls n t} bx L hz h0 q=>by
  obtain ⟨n,rfl⟩:=pA h0
  exact Vi T S H L bx hz .none (.int _ _) .none nofun (fun xs bx=>⟨_,by rw [slicePick_upto',Fo],bx.take _⟩) (jS q) k
 refine HP.alts hv H S h (fun ns a xs bx L h=>hu.b7 h fun n t h=> ?_) fun i a ha h=>hu.b7 h fun n t h=> ?_
 ·exact fin bx L (by rw [cL];exact (dD h).2.2) (dD h).1 (eO h)
 ·exact H.kL S ha h fun ls xs m O hz O bx L q=>fin bx L hz (dD q).1 (eO q)
theorem Iy {lo:Expr} (T:Tp (KK w) hT) (S:At hT l g s.heap) (H:HP aab w hT γ σ g) (hv:aq w γ v vA) (hu:aq w γ u uA) (h:q2 .slDrop vA uA Q σ) (k:Ct aab w hT l γ g s Q Qc) :
  wpAny (model aab w) A (subscriptTail value (.Slice (some lo) none none p) v (.ref s.heap.objs.size)) Qc Ec {s with heap:=s.heap.push (Ei u .none .none)}:=
 hv.iS h fun i a ha h=>hu.b7 h fun n t h=>H.kL S ha (dH h) fun ls xs m O hz O bx L q=>
  (beq_iff_eq.mp (dG h)).symm▸Vi T S H L bx hz (.int ((1:Nat):Int) t) .none .none nofun (fun xs bx=>⟨_,by rw [slicePick_from'],bx.drop _⟩) (jS q) k
theorem Oc {lo:Expr} {t:Tok} (T:Tp (KK w) hT) (S:At hT l g s.heap) (H:HP aab w hT γ σ g) (hv:aq w γ v vA) (h:q1 .slRev vA Q σ) (k:Ct aab w hT l γ g s Q Qc) :
  wpAny (model aab w) A (subscriptTail value (.Slice none none (some lo) p) v (.ref s.heap.objs.size)) Qc Ec {s with heap:=s.heap.push (Ei .none .none (.int (-1) t))}:=
 hv.iS h fun i a ha h=>H.kL S ha h fun ls xs m O hz O bx L q=>
  Vi T S H L bx hz .none .none (.int _ _) (by decide) (fun xs bx=>⟨_,krv_pick _,by simpa using bx.rev⟩) (jS q) k
theorem Iz (T:Tp (KK w) hT) (S:At hT l g s.heap) (H:HP aab w hT γ σ g) (hv:aq w γ v vA) (h:q1 .slInit vA Q σ) (k:Ct aab w hT l γ g s Q Qc) :
  wpAny (model aab w) A (subscriptTail value (.Slice none (some up) none p) v (.ref s.heap.objs.size)) Qc Ec {s with heap:=s.heap.push (Ei .none (.int (-1) t) .none)}:=
 hv.iS h fun i a ha h=>H.kL S ha h fun ls xs m O hz O bx L q=>
  Vi T S H L bx hz .none (.int (-((1:Nat):Int)) t) .none nofun (fun xs bx=>⟨_,slicePick_butLast _ 1 (bz _),by rw [List.dropLast_eq_take,←bx.length];simpa using bx.take _⟩) (jS q) k
theorem XM:B2 aab w A hT l (binaryOp .Add) .add:=⟨fun S H hv hu h k=>hv.b7 h fun n t h=>hu.b7 h fun m t' h=>P.add_int (k.tok S H _ Num.rel h)⟩
theorem Yu:B2 aab w A hT l (binaryOp .Sub) .sub:=⟨fun S H hv hu h k=>hv.b7 h fun n t h=>hu.b7 h fun m t' h=>P.sub_int (k.tok S H _ Num.rel h)⟩
theorem Yn:B2 aab w A hT l (binaryOp .Mult) .mul:=⟨fun S H hv hu h k=>hv.b7 h fun n t h=>hu.b7 h fun m t' h=>P.mul_int (k.tok S H _ Num.rel (eO h)) (dD h)⟩
theorem Yl:B2 aab w A hT l (binaryOp .Mod) .mod:=⟨fun S H hv hu h k=>hv.b7 h fun n t h=>hu.b7 h fun m t' h=>
 AutoIntOps.mod_1 (by have:=dD h;simp;lia) (Int.fmod_eq_emod_of_nonneg n (Int.le_of_lt (dD h))▸k.tok S H _ Num.rel (eO h))⟩
theorem XT:B2 aab w A hT l (binaryOp .FloorDiv) .fdiv:=⟨fun S H hv hu h k=>hv.b7 h fun n t h=>hu.b7 h fun m t' h=>
 AutoIntOps.floordiv_1 (by have:=dD h;simp;lia) (by have:=dD h;rw [PyProof.noPylong_small (by lia)];simp) (Int.fdiv_eq_ediv_of_nonneg n (Int.le_of_lt (dD h).1)▸k.tok S H _ Num.rel (eO h))⟩
theorem Yr:B1 aab w A hT l (unaryOp .USub) .neg:=⟨fun S H hv h k=>hv.b7 h fun n t h=>P.neg_int (k.tok S H _ Num.rel h)⟩
theorem XK:B1 aab w A hT l (fun v=>call (.builtin "abs") [v]) .abs:=⟨fun S H hv h k=>hv.b7 h fun n t h=>call_abs_int fun u tk=>k.tok S H _ Num.rel h⟩
theorem Tf:B1 aab w A hT l (fun v=>call (.type "int") [v]) .intb:=⟨fun S H hv h k=>hv.x8 h fun b h=>call_int_bool (k.tok S H _ (by cases b <;> exact Num.rel) h)⟩
theorem Yk (hh:A.handled=none):B2 aab w A hT l (fun v u=>call (.builtin "max") [v,u]) .max:=⟨fun S H hv hu h k=>hv.b7 h fun n t h=>hu.b7 h fun m t' h=>max_two_ints hh fun h' tk kp=>k.keep S H kp (vA:=.num (max n m)) (by
 split
 ·rw [show max n m=m from by lia];exact Num.rel
 ·rw [show max n m=n from by lia];exact Num.rel) h⟩
theorem Ek {n k:Nat} (e:n=k) (h:k<1000000):(n:Int)<2 ^ 63:=e▸ub (nC.mpr h) (by decide)
theorem Yi:B1 aab w A hT l (fun v=>call (.builtin "len") [v]) .len:=⟨fun {γ g s σ Q Qc Ec v V} S H hv h k=>by
 have fin:∀ {a:Addr} {xs:List Value} {ls:List Mine.V} {n:Nat},ao w γ xs ls→s.heap.IsList a xs.toArray→ls.length=n→n<1000000→Q (.num n) σ→wpAny (model aab w) A (call (.builtin "len") [.ref a]) Qc Ec s:=fun {a xs ls n} bx L e hz q=>
  have hl:xs.toArray.size=n:=bx.length.trans e
  call_len_list L (Ek hl hz) (hl.symm▸k.tok S H _ Num.rel q)
 exact HP.alts hv H S h (fun ns a xs bx L h=>fin bx L (cL _) (dD h) (eO h)) fun i a ha h=>H.kL S ha h fun ls xs m O hz O bx L q=>fin bx L rfl hz q⟩
theorem zL {o:Op} {op:CmpOp} {f:Int→Int→Bool} (ho:∀ {a b Q σ},q2 o a b Q σ→F7 Q σ (fun n m=>.bool (f n m)) a b)
  (r:∀ {s n m t t' Ec} {Q':Value→Shared→Prop},Q' (.bool (f n m)) s→wpAny (model aab w) A (compareOp op (.int n t) (.int m t')) Q' Ec s):B2 aab w A hT l (compareOp op) o:=
 ⟨fun S H hv hu h k=>hv.b7 (ho h) fun n t h=>hu.b7 h fun m t' h=>r (k.now S H .bool h)⟩
theorem gY (x y:Nat) (hx:x<30) (hy:y<30):(sT x == sT y)=decide (x=y):=by
 by_cases e:x=y
 ·rw [hM e,e];exact iN _
 ·rw [jY e,OM]
  exact fun q=>e (vR hx hy q)
theorem XX:B2 aab w A hT l (compareOp .Eq) .eqS:=⟨fun S H hv hu h k=>hv.qX h fun x t hx h=>hu.qX h fun y t' hy h=>eq_str ((gY x y hx hy).symm▸k.now S H .bool h)⟩
theorem I2 (x y:Nat) (hx:x<30) (hy:y<30):(sT x != sT y)=decide (x≠y):=by rw [bne,gY x y hx hy];simp
theorem Yp:B2 aab w A hT l (compareOp .NotEq) .neS:=⟨fun S H hv hu h k=>hv.qX h fun x t hx h=>hu.qX h fun y t' hy h=>ne_str ((I2 x y hx hy).symm▸k.now S H .bool h)⟩
noncomputable def vN:Value→Bool | .none=>true | _=>false
theorem VR.uS {p:Pl} {a:AV} (h:VR p v a):vN v=false:=by induction h <;> rfl
theorem aq.uS (h:aq w γ v vA):vN v=vA.isNone:=by
 cases vA with
 | av=>exact VR.uS h
 | none=>exact (show v=_ from h)▸rfl
 | bool=>exact (show v=_ from h)▸rfl
 | fn=>exact And.left h▸rfl
 | str=>exact bQ h fun O h=>h.1▸rfl
 | ob=>exact bQ h fun O h=>h.1▸rfl
 | lv=>exact bQ h fun O h=>h.elim fun O h=>h.1▸rfl
 | tk=>exact bQ h fun O h=>h.elim fun O h=>h.1▸rfl
 | ll=>exact bQ h fun O h=>h.elim fun O h=>h.1▸rfl
 | lq=>exact bQ h fun O h=>h.elim fun O h=>h.1▸rfl
 | sc=>exact bQ h fun O h=>h.elim fun O h=>h.elim fun O h=>h.elim fun O h=>h.1▸rfl
theorem Up (e:vN v=true):v= .none:=by cases v <;> first | rfl | cases e
theorem Uo (e:vN v=false):v≠ .none:=fun h=>by rw [h] at e;cases e
theorem M1 {Q:Value→Shared→Prop} (h:Q (.bool (vN v)) s):wpAny (model aab w) A (compareOp .Is v .none) Q Ec s:=by
 cases e:vN v with
 | true=>rw [Up e] at h ⊢;exact aJ (bR (bR h))
 | false=>rw [e] at h;exact is_none_ne (Uo e) h
theorem Hw {Q:Value→Shared→Prop} (h:Q (.bool (!vN v)) s):wpAny (model aab w) A (compareOp .IsNot v .none) Q Ec s:=by
 cases e:vN v with
 | true=>rw [Up e] at h ⊢;exact aJ (bR (bR h))
 | false=>rw [e] at h;exact isnot_none_ne (Uo e) h
theorem Yh:B2 aab w A hT l (compareOp .Is) .uS:=⟨fun S H hv hu h k=>hu.tH h fun q=>M1 (hv.uS.symm▸k.now S H .bool q)⟩
theorem Tj:B2 aab w A hT l (compareOp .IsNot) .isnN:=⟨fun S H hv hu h k=>hu.tH h fun q=>Hw (hv.uS.symm▸k.now S H .bool q)⟩
theorem Yg:B2 aab w A hT l (compareOp .Is) .Pe:=⟨fun S H hv hu h k=>hu.FX h fun y hy h=>hv.tH h fun q=>by induction hy <;> exact aJ (bR (bR (k.now S H .bool q)))⟩
theorem Ti:B2 aab w A hT l (compareOp .IsNot) .isnF:=⟨fun S H hv hu h k=>hu.FX h fun y hy h=>hv.tH h fun q=>by induction hy <;> exact aJ (bR (bR (k.now S H .bool q)))⟩
end
section
variable {aab:Program} {w:World} {M:Model} {A:Around} {hT:Heap} {l:List Env} {γ aj:Ga} {g g':GH} {s s':Shared} {σ:St} {Q:PV} {Qc:Value→Shared→Prop} {Ec:Value→Shared→Prop} {v u:Value} {vA uA:V} {env:Env} {pos p:Pos}
theorem qZ {pl:Pl} {c:Cells} {a b:AV} {Q:Bool→Shared→Prop} (S:At hT l g s.heap) (T:Tp (KK w) hT) (C:CS hT w.params g pl c) (h1:VR pl v a) (h2:VR pl u b) (hn:a.isNum=false∨b.isNum=false) (h:Q (decide (a=b)) s) :
  wpAny M A (isSame v u) Q Ec s:=by
 have X:=T.nL S.a8
 have JA:∀ {i:Nat} {q:Addr × Addr},pl[i]?=some q→s.heap.get? q.1=some (instObj 82 q.2):=fun hp=>by
  obtain ⟨ab,hc⟩:=C.has hp
  exact S.a5 _ _ (C.at_ _ _ _ hp hc).1
 refine jX (gF X) fun d od I0=> ?_
 have inj:∀ {i j:Nat} {q r:Addr × Addr},pl[i]?=some q→pl[j]?=some r→q.1=r.1→i=j:=fun {i j q r} hi hj e=>by
  have oQ:(pl.map (·.1))[i]?=some q.1:=by rw [gp,hi];rfl
  have hj':(pl.map (·.1))[j]?=some q.1:=by rw [gp,hj,e];rfl
  exact jP C.nd oQ hj'
 have Si:∀ {i:Nat} {q:Addr × Addr},pl[i]?=some q→q.1≠64:=fun hp=>(C.new _ (bL hp)).2.2
 induction h1 with
 | nil=>induction h2 with
  | nil=>exact jr I0.at_ I0.at_ rfl (h)
  | num=>exact bR (by rw [show decide _=false from by simp] at h;exact h)
  | cell hp=>refine jr I0.at_ (JA hp) rfl ?_;rw [jY fun e=>Si hp e.symm];simpa using h
 | num=>induction h2 with
  | nil=>exact bR (by rw [show decide _=false from by simp] at h;exact h)
  | num=>rcases hn with q | q <;> cases q
  | cell hp=>exact bR (by rw [show decide _=false from by simp] at h;exact h)
 | @cell i q hp=>induction h2 with
  | nil=>refine jr (JA hp) I0.at_ rfl ?_;rw [jY fun e=>Si hp e];simpa using h
  | num=>exact bR (by rw [show decide _=false from by simp] at h;exact h)
  | @cell j r hr=>
   refine jr (JA hp) (JA hr) rfl ?_
   by_cases e:i=j
   ·subst e
    cases (hp).symm.trans hr
    simpa using h
   ·rw [jY fun q=>e (inj hp hr q)]
    rw [jY (by intro q;cases q;exact e rfl)] at h
    exact h
theorem Ye (T:Tp (KK w) hT):B2 aab w A hT l (compareOp .Is) .isA:=⟨fun S H hv hu h k=>hv.FX h fun x hx h=>hu.FX h fun y hy h=>aJ (qZ S T H.cs hx hy (dD h) (bR (k.now S H .bool (eO h))))⟩
theorem Th (T:Tp (KK w) hT):B2 aab w A hT l (compareOp .IsNot) .isnA:=⟨fun S H hv hu h k=>hv.FX h fun x hx h=>hu.FX h fun y hy h=>aJ (qZ S T H.cs hx hy (dD h) (bR (k.now S H .bool (eO h))))⟩
noncomputable def pN (ks:List Nat) (es:List Expr):Bool:=List.rec (motive:=fun O=>List Expr→Bool) (fun es=>es.isEmpty) (fun k O ih es=>List.casesOn (motive:=fun O=>Bool) es false fun e r=>decide (k<30) && (fW e (.str (sT k)) && ih r)) ks es
inductive fE:List Nat→List Value→Prop
 | nil:fE [] []
 | cons {k t ks vs}:k<30→fE ks vs→fE (k::ks) (.str (sT k) t::vs)
theorem fE.len {ks vs} (h:fE ks vs):vs.length=ks.length:=by induction h <;> simp_all
theorem GV:∀ {es:List Expr} {s:Shared} {Q:List Value→Shared→Prop},pN ks es=true→(∀vs t,fE ks vs→Q vs {s with toks:=t})→Ev M A env Ec es Q s:=by
 induction ks with
 | nil=>
  intro es s Q h k
  cases es with
  | nil=>exact k [] s.toks .nil
  | cons=>cases h
 | cons n ks ih=>
  intro es s Q h k
  cases es with
  | nil=>cases h
  | cons e es=>exact bp (dn (ae (aa h)) fun O O=>mI fun t t'=>ih (aa (aa h)) fun vs TV hv=>k _ TV (.cons (f3 (ae h)) hv))
theorem pO:∀ {es:List Expr},pN ks es=true→es.all aQ=true:=by
 induction ks with
 | nil=>
  intro es h
  cases es with
  | nil=>rfl
  | cons=>cases h
 | cons n ks ih=>
  intro es h
  cases es with
  | nil=>cases h
  | cons e es=>exact dn (P:=fun e=>(e::es).all aQ=true) (ae (aa h)) fun O O=>(ih (aa (aa h)):es.all aQ=true)
theorem VX (a b:Nat):decide (a=b)=(b == a):=by
 by_cases e:b=a
 ·subst e;simp
 ·rw [jY (nG e),beq_eq_false_iff_ne.mpr e]
theorem fE.any {ks vs} (h:fE ks vs) {x:Nat} (hx:x<30) {t:Tok}:vs.any (fun y=>match y with | .str z _=>z == sT x | _=>false)=ks.contains x:=by
 induction h with
 | nil=>rfl
 | cons hk _ ih=>
  simp only [List.any_cons,Fp,ih,gY _ _ hk hx]
  rw [VX]
theorem fE.mem {ks vs} (h:fE ks vs) {y:Value}:y∈vs→∃z u,y= .str z u:=by
 induction h with
 | nil=>exact fun h=>absurd h cS
 | cons _ _ ih=>exact fun h=>(cF.mp h).elim (fun e=>⟨_,_,e⟩) ih
theorem Kf {ks:List Nat} {vs:List Value} {x a:Nat} {t:Tok} (dR:fE ks vs) (hx:x<30) (L:IsTup s.heap a vs.toArray) (h:Qc (.bool (ks.contains x)) s):wpAny (model aab w) A (compareOp .In (.str (sT x) t) (.ref a)) Qc Ec s:=by
 refine SeqAt.in_tupleAt (fun y=>match y with | .str z _=>z == sT x | _=>false) (items:=vs.toArray) L (fun y hy=> ?_) ?_
 ·obtain ⟨z,u',rfl⟩:=dR.mem (by simpa using hy)
  exact (eqGives_str _ _ _ _).at _ _
 ·rw [List.any_toArray,dR.any hx (t:=t)];exact h
theorem Yc {ks:List Nat} {es:List Expr} {n:Nat} (S:At hT l g s.heap) (H:HP aab w hT γ σ g) (hc:pN ks es=true) (hz:ks.length<1000) (hv:aq w γ v vA) (h:q1 (.bH ks) vA Q σ) (k:Ct aab w hT l γ g s Q Qc) :
  wpAny (model aab w) A (eval (.Tuple es n tp) env) (fun u aG=>wpAny (model aab w) A (compareOp .In v u) Qc Ec aG) Ec s:=by
 refine lH (pO hc) (GV hc fun vs t' dR=> ?_)
 refine nB ?_ (by show vs.toArray.size≤sizeLine;rw [iR,dR.len,gM];lia)
 obtain ⟨G,H', -, -⟩:=Go.tA (t:=t') S H (dz vs 0) rfl
 exact hv.qX h fun x t hx h=>Kf dR hx ⟨_,nH _ rfl,rfl,0,rfl⟩ (k _ _ _ _ _ _ G H' .bool (dH h))
theorem KD {α β:Type} {x:Option α} {f:α→β} {y:β} (h:x.map f=some y) {P:β→Prop} (k:∀a,x=some a→P (f a)):P y:=by
 cases x with
 | none=>cases h
 | some a=>exact cH h▸k a rfl
theorem ao.strs {γ:Ga} {l:List Mine.V} {xs:List Value} (h:ao w γ xs l):∀ {ks:List Nat},strsOf l=some ks→fE ks xs:=by
 induction h with
 | nil=>exact fun e=>cH e▸.nil
 | @cons v a vs as hv _ ih=>
  cases a with
  | str k=>exact fun e=>bQ hv fun t h=>h.1▸KD (P:=fun ks=>fE ks (.str (sT k) t::vs)) e fun ks e=>.cons h.2 (ih e)
  | _=>exact fun e=>nomatch e
theorem Yd:B2 aab w A hT l (compareOp .In) .inT:=⟨fun S H hv hu h k=>hv.qX h fun x t hx h=>hu.iS h fun i a ha h=>M9 h fun ls ks hb WG q=>
 (H.tup S ha hb).elim fun xs h=>h.elim fun m h=>Kf (h.2.1.strs WG) hx h.2.2 (k.now S H .bool q)⟩
theorem DR.isSome {K:Type} [DecidableEq K] {r:List (K × Value)} {ls:List (K × Mine.V)} (h:DR w γ r ls) (k:K):(valueAt r k).isSome=(ls.lookup k).isSome:=by
 cases e:ls.lookup k with
 | none=>rw [(h.look k).2 e];rfl
 | some x=>obtain ⟨v,h1,_⟩:=(h.look k).1 x e;rw [h1];rfl
theorem HP.lo (H:HP aab w hT γ σ g) {i:Nat} {a:Addr} (ha:γ.o[i]?=some a):(a == sysModules)=false:=(H.new a (bL ha)).2
theorem Yb:B2 aab w A hT l (compareOp .In) .inD:=⟨fun S H hv hu h k=>hv.b7 h fun n t h=>hu.iS h fun i a ha h=>CO h fun ls hb q=>H.kI S ha hb fun o kvs e h1 h2 D=>
 wpAny_in_of (E6 aab w n t) (H.lo ha) D.mapOf (h2.isSome n▸k.tok S H _ .bool q)⟩
theorem Ts:B2 aab w A hT l (compareOp .NotIn) .ninD:=⟨fun S H hv hu h k=>hv.b7 h fun n t h=>hu.iS h fun i a ha h=>CO h fun ls hb q=>H.kI S ha hb fun o kvs e h1 h2 D=>
 wpAny_notIn_of (E6 aab w n t) (H.lo ha) D.mapOf (h2.isSome n▸k.tok S H _ .bool q)⟩
theorem ao.bools {xs:List Value} (h:ao w γ xs ls):∀ {bs:List Bool},boolsOf ls=some bs→xs=bs.map Value.bool:=by
 induction h with
 | nil=>exact fun e=>cH e▸rfl
 | @cons v a vs as hv _ ih=>
  cases a with
  | bool k=>exact fun e=>KD (P:=fun bs=>v::vs=bs.map Value.bool) e fun bs e=>by rw [ih e,show v= .bool k from hv];rfl
  | _=>exact fun e=>nomatch e
theorem y5 (bs:List Bool):(bs.map Value.bool).any (fun y=>match y with | .bool z=>z == true | _=>false)=bs.contains true:=by
 induction bs with
 | nil=>rfl
 | cons b r ih=>simp only [dh,List.any_cons,Fp,ih];cases b <;> rfl
theorem Ya (Aj:A.units+64<cLine):B2 aab w A hT l (compareOp .In) .inB:=⟨fun {γ g s σ Q Qc Ec v u V U} S H hv hu h k=>hv.x8 h fun t h=>hu.iS h fun i a ha h=>by
 have WX:A.in1.units+min (PyData.bool true).depth (PyData.bool true).depth<cLine:=cY (dA (by decide:1≤64) _) Aj
 obtain rfl:t=true:=dG h
 refine RK (dH h) fun ls bs hb O Wj q=> ?_
 refine bX (H.lst S ha hb) fun xs m e bx e' L=> ?_
 rw [bx.bools Wj] at L
 refine SeqAt.in_listAt (fun y=>match y with | .bool z=>z == true | _=>false) L (fun y hy=> ?_) ?_
 ·obtain ⟨b,_,rfl⟩:=dC.mp (show y∈bs.map Value.bool by simpa using hy)
  exact SeqAt.eqAt_reads (.bool b) (.bool true) A.in1 s _ _ _ _ (.bool b) (.bool true) rfl rfl WX
 ·rw [List.any_toArray,y5]
  exact k.now S H .bool q⟩
theorem zx {C:Addr} {a:AV} {Q:Value→Shared→Prop} {pl:Pl} (T:Tp (KK w) hT) (S:At hT l g s.heap) (hv:VR pl v a) (ha:a.aE=false) (h1:kin_not (KK w) 58 C=true) (h2:isNotIn (KK w) "int" C=true)
  (h:∀t',Q (.bool false) { s with toks:=t' }):wpAny (model aab w) A (call (.builtin "isinstance") [v,.ref C]) Q Ec s:=by
 have X:=T.nL S.a8
 induction hv with
 | nil=>
  refine jX (gF X) fun d od I=> ?_
  exact kin_callC X I h1 qR qQ qP gR jF lN (h _)
 | num=>exact isn_call (P:=fun O=>True) X (fun M=>yC rfl) h2 (by intro e;cases e) trivial int_cls (h _)
 | cell=>cases ha
theorem NJ (w:World):∀C∈[125,146,104,181],kin_not (KK w) 58 C=true∧isNotIn (KK w) "int" C=true:=by
 intro C hC
 simp only [cF,cS,or_false] at hC
 rcases hC with rfl | rfl | rfl | rfl <;> exact ⟨by kernel_rfl,by kernel_rfl⟩
theorem Yf (T:Tp (KK w) hT):B2 aab w A hT l (fun v u=>call (.builtin "isinstance") [v,u]) .lu:=⟨fun {γ g s σ Q Qc Ec v u V U} S H hv hu h k=>hv.FX h fun x hx h=>hu.oFn h fun C h=>by
 cases e:C == 82 with
 | true=>
  rw [e] at h
  exact (beq_iff_eq.mp e).symm▸Cy T S.a5 S.base H.cs hx fun t'=>k.tok S H _ .bool h
 | false=>
  rw [e] at h
  have h0:=dG h
  have hc:=NJ w C (yG.mp (ae h0))
  exact zx T S hx ((Fj _).mp (aa h0)) hc.1 hc.2 fun t'=>k.tok S H _ .bool (dH h)⟩
theorem Oa (T:Tp (KK w) hT):B1 aab w A hT l (fun v=>call (.builtin "isinstance") [v,.type "int"]) .isInt:=⟨fun S H hv h k=>hv.FX h fun x hx h=>Hv T S.a5 S.base H.cs hx fun t'=>k.tok S H _ .bool h⟩
theorem Iw (T:Tp (KK w) hT):B1 aab w A hT l (fun v=>call (.builtin "isinstance") [v,.type "bool"]) .isBool:=⟨fun S H hv h k=>hv.FX h fun x hx h=>Cz T S.a5 S.base H.cs hx fun t'=>k.tok S H _ .bool h⟩
end
section
variable {aab:Program} {w:World} {M:Model} {A:Around} {hT:Heap} {l:List Env} {γ aj:Ga} {g g':GH} {s s':Shared} {σ:St} {Q:PV} {Qc:Value→Shared→Prop} {Ec:Value→Shared→Prop} {v u:Value} {vA uA:V} {env:Env} {pos p:Pos}
noncomputable def KA:AV→PyData
 | .nil=>.tuple [.str (sT 2)]
 | .num n=>.tuple [.str (sT 1),.int n]
 | .cell i=>.tuple [.str (sT 0),.int i]
theorem Ld (h:k<30):PyData.strOk (sT k)=true:=by
 have:=iQ.mp (show (List.range 30).all (fun k=>PyData.strOk (sT k))=true from by decide +kernel) k (pz.mpr h)
 exact this
theorem fN (x:AV):SeqAt.shaped (KA x)=true:=by
 cases x <;> simp [KA,SeqAt.shaped,PyData.canLay0,PyData.canLayAll0,PyData.depth,PyData.depthAll,Ld]
theorem Tz (hi:i<30) (hj:j<30) (h:i≠j):(sT i == sT j)=false:=by rw [gY i j hi hj];simpa using h
theorem xU (x y:AV):PyData.eqv (KA x) (KA y)=decide (x=y):=by
 cases x <;> cases y <;> simp [KA,PyData.eqv,PyData.eqvAll,Tz]
 ·rw [Bool.eq_iff_iff];simp
 ·rw [Bool.eq_iff_iff];simp;lia
theorem HP.Vd (H:HP aab w hT γ σ g) (S:At hT l g s.heap) (ht:OU x o) (hf:(a,o)∈γ.fz):Reads s.heap (.ref a) (KA x) []:=by
 have e:=H.GX S hf
 cases x with
 | nil=>exact ht.elim fun O h=>h.elim fun O h=>reads_tuple_at (h▸e) rfl rfl (.cons (as:=[]) (bs:=[]) (.str _ _) .nil)
 | num=>exact ht.elim fun O h=>h.elim fun O h=>h.elim fun O h=>reads_tuple_at (h▸e) rfl rfl (.cons (as:=[]) (bs:=[]) (.str _ _) (.cons (as:=[]) (bs:=[]) (.int _ _) .nil))
 | cell=>exact ht.elim fun O h=>h.elim fun O h=>h.elim fun O h=>reads_tuple_at (h▸e) rfl rfl (.cons (as:=[]) (bs:=[]) (.str _ _) (.cons (as:=[]) (bs:=[]) (.int _ _) .nil))
theorem XY (Aj:A.units+64<cLine):B2 aab w A hT l (compareOp .Eq) .eqV:=⟨fun S H hv hu h k=>hv.Pm h fun x a o ht hf h=>hu.Pm h fun y b o' MW Ww h=>eq_dataH (H.Vd S ht hf) (H.Vd S MW Ww) (fN _) (fN _) Aj ((xU x y).symm▸k.now S H .bool h)⟩
theorem HY (x y:AV):(!PyData.eqv (KA x) (KA y))=decide (x≠y):=by rw [xU];simp
theorem Yq (Aj:A.units+64<cLine):B2 aab w A hT l (compareOp .NotEq) .neV:=⟨fun S H hv hu h k=>hv.Pm h fun x a o ht hf h=>hu.Pm h fun y b o' MW Ww h=>ne_dataH (H.Vd S ht hf) (H.Vd S MW Ww) (fN _) (fN _) Aj ((HY x y).symm▸k.now S H .bool h)⟩
theorem HP.emp {o:Op} {f:Bool→Bool} {op:CmpOp} (ho:∀ {a b Q σ},q2 o a b Q σ→opt a.eM fun i=>opt b.eM fun j=>gW σ j fun m=>bif m.isEmpty then gW σ i fun l=>Q (.bool (f l.isEmpty)) σ else False)
  (r:∀ {s a b m m'} {xs:List Value} {Q':Value→Shared→Prop} {Ec},s.heap.get? a=some (listOf xs.toArray m)→s.heap.get? b=some (listOf ([]:List Value).toArray m')→xs.length<1000000→Q' (.bool (f xs.isEmpty)) s→wpAny (model aab w) A (compareOp op (.ref a) (.ref b)) Q' Ec s):B2 aab w A hT l (compareOp op) o:=
 ⟨fun {γ g s σ Q Qc Ec v u V U} S H hv hu h k=>hv.iS (ho h) fun i a ha h=>hu.iS h fun j b hb h=>H.kL S hb h fun ms ys m' O O e' FW O h=>H.kL S ha (dH h) fun ls xs m O hz e bx O q=>by
  rw [fT.mp (dG h)] at FW
  have e2:=S.a5 _ _ e'
  rw [FW.nil_inv] at e2
  refine r (S.a5 _ _ e) e2 (bx.length▸hz) (k.now S H .bool ?_)
  rw [show xs.isEmpty=ls.isEmpty from by cases bx <;> rfl];exact q⟩
theorem XU (Aj:A.units+64<cLine):B2 aab w A hT l (compareOp .Eq) .eqE:=HP.emp (f:=fun b=>b) (fun h=>h) fun {s a b m m' xs Q' Ec} e e' hz q=>by
 cases xs with
 | nil=>exact SeqAt.eq_listAt (e:=fun O=>true) (mV e) (mV e') rfl (by lia) (fun j h1=>by simp at h1) (by simpa using q)
 | cons x r=>exact SeqAt.eq_list_lengthsAt (mV e) (mV e') (by simp) (by lia) q
theorem Yo (Aj:A.units+64<cLine):B2 aab w A hT l (compareOp .NotEq) .neE:=HP.emp (f:=not) (fun h=>h) fun {s a b m m' xs Q' Ec} e e' hz q=>by
 cases xs with
 | nil=>exact ne_dataH (reads_list_at e rfl rfl .nil) (reads_list_at e' rfl rfl .nil) rfl rfl Aj q
 | cons x r=>exact SeqAt.RcNeAt.lists_lengths (mV e) (mV e') (by simp) (by lia) _ _ _ _ q
theorem Jh (h:ao w γ xs [.str x,.str y]):∃t u,xs=[.str (sT x) t,.str (sT y) u]∧x<30∧y<30:=by
 obtain ⟨_,_,e1,⟨t,e2,h1⟩,h2⟩:=h.cons_inv
 obtain ⟨_,_,e3,⟨u,e4,h3⟩,h4⟩:=h2.cons_inv
 exact ⟨t,u,by rw [e1,e2,e3,e4,h4.nil_inv],h1,h3⟩
theorem kZ (hx:x<30) (hy:y<30):SeqAt.shaped (.list [.str (sT x),.str (sT y)])=true:=by
 simp [SeqAt.shaped,PyData.canLay0,PyData.canLayAll0,PyData.depth,PyData.depthAll,Ld, *]
theorem EC (hx:x<30) (hy:y<30) (sP:x'<30) (hy':y'<30):PyData.eqv (.list [.str (sT x),.str (sT y)]) (.list [.str (sT x'),.str (sT y')])=(decide (x=x') && decide (y=y')):=by
 simp only [PyData.eqv,PyData.eqvAll,Bool.and_true,gY x x' hx sP,gY y y' hy hy']
theorem HP.TU (H:HP aab w hT γ σ g) (S:At hT l g s.heap) (hv:aq w γ v (.ob i)) (hb:σ.objs[i]?=some (.lst [.str x,.str y])):(∃z,Reads s.heap v (.list [.str (sT x),.str (sT y)]) z)∧x<30∧y<30:=by
 refine bc hv fun a e ha=> ?_;clear hv
 obtain ⟨xs,m, -,bx,e', -⟩:=H.lst S ha hb
 refine fZ (Jh bx) fun t u e2 hx hy=> ?_
 rw [e2] at e'
 exact ⟨⟨_,e▸reads_list_at e' rfl rfl (.cons (as:=[]) (bs:=[]) (.str _ _) (.cons (as:=[]) (bs:=[]) (.str _ _) .nil))⟩,hx,hy⟩
theorem XW (Aj:A.units+64<cLine):B2 aab w A hT l (compareOp .Eq) .eqL:=⟨fun {γ g s σ Q Qc Ec v u V U} S H hv hu h k=>by
 refine t7 h fun i x y j x' y' e1 e2 hb hc q=> ?_;clear h
 have r1:=H.TU S (e1▸hv) hb
 have r2:=H.TU S (e2▸hu) hc
 exact r1.1.elim fun z1 d1=>r2.1.elim fun z2 d2=>eq_dataH d1 d2 (kZ r1.2.1 r1.2.2) (kZ r2.2.1 r2.2.2) Aj ((EC r1.2.1 r1.2.2 r2.2.1 r2.2.2).symm▸k.now S H .bool q)⟩
theorem ao.sz (h:ao w γ xs ls) (n:ls.length<1000):xs.toArray.size≤sizeLine:=by rw [iR,h.length,gM];lia
structure BN (aab:Program) (w:World) (A:Around) (hT:Heap) (l:List Env) (f:List Value→Sem Value) (K:List V→PV→St→Prop):Prop where
 go:∀ {γ g s σ Q Qc Ec vs Vs},At hT l g s.heap→HP aab w hT γ σ g→ao w γ vs Vs→K Vs Q σ→Ct aab w hT l γ g s Q Qc→wpAny (model aab w) A (f vs) Qc Ec s
theorem Yj (T:Tp (KK w) hT):BN aab w A hT l newList (fun vs Q σ=>bif vs.length<1000 then nw σ (.lst vs) Q else False):=⟨fun {γ g s σ Q Qc Ec vs Vs} S H hv h k=>
 nB (Ct.new (t:=s.toks) T S H (jS (dH h)) k (.lst (hv.up (γ.bf _))) rfl) (hv.sz (f3 (dG h)))⟩
theorem Yz (T:Tp (KK w) hT):BN aab w A hT l newTuple (fun vs Q σ=>bif vs.length<1000 then nw σ (.tup vs) Q else False):=⟨fun {γ g s σ Q Qc Ec vs Vs} S H hv h k=>
 nB (Ct.new (t:=s.toks) T S H (jS (dH h)) k (.tup (hv.up (γ.bf _))) rfl) (hv.sz (f3 (dG h)))⟩
theorem vL:¬ wO (dz xs n):=by
 rintro ⟨⟨t,ht,hm⟩,_⟩
 cases ht
 revert hm;decide
theorem Ct.lv (S:At hT l g s.heap) (H:HP aab w hT γ σ g) (q:Q (.lv a) σ) (k:Ct aab w hT l γ g s Q Qc) (h:OU a (dz xs 0)):Qc (.ref s.heap.objs.size) {s with heap:=s.heap.push (dz xs 0)}:=by
 obtain ⟨G,H'⟩:=Go.Sm (t:=s.toks) S H (dz xs 0) rfl vL
 exact k _ _ _ _ _ _ G H' (.lv (.head _) h) q
theorem Yw:BN aab w A hT l newTuple (fun vs Q σ=>SK Q σ vs):=⟨fun {γ g s σ Q Qc Ec vs Vs} S H hv h k=>by
 have fin:∀ {a:AV} {xs:List Value},Q (.lv a) σ→OU a (dz xs 0)→xs.length≤2→wpAny (model aab w) A (newTuple xs) Qc Ec s:=fun q h hz=>
  nB (Ct.lv S H q k h) (aN hz (by decide))
 cases hv with
 | nil=>exact h.elim
 | cons h1 hv=>cases hv with
  | nil=>exact h1.qX h fun n t O h=>beq_iff_eq.mp (dG h)▸fin (dH h) ⟨_,_,rfl⟩ (hX 1)
  | cons h2 hv=>cases hv with
   | nil=>
    refine h1.qX h fun n t O h=>h2.b7 h fun m u h=> ?_
    cases e:n == 0 with
    | true=>rw [e] at h;exact beq_iff_eq.mp e▸CP h fun i e q=>e▸fin q ⟨_,_,_,rfl⟩ (bz 2)
    | false=>rw [e] at h;exact beq_iff_eq.mp (dG h)▸fin (dH h) ⟨_,_,_,rfl⟩ (bz 2)
   | cons=>exact h.elim⟩
theorem XQ (T:Tp (KK w) hT):B2 aab w A hT l (binaryOp .Add) .cat:=⟨fun {γ g s σ Q Qc Ec v u V U} S H hv hu h k=>hv.iS h fun i a ha h=>hu.iS h fun j a' J1 h=>H.kL S ha h fun ls xs m O O e bx O h=>H.kL S J1 h fun ms ys m' O O e2 FW O q=>by
 have e':=S.a5 _ _ e
 have e2':=S.a5 _ _ e2
 have h1:=bx.length
 have h2:=FW.length
 have hz:=dD q
 have e3:xs.toArray++ys.toArray=(xs++ys).toArray:=List.append_toArray _ _
 refine concat_meets ⟨_,e',rfl⟩ ⟨_,e2',rfl⟩ noFill_list_add seq_list_add PySem.F.slot_list_add PySem.F.entry_list_add (PySem.F.args_list_add_2 _ _) (list_addW a a' xs.toArray ys.toArray m m' none none #[] #[] (by rw [iR,iR,gM];lia)) ⟨e',e2',?_⟩
 rw [e3]
 exact Ct.new (t:=s.toks) T S H (jS (eO q)) k (.lst ((bx.append FW).up (γ.bf _))) rfl⟩
end
end Mine
end
section
open PySem PySem.W PySem.Calls PyProof.Rows Builtin.ObjectAttr
namespace Mine
section
variable {aab:Program} {w:World} {M:Model} {A:Around} {hT:Heap} {l:List Env} {γ aj:Ga} {g g':GH} {s s':Shared} {σ:St} {Q:PV} {Qc:Value→Shared→Prop} {Ec:Value→Shared→Prop} {v u x:Value} {vA uA xA:V} {env:Env} {pos p:Pos}
noncomputable def R9:Mt→Str
 | .app=> "append" | .pop=> "pop" | .ext=> "extend" | .get=> "get" | .index=> "index"
noncomputable def R8:Mt→String
 | .app=> "list.append" | .pop=> "list.pop" | .ext=> "list.extend" | .get=> "dict.get" | .index=> "list.index"
theorem jo {name:Str} {id:String} {pl:Sem Bool} {Q':Value × List Value→Shared→Prop} (S:At hT l g s.heap) (H:HP aab w hT γ σ g) (hv:aq w γ v vA) (h:∃i ls,vA= .ob i∧σ.objs[i]?=some (.lst ls)) (slot:Slot "list" name id) (hty:typeOf (.builtin id)=pure (.type "method_descriptor")) (k:Q' (.builtin id,[v]) s):wpAny M A (getMethod v name pl) Q' Ec s:=by
 refine b8 h fun i ls e hb=> ?_;clear h
 refine bc ((show aq w γ v (.ob i) from e▸hv)) fun a e1 ha=> ?_
 obtain ⟨xs,n, -, -,e',L⟩:=H.lst S ha hb
 rw [e1] at k ⊢
 exact OO ⟨_,e',rfl⟩ PySem.F.plainAttrs_list slot hty (fun a q=>by cases q;exact ⟨_,e',rfl⟩) k
theorem Tq (S:At hT l g s.heap) (H:HP aab w hT γ σ g) (hv:aq w γ v vA) (h:Nw m vA σ) (k:Q' (.builtin (R8 m),[v]) s):wpAny M A (getMethod v (R9 m) pl) Q' Ec s:=by
 cases m with
 | app=>exact jo S H hv h PySem.F.slot_list_append PySem.F.type_list_append k
 | pop=>exact jo S H hv h PySem.F.slot_list_pop PySem.F.type_list_pop k
 | ext=>exact jo S H hv h PySem.F.slot_list_extend PySem.F.type_list_extend k
 | index=>exact jo S H hv h PySem.F.slot_list_index PySem.F.type_list_index k
 | get=>
  refine b8 h fun i ls e hb=> ?_;clear h
  refine bc ((show aq w γ v (.ob i) from e▸hv)) fun a e1 ha=> ?_
  obtain ⟨o,kvs, -, -, -,D⟩:=H.dI S ha hb
  rw [e1] at k ⊢
  exact OO D.typeIs PySem.F.plainAttrs_dict PySem.F.slot_dict_get PySem.F.type_dict_get D.mapOf.noDict k
structure BM (aab:Program) (w:World) (A:Around) (hT:Heap) (l:List Env) (m:Mt) (us:List Value) (Us:List V):Prop where
 go:∀ {γ g s σ Q Qc Ec v V},At hT l g s.heap→HP aab w hT γ σ g→aq w γ v V→ao w γ us Us→NO m V Us Q σ→Ct aab w hT l γ g s Q Qc→wpAny (model aab w) A (call (.builtin (R8 m)) (v::us)) Qc Ec s
theorem XO (S:At hT l g s.heap) (H:HP aab w hT γ σ g) (hv:aq w γ v vA) (hu:aq w γ u uA) (h:NO .app vA [uA] Q σ) (k:Ct aab w hT l γ g s Q Qc):wpAny (model aab w) A (call (.builtin "list.append") [v,u]) Qc Ec s:=
 hv.iS h fun i a ha h=>H.kL S ha h fun ls xs n O hz e bx O q=>by
  refine append_at (S.a5 _ _ e) (fun h' hs ho=> ?_) (by rw [iR,bx.length,gM];lia)
  obtain ⟨G,H'⟩:=Go.EN (t:=s.toks) S H (ob:=.lst (ls++[uA])) ha e hs (o':=listOf (xs++[u]).toArray (n+1)) (by simpa using ho) (.lst (bx.snoc hu))
  exact k _ _ _ _ _ _ G H' .none q
theorem vg (xs:List Value) (y:Value):(xs++[y]).toArray.eraseIdxIfInBounds ((xs++[y]).toArray.size - 1)=xs.toArray:=by
 apply Array.toList_inj.mp
 simp [Array.eraseIdxIfInBounds,List.eraseIdx_append_of_length_le]
theorem Dk {xs ys:List Value} {n:Nat} {f:Array Value→Array Value} (h:f xs.toArray=ys.toArray):∃n',Obj.mapSeq f (listOf xs.toArray n)=listOf ys.toArray n':=⟨_,by
 show listOf (f xs.toArray) _=_
 rw [h]⟩
theorem HP.turn (S:At hT l g s.heap) (H:HP aab w hT γ σ g) {i:Nat} {a:Addr} {ls:List V} {xs ys:List Value} {n:Nat} {f:Array Value→Array Value} (ha:γ.o[i]?=some a) (e:g a=some (listOf xs.toArray n)) (h:f xs.toArray=ys.toArray) (hr:ao w γ ys ls) :
  ∃g',Go hT l γ g s γ g' {s with heap:=s.heap.update a (Obj.mapSeq f)}∧HP aab w hT γ (σ.aV i (.lst ls)) g':=by
 obtain ⟨n',mL⟩:=Dk (n:=n) h
 obtain ⟨G,H'⟩:=Go.EN (t:=s.toks) (h':=s.heap.update a (Obj.mapSeq f)) S H (ob:=.lst ls) ha e (wC _ _ _) (o':=listOf ys.toArray n') (by
  rw [wB _ (S.a5 _ _ e) (by rw [mL];rfl),mL]) (.lst hr)
 exact ⟨_,G,H'⟩
theorem Yt (S:At hT l g s.heap) (H:HP aab w hT γ σ g) (hv:aq w γ v vA) (h:NO .pop vA [] Q σ) (k:Ct aab w hT l γ g s Q Qc):wpAny (model aab w) A (call (.builtin "list.pop") [v]) Qc Ec s:=
 hv.iS h fun i a ha h=>Kv h fun ls y hb hz q=>by
  refine bX (H.lst S ha hb) fun xs n e bx e' L=> ?_
  revert e e'
  refine bx.pk fun us y' h1 h2 e e'=> ?_
  have hl:=h1.length
  refine call_meets PySem.F.slot_list_pop ⟨_,e',rfl⟩ PySem.F.entry_list_pop (PySem.F.args_list_pop_1 _) (MeetsSeq.list_pop_last a _ n y' (by simp) (by rw [iR,bK,gM];simp;lia)) ⟨e',?_⟩
  refine bc (H.turn S (f:=fun zs=>zs.eraseIdxIfInBounds ((us++[y']).toArray.size - 1)) ha e (vg us y') h1) fun g' G H'=> ?_
  exact k _ _ _ _ _ _ G H' h2 q
theorem XZ (S:At hT l g s.heap) (H:HP aab w hT γ σ g) (hv:aq w γ v vA) (hu:aq w γ u uA) (h:NO .ext vA [uA] Q σ) (k:Ct aab w hT l γ g s Q Qc):wpAny (model aab w) A (call (.builtin "list.extend") [v,u]) Qc Ec s:=
 hv.iS h fun i a ha h=>hu.iS h fun j a' J1 h=>H.kL S ha h fun ls xs n O O e bx O h=>H.kL S J1 h fun ms ys m' O O e2 FW O q=>by
  have e':=S.a5 _ _ e
  have e2':=S.a5 _ _ e2
  have h1:=bx.length
  have h2:=FW.length
  have hz:=(dD q).2
  refine call_meets PySem.F.slot_list_extend ⟨_,e',rfl⟩ PySem.F.entry_list_extend (PySem.F.args_list_extend_2 _ _) (AutoSeq1.list_extend_list_list_0 a xs.toArray n a' ys.toArray m' ?_ (by rw [iR,gM];lia) (by rw [iR,iR,gM];lia)) ⟨e',e2',?_⟩
  ·unfold Builtin.List.listTooLong
   simp [gM]
   intro _
   lia
  ·refine bc (H.turn S (f:=fun zs=>zs++ys.toArray) ha e (List.append_toArray xs ys) (bx.append FW)) fun g' G H'=> ?_
   exact k _ _ _ _ _ _ G H' .none (eO q)
theorem X8 (S:At hT l g s.heap) (H:HP aab w hT γ σ g) (hv:aq w γ v vA) (hu:aq w γ u uA) (hx:aq w γ x xA) (h:NO .get vA [uA,xA] Q σ) (k:Ct aab w hT l γ g s Q Qc):wpAny (model aab w) A (call (.builtin "dict.get") [v,u,x]) Qc Ec s:=
 hv.iS h fun i a ha h=>hu.b7 h fun n t h=>hx.tH h fun h=>RN h fun ls hb q=>H.kI S ha hb fun o kvs e h1 h2 D=>by
  refine call_meetsIn PySem.F.slot_dict_get D.typeIs PySem.F.entry_dict_get (PySem.F.args_dict_get_3 _ _ _) (meets_dict_get_default (intKind aab w) a (E6 aab w n t) (H.lo ha) .none) ⟨_,D.mapOf,?_⟩
  cases e2:ls.lookup n with
  | none=>
   rw [(h2.look n).2 e2]
   rw [e2] at q
   exact k.tok S H _ .none q
  | some y=>
   refine bc ((h2.look n).1 y e2) fun z hz hzy=> ?_
   rw [hz]
   rw [e2] at q
   exact k.tok S H _ hzy q
theorem N9 (Aj:A.units+64<cLine) (S:At hT l g s.heap) (H:HP aab w hT γ σ g) (hv:aq w γ v vA) (hu:aq w γ u uA) (h:NO .index vA [uA] Q σ) (k:Ct aab w hT l γ g s Q Qc):wpAny (model aab w) A (call (.builtin "list.index") [v,u]) Qc Ec s:=
 hv.iS h fun i a ha h=>hu.x8 h fun t h=>HJ (dH h) fun ls bs n hb hz Wj hn q=>by
  obtain rfl:t=true:=dG h
  refine bX (H.lst S ha hb) fun xs m e bx e' L=> ?_
  have hl:=bx.length
  rw [bx.bools Wj] at hl e'
  refine bc (List.findIdx?_eq_some_iff_getElem.mp hn) fun hn1 oS hn3=> ?_
  have cu:n<(bs.map Value.bool).toArray.size:=by simpa using hn1
  refine call_meets PySem.F.slot_list_index ⟨_,e',rfl⟩ PySem.F.entry_list_index (PySem.F.args_list_index_2 _ _) (SeqAt.list_indexAt a _ m none #[] (.bool true) (fun y=>match y with | .bool z=>z == true | _=>false) n cu (by rw [cL] at hl;simp at cu;lia)
   (by simp at oS ⊢;exact oS) (fun j hj hjn=>by
    have:=hn3 j hjn
    simp at this ⊢
    exact this)) ⟨e',fun y hy=> ?_,?_⟩
  ·obtain ⟨b,_,rfl⟩:=dC.mp (show y∈bs.map Value.bool by simpa using hy)
   exact SeqAt.eqAt_reads (.bool b) (.bool true) A.in1 s _ _ _ _ (.bool b) (.bool true) rfl rfl (cY (dA (by decide:1≤64) _) Aj)
  ·exact k.tok S H _ Num.rel q
theorem D5 {a:Addr} {xs:List Value} {m:Nat} {n:Int} {t:Tok} {Q':Unit→Shared→Prop} (e:s.heap.get? a=some (listOf xs.toArray m)) (h0:0≤n) (hf:n<2 ^ 63) (hn:n.toNat<xs.length)
  (k:∀h' m',Heap.SameBut a s.heap h'→h'.get? a=some (listOf (xs.set n.toNat x).toArray m')→Q' () {s with heap:=h' }):wpAny (model aab w) A (setItem (.ref a) (.int n t) x) Q' Ec s:=by
 have hT:s.TypeIs (.ref a) "list":=⟨_,e,rfl⟩
 unfold setItem
 try with_reducible refine hW ?_
 first | refine aJ (bR ?_) | skip
 refine aJ (wpAny_sequenceKey hT (by decide) ?_)
 refine aJ (wpAny_callSpecial?_slot (name:=Str.ofString "__setitem__") hT slot_list_setitem (wpAny_call_entry slot_list_setitem hT entry_list_setitem ?_ (args_list_setitem _ _ _)))
 show wpAny _ _ (Builtin.List.listSubscript? (.int n t) >>= _) _ _ s
 refine aJ (wpAny_listSubscript_int (fitsIndex_of h0 hf) ?_)
 clear hf
 obtain ⟨n,rfl⟩:=pA h0
 rw [Fo] at hn k
 have sP:xs.toArray[n]?=some xs[n]:=by simp [hn]
 show wpAny _ _ ((seqItemAt a n >>= fun r=>pure (r.map (n,·))) >>= _) _ _ s
 refine aJ (aJ (wpAny_seqItemAt e rfl (bR ?_)))
 rw [sP]
 show wpAny _ _ (setSeqItemAt a n x >>= _) _ _ s
 obtain ⟨m',Ag⟩:∃m',Obj.mapSeq (·.setIfInBounds n x) (listOf xs.toArray m)=listOf (xs.set n x).toArray m':=⟨_,by
  show listOf (xs.toArray.setIfInBounds n x) _=_
  rw [show xs.toArray.setIfInBounds n x=(xs.set n x).toArray from by simp]⟩
 have hk:=k (s.heap.update a (Obj.mapSeq (·.setIfInBounds n x))) m' (wC ..) (by rw [wB _ e (by rw [Ag];rfl),Ag])
 refine aJ (wpAny_setSeqItemAt e rfl ?_)
 first
  | exact aJ (bR (bR ⟨.none,rfl,bR hk⟩))
  | exact bR ⟨.none,rfl,bR hk⟩
theorem Tv (S:At hT l g s.heap) (H:HP aab w hT γ σ g) {i:Nat} {ls:List V} {n:Int} {t:Tok} {a:Addr} (ha:γ.o[i]?=some a) (hb:σ.objs[i]?=some (.lst ls)) (h0:0≤n) (h1:n.toNat<ls.length) (hz:ls.length<1000000) (hx:aq w γ x xA)
  {Q':Unit→Shared→Prop} (k:∀s' g',Go hT l γ g s γ g' s'→HP aab w hT γ (σ.aV i (.lst (ls.set n.toNat xA))) g'→Q' () s'):wpAny (model aab w) A (setItem (.ref a) (.int n t) x) Q' Ec s:=by
 refine bX (H.lst S ha hb) fun xs m e bx e' L=> ?_
 have hl:=bx.length
 refine D5 e' h0 (by lia) (by lia) fun h' m' hs oU=> ?_
 obtain ⟨G,H'⟩:=Go.EN (t:=s.toks) S H (ob:=.lst (ls.set n.toNat xA)) ha e hs oU (.lst (bx.set hx _))
 exact k _ _ G H'
theorem Tu (S:At hT l g s.heap) (H:HP aab w hT γ σ g) (ha:γ.o[i]?=some a) (hb:σ.objs[i]?=some (.dI ls)) (hn:ls.lookup n=none) (hz:ls.length<1000000) (hx:aq w γ x xA)
  {Q':Unit→Shared→Prop} (k:∀s' g',Go hT l γ g s γ g' s'→HP aab w hT γ (σ.aV i (.dI (ls++[(n,xA)]))) g'→Q' () s'):wpAny (model aab w) A (setItem (.ref a) (.int n t) x) Q' Ec s:=by
 refine bX (H.dI S ha hb) fun o kvs e h1 h2 D=> ?_
 have hl:=h2.len
 refine wpAny_setItem_pairs (E6 aab w n t) D (fun h' hm hs=> ?_) (by rw [gM];lia)
 refine bc (wG.mp hm) fun o' oU nK=> ?_
 have WQ:=(h2.look n).2 hn
 have:stored kvs n x=kvs++[(n,x)]:=by
  unfold stored
  rw [aW]
  intro MJ
  refine bc (ui.mp MJ) fun p hp hpn=> ?_
  unfold valueAt at WQ
  rw [Option.map_eq_none_iff,List.find?_eq_none] at WQ
  exact WQ p hp hpn
 rw [this] at nK
 obtain ⟨G,H'⟩:=Go.EN (t:=s.toks+1) S H (ob:=.dI (ls++[(n,xA)])) ha e hs oU (.dI nK (h2.append (.cons hx .nil)))
 exact k _ _ G H'
end
end Mine
end
section
open PySem PySem.W PySem.Calls PyProof.Rows
namespace Mine
noncomputable section
noncomputable def aB (aab:Program) (w:World) (n:Nat):CW:=fun f vs Q E σ=>
 ∀ {hT:Heap} {A:Around} {aac:List Env} {γ:Ga} {g:GH} {s:Shared} {R:Result→Shared→Prop} {fv:Value} {vals:List Value},Cx w hT A aac n→At hT aac g s.heap→HP aab w hT γ σ g→aq w γ fv f→ao w γ vals vs →
  (∀aj g' af s' v V,Go hT aac γ g s aj g' s'→HP aab w hT aj af g'→aq w aj v V→Q V af→R (.ok (.ret v)) s') →
  (∀aj g' af s₁ e s',Go hT aac γ g s aj g' s₁→HP aab w hT aj af g'→E af→Er hT w.params aac g' s₁ e s'→R (.error e) s') →
  codeAny (model aab w) A (.call fv ⟨vals,[]⟩) R s
section
variable {aab:Program} {w:World} {n m:Nat} {f:V} {vs:List V} {Q Q':PV} {E E':PE} {σ:St}
end
noncomputable def Zi (v:V) (e:Expr):Bool:=V.rec (motive:=fun O=>Bool) (fun a=>AV.rec (motive:=fun O=>Bool) false (fun n=>fW e (.int n)) (fun O=>false) a) (fun O=>false) (fW e .none) (fun b=>fW e (.bool b)) (fun k=>decide (k<30) && fW e (.str (sT k))) (fun O=>false) (fun O=>false) (fun O=>false) (fun O O=>false) (fun O O O=>false) (fun O=>false) v
noncomputable def Z2 (x:Option (Option Value)) (n:Int):Bool:=Option.rec (motive:=fun O=>Bool) false (fun x=>Option.rec (motive:=fun O=>Bool) false (fun u=>Value.casesOn (motive:=fun O=>Bool) u false false false (fun O=>false) (fun m O=>decide (m=n)) (fun O O=>false) (fun O O=>false) (fun O O=>false) (fun O=>false) (fun O=>false) (fun O=>false)) x) x
theorem Rw (h:Z2 x n=true):∃t,x=some (some (.int n t)):=by
 cases x with
 | none=>cases h
 | some x=>cases x with
  | none=>cases h
  | some u=>cases u with
   | int m t=>exact ⟨t,aD (fun n=>some (some (Value.int n t))) (f3 h)⟩
   | _=>cases h
noncomputable def O5 (w:World) (x:Str) (v:V):Bool:=V.rec (motive:=fun O=>Bool) (fun a=>AV.rec (motive:=fun O=>Bool) (decide (nsIn (KK w) mainGlobals x=some (some (.ref 64)))) (fun n=>Z2 (nsIn (KK w) mainGlobals x) n) (fun O=>false) a) (fun O=>false) false (fun O=>false) (fun O=>false) (fun a=>decide (nsIn (KK w) mainGlobals x=some (some (.ref a))) && keepIn (KK w) (.ref a)) (fun O=>false) (fun O=>false) (fun O O=>false) (fun O O O=>false) (fun O=>false) v
theorem vn (h:O5 w x v=true):∃u,nsIn (KK w) mainGlobals x=some (some u)∧aq w γ u v:=by
 cases v with
 | fn a=>exact ⟨_,f3 (ae h),.fn (aa h)⟩
 | av a=>cases a with
  | nil=>exact ⟨_,f3 h,.nil⟩
  | num n=>exact (Rw h).elim fun t e=>⟨_,e,.num⟩
  | cell=>cases h
 | _=>cases h
end
noncomputable section
noncomputable def QH:List (Str × Addr):=([("list_of",193),("split_list",200),("items_of",207),("is_whole",214),("is_list",221),("wrong",228),("need_list",235),("need_cons",242),("need_whole",249),("things_of",256),("car_of",263),("cdr_of",270),("lisp_car",277),("lisp_cdr",284),("lisp_cons",291),("lisp_list",298),("lisp_setcar",305),("lisp_setcdr",312),("lisp_proper_list_p",319),("eq",326),("are_of_one_class",338),("equal_by",378),("are_any",385),("equal",392),("ring_of",399),("rest_at",406),("lisp_nthcdr",413),("lisp_nth",420),("lisp_take",427),("lisp_last",434),("lisp_butlast",441),("last_pair",448),("lisp_nconc",455),("lisp_memq",462),("lisp_member",469),("rest_from",476),("rest_where",483),("left_out",490),("lisp_delq",497),("lisp_remq",502),("pair_with",509),("lisp_assq",516),("lisp_assoc",523),("lisp_rassq",530),("lisp_copy_alist",535),("_law_deck",540),("_law_draw",547),("_law_cell",554),("_law_chain",561),("_law_proper",568),("_law_made",575),("_law_like",582),("_law_part",589),("_law_nthcdr",596),("_law_simple",603),("_law_ends",610),("_law_sought",615),("_law_reaches",622),("_law_is_same",627),("_law_holds",634),("_law_thing",641),("_law_deed",648),("_law_args",655),("_law_is_right",660),("law",665),("Cons",82),("Task",369),("LispSignal",38),("Vector",125),("ByteCode",146),("Text",104),("Opaque",181)]:List (String × Nat)).map fun p=>(Str.ofString p.1,p.2)
noncomputable def Rr:List (Str × Int):=[("LONGEST",1048576),("MOST_STEPS",8388608),("MOST_DEEP",200)]
noncomputable def y4:List (Str × Value):=[("len",.builtin "len"),("isinstance",.builtin "isinstance"),("abs",.builtin "abs"),("max",.builtin "max"),("sorted",.builtin "sorted"),("range",.type "range"),("zip",.type "zip"),("int",.type "int"),("bool",.type "bool")]
theorem GZ (w:World):QH.all (fun p=>O5 w p.1 (.fn p.2))=true:=by kernel_rfl
theorem Hi (w:World):Rr.all (fun p=>O5 w p.1 (.num p.2))=true:=by kernel_rfl
theorem Nz (w:World):O5 w "NIL" (.av .nil)=true:=by kernel_rfl
noncomputable def Zd (w:World) (p:Str × Value):Bool:=decide (nsIn (KK w) mainGlobals p.1=some none) && (decide (bootBuiltins p.1=some p.2) && p.1 != ("__name__":Str))
theorem Gn (w:World):y4.all (Zd w)=true:=by kernel_rfl
theorem LX (h:Zd w (x,v)=true):nsIn (KK w) mainGlobals x=some none∧bootBuiltins x=some v∧x≠ "__name__":=⟨f3 (ae h),f3 (ae (aa h)),bne_iff_ne.mp (aa (aa h))⟩
noncomputable def Zh (v:V) (x:Str):Bool:=V.rec (motive:=fun O=>Bool) (fun a=>AV.rec (motive:=fun O=>Bool) (x == "NIL") (fun n=>Rr.any fun p=>p.1 == x && p.2 == n) (fun O=>false) a) (fun O=>false) false (fun O=>false) (fun O=>false) (fun a=>QH.any fun p=>p.1 == x && p.2 == a) (fun O=>false) (fun O=>false) (fun O O=>false) (fun O O O=>false) (fun O=>false) v
theorem EF {α:Type} [BEq α] [LawfulBEq α] {T:List (Str × α)} {f:Str × α→Bool} (ok:T.all f=true) {x:Str} {a:α} (h:T.any (fun p=>p.1 == x && p.2 == a)=true):f (x,a)=true:=
 (ui.mp h).elim fun p h=>(eq_of_beq (ae h.2))▸(eq_of_beq (aa h.2))▸iQ.mp ok p h.1
theorem Bo {w:World} {x:Str} {v:V} {γ:Ga} (h:Zh v x=true):∃u,nsIn (KK w) mainGlobals x=some (some u)∧aq w γ u v:=by
 cases v with
 | fn a=>exact vn (EF (f:=fun p=>O5 w p.1 (.fn p.2)) (GZ w) h)
 | av a=>cases a with
  | nil=>exact vn ((show x=_ from eq_of_beq h)▸Nz w)
  | num n=>exact vn (EF (f:=fun p=>O5 w p.1 (.num p.2)) (Hi w) h)
  | cell=>cases h
 | _=>cases h
noncomputable abbrev bJ:=List (Str × NameKind)
noncomputable def Am (ns:bJ) (x:Str):Bool:=ns.lookup x == some .globalImplicit
noncomputable def W9 (ns:bJ) (b:Str) (e:Expr):Bool:=Am ns b && isName e (· == b)
noncomputable def Co (e:Expr):Bool:=xH .USub e (Zi (.num 1))
noncomputable def oq:Nat→Str
 | 0=> "left" | 1=> "right" | 2=> "deep" | 3=> "turn" | 4=> "slow_left" | _=> "slow_right"
noncomputable def ea (e:Expr):Bool:=isFun e || ((vw e).t == 3 || isCall e fun O as=> !as.isEmpty)
noncomputable abbrev pF:=List Expr→Bool
noncomputable def zP (ns:bJ) (b:Str) (e:Expr) (f:pF):Bool:=isCall e fun g as=>W9 ns b g && (as.all aQ && f as)
noncomputable def bZ (c:CmpOp) (e:Expr) (f:pF):Bool:=qv c e fun a b=>f [a,b]
noncomputable def m8 (c:Operator) (e:Expr) (f:pF):Bool:=Kh c e fun a b=>f [a,b]
noncomputable def q0 (x:Str) (e:Expr) (f:pF):Bool:=mN e fun a y=>y == x && (ea a && f [a])
noncomputable def kY (e:Expr) (f:pF):Bool:=Cv e fun a i=>f [a,i]
noncomputable def Ic (x:Option Expr):Bool:=x.isNone
noncomputable def Oo (x:Option Expr) (f:Expr→Bool):Bool:=Option.rec (motive:=fun O=>Bool) false f x
noncomputable def Ol (e:Expr) (f:pF):Bool:=sW e fun a o=>Ic o.1 && (Ic o.2.2 && Oo o.2.1 fun b=>f [a,b])
noncomputable def vU (e:Expr) (f:pF):Bool:=sW e fun a o=>Ic o.2.1 && (Ic o.2.2 && Oo o.1 fun b=>f [a,b])
noncomputable def Ed (e:Expr) (f:pF):Bool:=sW e fun a o=>Ic o.1 && (Ic o.2.1 && Oo o.2.2 fun b=>Co b && f [a])
noncomputable def vV (e:Expr) (f:pF):Bool:=sW e fun a o=>Ic o.1 && (Ic o.2.2 && Oo o.2.1 fun b=>Co b && f [a])
noncomputable def Ln (e:Expr) (f:pF):Bool:=xH .USub e fun a=>f [a]
noncomputable def Ll (l:List Nat) (e:Expr) (f:pF):Bool:=qv .In e fun a b=>isTup b fun es=>pN l es && (decide (l.length<1000) && f [a])
noncomputable def ye (e:Expr) (f:pF):Bool:=isTup e fun es=>es.all aQ && f es
noncomputable def Lm (e:Expr) (f:pF):Bool:=Cn e fun es=>es.all aQ && f es
noncomputable def D8 (e:Expr) (f:pF):Bool:=isCall e fun g as=>as.all aQ && f (g::as)
noncomputable def Eb (ns:bJ) (b:Str) (e:Expr) (f:pF):Bool:=zP ns "isinstance" e fun as=>tV as false fun x y r=>r.isEmpty && (W9 ns b y && f [x])
noncomputable def FY (ns:bJ) (o:Op) (e:Expr) (f:pF):Bool:=match o with
 | .nJ=>q0 "car" e f
 | .fC=>q0 "cdr" e f
 | .tat k=>q0 (oq k) e f
 | .aw=>kY e f
 | .idxM=>kY e f
 | .idxT=>kY e f
 | .idxS=>kY e f
 | .idxI=>kY e f
 | .idxA=>kY e f
 | .idxB=>kY e f
 | .ng=>Ol e f
 | .slDrop=>vU e f
 | .slRev=>Ed e f
 | .slInit=>vV e f
 | .add=>m8 .Add e f
 | .sub=>m8 .Sub e f
 | .mul=>m8 .Mult e f
 | .mod=>m8 .Mod e f
 | .fdiv=>m8 .FloorDiv e f
 | .cat=>m8 .Add e f
 | .neg=>Ln e f
 | .JT=>bZ .Eq e f
 | .eqV=>bZ .Eq e f
 | .eqS=>bZ .Eq e f
 | .eqE=>bZ .Eq e f
 | .eqL=>bZ .Eq e f
 | .neI=>bZ .NotEq e f
 | .neV=>bZ .NotEq e f
 | .neS=>bZ .NotEq e f
 | .neE=>bZ .NotEq e f
 | .lt=>bZ .Lt e f
 | .le=>bZ .LtE e f
 | .gt=>bZ .Gt e f
 | .ge=>bZ .GtE e f
 | .uS=>bZ .Is e f
 | .isA=>bZ .Is e f
 | .Pe=>bZ .Is e f
 | .isnN=>bZ .IsNot e f
 | .isnA=>bZ .IsNot e f
 | .isnF=>bZ .IsNot e f
 | .bH l=>Ll l e f
 | .inD=>bZ .In e f
 | .inB=>bZ .In e f
 | .inT=>bZ .In e f
 | .ninD=>bZ .NotIn e f
 | .lu=>zP ns "isinstance" e f
 | .isInt=>Eb ns "int" e f
 | .isBool=>Eb ns "bool" e f
 | .len=>zP ns "len" e f
 | .abs=>zP ns "abs" e f
 | .intb=>zP ns "int" e f
 | .max=>zP ns "max" e f
 | .sortd=>zP ns "sorted" e f
 | .tup=>ye e f
 | .tlv=>ye e f
 | .lst=>Lm e f
 | .call=>D8 e f
end
section
variable {aab:Program} {w:World} {M:Model} {A:Around} {hT:Heap} {l:List Env} {γ aj:Ga} {g g':GH} {s s':Shared} {σ:St} {Q:PV} {Qc:Value→Shared→Prop} {Ec:Value→Shared→Prop} {env:Env} {ns:bJ} {FR:Ga→GH→aO→Shared→Prop} {fr:aO} {x:Str} {v:Value}
theorem CR (h:ns.lookup x=some k):(x,k)∈ns:=mem_of_lookup h
theorem cZ.glob {Q:Value→Shared→Prop} {pos:Pos} (N:cZ w hT l env ns FR) (T:Tp (KK w) hT) (S:At hT l g s.heap) (e:nsIn (KK w) mainGlobals x=some (some v)) (hm:Am ns x=true) (h:Q v s):wpAny M A (eval (.Name x pos) env) Q Ec s:=by
 have Ag:(x,NameKind.globalImplicit)∈ns:=CR (beq_iff_eq.mp hm)
 refine bc (T.lr e S.a8) fun mg n e'=> ?_
 exact OK N.en.kind (N.en.ko _ _ Ag) (loadGlobal_global (by rw [N.en.gl];exact n) e' h) (N.en.uO _ _ Ag)
theorem cZ.Zg {Q:Value→Shared→Prop} {pos:Pos} (N:cZ w hT l env ns FR) (T:Tp (KK w) hT) (S:At hT l g s.heap) (e:(x,v)∈y4) (hm:Am ns x=true) (h:Q v s):wpAny M A (eval (.Name x pos) env) Q Ec s:=by
 have Ag:(x,NameKind.globalImplicit)∈ns:=CR (beq_iff_eq.mp hm)
 refine wg (LX (iQ.mp (Gn w) _ e)) fun e1 e2 e3=> ?_
 refine yt T.top fun p loose mg mb R=> ?_
 exact OK N.en.kind (N.en.ko _ _ Ag)
  (loadGlobal_builtin (by rw [N.en.gl];exact R.g.keeps S.a8) (mg_none_of T.Hj R.g e1) (by rw [N.en.bu];exact R.b.keeps S.a8) ((R.builtins x e3).trans e2) h) (N.en.uO _ _ Ag)
theorem PX {f:Expr} {args:List Expr} {pos:Pos} {Q:Value→Shared→Prop} (hf:isFun f=true) (hp:args.all aQ=true)
  (h:wpAny M A (eval f env) (fun f s₁=>Ev M A env Ec args (fun vs aG=>bW M f aG.heap∧wpAny M A (call f vs) Q Ec aG) s₁) Ec s):wpAny M A (eval (.Call f args [] pos) env) Q Ec s:=
 Call_ (dW h (fun f s₁ aA=>A3 hp aA) fun O O x=>x) (qw (P:=fun f=>eval (.Call f args [] pos) env=(do callWith pos (←eval f env) [] (backTo pos (starEach args env)) (backToKw pos (keywordEach [] env)))) hf (fun O O=>rfl) fun O O O=>rfl)
theorem wX (h:ea a=true):attributeBase a x env whole=whole:=
 ((uk _ _).mp h).elim (fun h=>qw (P:=fun a=>attributeBase a x env whole=whole) h (fun O O=>rfl) fun O O O=>rfl) fun h=>((uk _ _).mp h).elim (fun h=>(show a=_ from bj h).symm▸rfl) fun h=>jl (P:=fun a=>attributeBase a x env whole=whole) h fun g as p hg h=>by
  cases as with
  | nil=>exact nomatch h
  | cons b t=>exact qw (P:=fun g=>attributeBase (.Call g (b::t) [] p) x env whole=whole) hg (fun O O=>rfl) fun O O O=>rfl
theorem xE {e:Expr} {Q:Value→Shared→Prop} (h:Co e=true) (k:∀t t',Q (.int (-1) t) {s with toks:=t' }):wpAny (model aab w) A (eval e env) Q Ec s:=
 lM h fun a p h=>dn h fun n q=>UnaryOp_ (xo fun t t'=>P.neg_int (k _ _))
end
end Mine
end
section
open PySem PySem.W PySem.Calls PyProof.Rows Builtin.ObjectAttr
namespace Mine
section
variable {aab:Program} {w:World} {M:Model} {A:Around} {hT:Heap} {l:List Env} {γ aj:Ga} {g g':GH} {s s':Shared} {σ:St} {Q:PV} {Qc:Value→Shared→Prop} {Ec:Value→Shared→Prop} {v u x:Value} {vA uA xA:V} {env:Env} {pos p:Pos} {ex:Bool}
theorem vT (S:At hT l g s.heap) (T:Tp (KK w) hT) (K:wL w C) (hf:findIn (KK w) (.ref C) name=some none) (hx:g y=some (instObj C d)) (hd:g d=some (dictOf es n))
  (hl:(getL name es).isSome=true) (hz:es.length≤1000)
  (h:∀h' t tk,Heap.SameBut d s.heap h'→h'.get? d=some (dictOf (putL name (PyData.keyHash w.params name) (.str name t) v es) (putN name es n))→Q' () {s with heap:=h',toks:=tk}) :
  wpAny (model aab w) A (setAttr (.ref y) name v) Q' Ec s:=by
 have X:=T.nL S.a8
 have sP:=S.a5 _ _ hx
 have nK:=S.a5 _ _ hd
 have I:InstAt s.heap y (instObj C d) C (some (dictOf es n)):=⟨sP,rfl,rfl,nK⟩
 refine set_plain X I K.sa ?_
 refine osa_open (s:={s with toks:=s.toks+1}) (r:=none) X I K.po (by unfold takerIn;rw [hf];rfl) fun b=> ?_
 refine bc (any_some K.hd) fun cd c1 c2=> ?_
 unfold storeInOwnDict
 refine aJ (bR (aJ ?_))
 show wpAny _ _ (instanceDict y true) _ _ _
 unfold instanceDict
 refine aJ (E5 sP ?_)
 refine aJ (E4 X c1 _ _ _ _ (fun O O e=>e) ?_)
 rw [c2]
 refine bR ?_
 exact gX (s:={s with toks:=s.toks+1}) nK hl hz fun h' t hs ho=>h h' t _ hs ho
theorem Tt (fC:Bool) (T:Tp (KK w) hT) (S:At hT l g s.heap) (H:HP aab w hT γ σ g) (hq:γ.p[i]?=some q) (hv:VR γ.p v a) (hc:σ.cells[i]?=some ab)
  (k:∀s' g',Go hT l γ g s γ g' s'→HP aab w hT γ (σ.setC i (if fC then (ab.1,a) else (a,ab.2))) g'→Q' () s'):wpAny (model aab w) A (setAttr (.ref q.1) (if fC then "cdr" else "car") v) Q' Ec s:=by
 refine EZ (H.cs.at_ i q ab hq hc) fun e1 x y t u e2 hx hy=> ?_
 cases fC with
 | false=>exact vT S T qf vk e1 e2 (BW _ _ _ _ _) (by simp) fun h' t' tk hs ho=>(Go.Um (t:=tk) S H hq e2 hs (DK .. ▸ho) hv hy).elim fun G H'=>k _ _ G H'
 | true=>exact vT S T qf vl e1 e2 (BX _ _ _ _ _) (by simp) fun h' t' tk hs ho=>(Go.Um (t:=tk) S H hq e2 hs (DL .. ▸ho) hx hv).elim fun G H'=>k _ _ G H'
theorem rb:wL w 369:=⟨by kernel_rfl,by kernel_rfl,by kernel_rfl,by kernel_rfl,by kernel_rfl⟩
theorem vZ:makesIn (KK w) 369=true:=by kernel_rfl
theorem zW:findIn (KK w) (.ref 369) "__init__"=some (some (.ref 352)):=by kernel_rfl
theorem Jb:typeIn (KK w) (.ref 352)=some (.type "function"):=by kernel_rfl
theorem yk (k:Nat):findIn (KK w) (.ref 369) (oq k)=some none:=by
 match k with
 | 0=>kernel_rfl | 1=>kernel_rfl | 2=>kernel_rfl | 3=>kernel_rfl | 4=>kernel_rfl | _+5=>kernel_rfl
noncomputable def YS (l r sl sr:Value) (dp tn:Int) (t:Ad):Nat→Value
 | 0=>l | 1=>r | 2=>.int dp t.dp | 3=>.int tn t.tn | 4=>sl | _=>sr
noncomputable def fh (P:Params) (l r sl sr:Value) (dp tn:Int) (t:Ad):List DictEntry:=
 [⟨PyData.keyHash P "left",.str "left" t.a,l⟩,⟨PyData.keyHash P "right",.str "right" t.b,r⟩,⟨PyData.keyHash P "deep",.str "deep" t.c,.int dp t.dp⟩,⟨PyData.keyHash P "turn",.str "turn" t.d,.int tn t.tn⟩,
  ⟨PyData.keyHash P "slow_left",.str "slow_left" t.e,sl⟩,⟨PyData.keyHash P "slow_right",.str "slow_right" t.f,sr⟩]
theorem EJ (P:Params) (l r sl sr:Value) (dp tn:Int) (t:Ad) (k:Nat):getL (oq k) (fh P l r sl sr dp tn t)=some (some (YS l r sl sr dp tn t k)):=by
 match k with
 | 0=>kernel_rfl | 1=>kernel_rfl | 2=>kernel_rfl | 3=>kernel_rfl | 4=>kernel_rfl | _+5=>kernel_rfl
theorem n6 {P:Nat→Prop} (h0:P 0) (h1:P 1) (h2:P 2) (h3:P 3) (h4:P 4) (h5:P 5) (h:∀k,P (k+6)) (k:Nat):P k:=by
 match k with
 | 0=>exact h0 | 1=>exact h1 | 2=>exact h2 | 3=>exact h3 | 4=>exact h4 | 5=>exact h5 | k+6=>exact h k
theorem Jd {l r sl sr:Value} {tk:f9} {t:Ad} (h1:VR γ.p l tk.left) (h2:VR γ.p r tk.right) (h3:VR γ.p sl tk.sl) (h4:VR γ.p sr tk.sr) (k:Nat):aq w γ (YS l r sl sr tk.deep tk.turn t k) (tk.get k):=by
 match k with
 | 0=>exact .av h1 | 1=>exact .av h2 | 2=>exact Num.rel | 3=>exact Num.rel | 4=>exact .av h3 | _+5=>exact .av h4
theorem v5 {l r sl sr:Value} {tk:f9} {t:Ad} (h1:VR γ.p l tk.left) (h2:VR γ.p r tk.right) (h3:VR γ.p sl tk.sl) (h4:VR γ.p sr tk.sr) (k:Nat):handedIn (YS l r sl sr tk.deep tk.turn t k)=true:=by
 match k with
 | 0=>exact dQ h1 | 1=>exact dQ h2 | 2=>rfl | 3=>rfl | 4=>exact dQ h3 | _+5=>exact dQ h4
theorem Yv (T:Tp (KK w) hT):B1 aab w A hT l (fun v=>getAttr v (oq i) ex) (.tat i):=⟨fun {γ g s σ Q Qc Ec v V} S H hv h k=>hv.oTk h fun j d y ha hf h=>Ku h fun t hb q=>by
 refine iM (H.tk ha hb) fun le ri sl sr tt e h1 h2 h3 h4=> ?_
 have I:InstAt s.heap y (instObj 369 d) 369 (some (dictOf (fh w.params le ri sl sr t.deep t.turn tt) 6)):=⟨S.a5 _ _ (H.fz _ hf).1,rfl,rfl,S.a5 _ _ e⟩
 exact get_value (H.X T S) I rb.ga (findObj_own rb.hd (yk i) rfl (EJ _ _ _ _ _ _ _ _ i)) (v5 h1 h2 h3 h4 i) (k.tok S H _ (Jd h1 h2 h3 h4 i) q)⟩
theorem rd (P:Params) (l r sl sr:Value) (dp tn:Int) (t:Ad) (u:Tok) (x:Value) :
  dictOf (putL "left" (PyData.keyHash P "left") (.str "left" u) x (fh P l r sl sr dp tn t)) (putN "left" (fh P l r sl sr dp tn t) 6)=F8 P x r sl sr dp tn t ∧
  dictOf (putL "right" (PyData.keyHash P "right") (.str "right" u) x (fh P l r sl sr dp tn t)) (putN "right" (fh P l r sl sr dp tn t) 6)=F8 P l x sl sr dp tn t ∧
  dictOf (putL "slow_left" (PyData.keyHash P "slow_left") (.str "slow_left" u) x (fh P l r sl sr dp tn t)) (putN "slow_left" (fh P l r sl sr dp tn t) 6)=F8 P l r x sr dp tn t ∧
  dictOf (putL "slow_right" (PyData.keyHash P "slow_right") (.str "slow_right" u) x (fh P l r sl sr dp tn t)) (putN "slow_right" (fh P l r sl sr dp tn t) 6)=F8 P l r sl x dp tn t:=⟨by kernel_rfl,by kernel_rfl,by kernel_rfl,by kernel_rfl⟩
theorem Je (P:Params) (l r sl sr:Value) (dp tn m:Int) (t:Ad) (u z:Tok) :
  dictOf (putL "turn" (PyData.keyHash P "turn") (.str "turn" u) (.int m z) (fh P l r sl sr dp tn t)) (putN "turn" (fh P l r sl sr dp tn t) 6)=F8 P l r sl sr dp m { t with tn:=z }:=by kernel_rfl
noncomputable abbrev Lw (P:Params) (l r sl sr:Value) (dp tn:Int) (t:Ad) (k:Nat) (z:Tok) (v:Value):Obj:=dictOf (putL (oq k) (PyData.keyHash P (oq k)) (.str (oq k) z) v (fh P l r sl sr dp tn t)) (putN (oq k) (fh P l r sl sr dp tn t) 6)
theorem OE {t t':f9} {a:AV} {le ri sl sr:Value} {tt:Ad} {z:Tok} (hv:VR γ.p v a) (h1:VR γ.p le t.left) (h2:VR γ.p ri t.right) (h3:VR γ.p sl t.sl) (h4:VR γ.p sr t.sr) (k:Nat):t.D4 k a=some t'→OR aab w γ (.task t') (Lw w.params le ri sl sr t.deep t.turn tt k z v):=
 n6 (P:=fun k=>t.D4 k a=some t'→OR aab w γ (.task t') (Lw w.params le ri sl sr t.deep t.turn tt k z v)) (fun ht=>cH ht▸⟨v,ri,sl,sr,tt,(rd ..).1,hv,h2,h3,h4⟩) (fun ht=>cH ht▸⟨le,v,sl,sr,tt,(rd ..).2.1,h1,hv,h3,h4⟩) (fun ht=>nomatch ht)
  (fun ht=>by
   cases a with
   | num n=>exact (VR.Dv hv).elim fun tv e=>e▸cH ht▸⟨le,ri,sl,sr,{tt with tn:=tv},Je ..,h1,h2,h3,h4⟩
   | _=>cases ht) (fun ht=>cH ht▸⟨le,ri,v,sr,tt,(rd ..).2.2.1,h1,h2,hv,h4⟩) (fun ht=>cH ht▸⟨le,ri,sl,v,tt,(rd ..).2.2.2,h1,h2,h3,hv⟩) (fun O ht=>nomatch ht) k
theorem TF {k:Nat} (T:Tp (KK w) hT) (S:At hT l g s.heap) (H:HP aab w hT γ σ g) {i:Nat} {d x:Addr} {t t':f9} {a:AV} {Q':Unit→Shared→Prop} (ha:γ.o[i]?=some d) (hf:(x,instObj 369 d)∈γ.fz) (hv:VR γ.p v a) (hb:σ.objs[i]?=some (.task t)) (ht:t.D4 k a=some t')
  (kc:∀s' g',Go hT l γ g s γ g' s'→HP aab w hT γ (σ.aV i (.task t')) g'→Q' () s'):wpAny (model aab w) A (setAttr (.ref x) (oq k) v) Q' Ec s:=
 (H.tk ha hb).elim fun le h=>h.elim fun ri h=>h.elim fun sl h=>h.elim fun sr h=>h.elim fun tt h=>
  vT S T rb (yk k) (H.fz _ hf).1 h.1 (aD Option.isSome (EJ w.params le ri sl sr t.deep t.turn tt k)) (show 6≤1000 by decide) fun h' z tk hs ho=>
   (Go.EN (t:=tk) S H ha h.1 hs ho (OE hv h.2.1 h.2.2.1 h.2.2.2.1 h.2.2.2.2 k ht)).elim fun G H'=>kc _ _ G H'
end
end Mine
end
section
open PySem PySem.W PySem.Calls PyProof.Rows
namespace Mine
section
variable {aab:Program} {w:World} {A:Around} {hT:Heap} {l:List Env} {γ aj:Ga} {g g':GH} {s s':Shared} {σ:St} {Q:PV} {E:PE} {Qc:Value→Shared→Prop} {Ec:Value→Shared→Prop} {v u:Value} {vA uA:V} {env:Env} {ns:bJ} {FR:Ga→GH→aO→Shared→Prop} {fr:aO} {n:Nat} {o:Op} {e:Expr} {es:List Expr}
theorem At.V7 (S:At hT l g s.heap):∀b∈lJ l,∃o,s.heap.get? b=some o:=by
 have:∀ {l:List Env},s.heap.FunFrames H0 l→∀b∈lJ l,∃o,s.heap.get? b=some o:=by
  intro l
  induction l with
  | nil=>intro _ b hb;cases hb
  | cons e r ih=>
   rintro ⟨_,⟨L',o,hf,_,ho,_⟩,c⟩ b hb
   simp only [lJ,Fg,hf] at hb
   rcases cF.mp hb with q | q
   ·exact q▸⟨o,ho⟩
   ·exact ih c b q
 exact this S.cO
theorem q8 (T:Tp (KK w) hT) (S:At hT l g s.heap) (h:∀b o,s.heap.get? b=some o→b<a):(a == sysModules)=false:=by
 have h1:∃o,(KK w).lookup 82=some o:=⟨_,by rfl⟩
 obtain ⟨o,ho⟩:=h1
 have h2:82<a:=h _ _ (S.a8 _ _ (T.Hj _ _ ho))
 rw [OM]
 show a≠1
 exact fun e=>absurd (e▸h2) (by decide)
theorem Ct.Sj (T:Tp (KK w) hT) (S:At hT l g s.heap) (H:HP aab w hT γ σ g) {L:Addr} {h':Heap} {o:Obj} {ob:Ob} {t:Nat} (kp:∀b o,s.heap.get? b=some o→h'.get? b=some o) (hl:∀b o,s.heap.get? b=some o→b<L) (e:h'.get? L=some o) (q:alloc σ ob Q) (k:Ct aab w hT l γ g s Q Qc) (h:OR aab w (γ.cw L) ob o):Qc (.ref L) {s with heap:=h',toks:=t}:=by
 have gn:g L=none:=by
  cases e:g L with
  | none=>rfl
  | some o=>exact absurd (hl _ _ (S.a5 _ _ e)) (nF _)
 have S':At hT l (g.set L o) h':=⟨fun b x e=>GH.bS _ gn _ _ (S.base b x e),fun b x e'=>by
  by_cases hb:b=L
  ·subst hb;rw [GH.set_same] at e';rw [e,←e']
  ·rw [GH.au _ _ hb] at e';exact kp _ _ (S.a5 _ _ e'),fun b hb=>by
  by_cases QO:b=L
  ·obtain ⟨x,hx⟩:=S.V7 b hb;exact absurd (hl _ _ hx) (by rw [QO];exact nF _)
  ·rw [GH.au _ _ QO];exact S.jx b hb,aS (Kp.of_keeps kp) S.cO⟩
 refine k _ _ _ _ _ _ ⟨S',⟨Kp.of_keeps kp,⟨rfl,rfl,rfl⟩⟩,γ.bf _,gb.cw H gn,fun O O O h=>h⟩ (H.cw gn ⟨S.og gn,q8 T S hl⟩ h) (.ob (i:=σ.objs.length) ?_) (q _ _ f6.mk')
 show (γ.o++[L])[σ.objs.length]?=_
 rw [←H.len];simp
theorem sU {γ:Ga} {ks:List Int}:∀xs:List Value,(∀v∈xs,∃n t,v= .int n t∧n∈ks)→∃ns:List Int,ns.length=xs.length∧(∀x∈ns,x∈ks)∧ao w γ xs (ns.map fun n=>.num n)
 | [],_=>⟨[],rfl,fun O h=>absurd h cS,ao.nil⟩
 | v::xs,h=>by
  obtain ⟨n,t,rfl,hn⟩:=h v (.head _)
  obtain ⟨ns,h1,h2,h3⟩:=sU xs fun u hu=>h u (.tail _ hu)
  refine ⟨n::ns,aD (· +1) h1,fun x hx=> ?_,.cons (.av .num) h3⟩
  rcases cF.mp hx with rfl | hx
  ·exact hn
  ·exact h2 x hx
theorem Tx (hh:A.handled=none) (T:Tp (KK w) hT):B1 aab w A hT l (fun v=>call (.builtin "sorted") [v]) .sortd:=⟨fun {γ g s σ Q Qc Ec v V} S H hv h k=>by
 refine bX h fun i ls e0 hi hl q=> ?_;clear h
 refine bc ((show aq w γ v (.ob i) from e0▸hv)) fun a e1 ha=> ?_
 obtain ⟨o,kvs,e, -,D,hD⟩:=H.dI S ha hi
 exact e1▸Z.zZ hh (H.lo ha) hD (D.len▸z7 hl) fun L h' tk xs c kp hL e' hs hI=>
  (sU (γ:=γ.cw L) (w:=w) xs.toList hI).elim fun ns h=>Ct.Sj T S H kp hL (Array.toArray_toList (xs:=xs)▸e') (q ns (h.1.trans (yB.trans (hs.trans D.len))) fun x hx=>D.keys▸h.2.1 x hx) k (.lst h.2.2)⟩
def F9 (aab:Program) (w:World) (n:Nat) (A:Around) (hT:Heap) (l:List Env) (env:Env) (γ:Ga) (g:GH) (s:Shared) (P:List V→St→Prop) (Ec:Value→Shared→Prop) (es:List Expr):Prop:=
 ∀Qe:List Value→Shared→Prop,(∀aj g' af s' vs Vs,Go hT l γ g s aj g' s'→HP aab w hT aj af g'→ao w aj vs Vs→P Vs af→Qe vs s')→Ev (model aab w) A env Ec es Qe s
theorem xq {es:List Expr}:∀ {s:Shared} {B B':List Value→Shared→Prop},Ev (model aab w) A env Ec es B s→(∀vs s,B vs s→B' vs s)→Ev (model aab w) A env Ec es B' s:=by
 induction es with
 | nil=>exact fun h k=>k _ _ h
 | cons e r ih=>exact fun h k=>dW h (fun v s₁ aA=>ih aA fun vs s h=>k _ _ h) fun O O x=>x
theorem F9.one {P:List V→St→Prop} {a:Expr} {B:Value→Shared→Prop} (ev:F9 aab w n A hT l env γ g s P Ec [a]) (h:∀aj g' af s' v V,Go hT l γ g s aj g' s'→HP aab w hT aj af g'→aq w aj v V→P [V] af→B v s'):wpAny (model aab w) A (eval a env) B Ec s:=
 dW (ev (fun vs s'=>∀v,vs=[v]→B v s') fun aj g' af s' vs Vs G H hv hp v e=>by
  rw [e] at hv
  cases hv with
  | cons h1 h2=>cases h2;exact h _ _ _ _ _ _ G H h1 hp) (fun v s₁ aA=>aA v rfl) fun O O x=>x
theorem F9.two {P:List V→St→Prop} {a b:Expr} {B:Value→Value→Shared→Prop} (ev:F9 aab w n A hT l env γ g s P Ec [a,b]) (h:∀aj g' af s' v V u U,Go hT l γ g s aj g' s'→HP aab w hT aj af g'→aq w aj v V→aq w aj u U→P [V,U] af→B v u s') :
  wpAny (model aab w) A (eval a env) (fun v s₁=>wpAny (model aab w) A (eval b env) (fun u aG=>B v u aG) Ec s₁) Ec s:=
 dW (ev (fun vs s'=>∀v u,vs=[v,u]→B v u s') fun aj g' af s' vs Vs G H hv hp v u e=>by
  rw [e] at hv
  cases hv with
  | cons h1 h2=>cases h2 with
   | cons h2 h3=>cases h3;exact h _ _ _ _ _ _ _ _ G H h1 h2 hp) (fun v s₁ aA=>dW aA (fun u aG cE=>cE v u rfl) fun O O x=>x) fun O O x=>x
theorem vh (h:wpAny (model aab w) A (eval a env) (fun v s₁=>wpAny (model aab w) A (eval b env) (fun u aG=>B [v,u] aG) Ec s₁) Ec s):Ev (model aab w) A env Ec [a,b] B s:=h
@[elab_as_elim] theorem Kg {b:Str} {P:Expr→Prop} (h:W9 ns b e=true) (k:∀q,Am ns b=true→P (.Name b q)):P e:=
 bB (aa h) fun x p h'=>(eq_of_beq h').symm▸k p (ae h)
@[elab_as_elim] theorem pj {b:Str} {f:pF} {P:Expr→Prop} (h:zP ns b e f=true) (k:∀q es p,Am ns b=true→es.all aQ=true→f es=true→P (.Call (.Name b q) es [] p)):P e:=
 jl h fun a as p O h=>Kg (P:=fun a=>P (.Call a as [] p)) (ae h) fun q hg=>k q as p hg (ae (aa h)) (aa (aa h))
theorem oM {b:Str} {f:Value} {q p:Pos} {Q:Value→Shared→Prop} (N:cZ w hT l env ns FR) (T:Tp (KK w) hT) (S:At hT l g s.heap) (hb:(b,f)∈y4) (hg:Am ns b=true) (hk:∀h:Heap,bW (model aab w) f h) (hp:es.all aQ=true)
  (h:Ev (model aab w) A env Ec es (fun vs aG=>wpAny (model aab w) A (call f vs) Q Ec aG) s):wpAny (model aab w) A (eval (.Call (.Name b q) es [] p) env) Q Ec s:=
 qj hp (N.Zg T S hb hg (xq h fun vs s h=>⟨hk _,h⟩))
theorem eW.keeps {caps} (h:eW γ a D caps) (S:At hT l g s.heap) (H:HP aab w hT γ σ g):bW (model aab w) (.ref a) s.heap:=
 h.elim fun cl h=>h.elim fun pm h=>h.elim fun c' h=>h.elim fun xl h=>h.elim fun oc h=>h.elim fun vs h=>h.elim fun t h=>Xb (H.GX S h.1) rfl
theorem aq.keeps (hv:aq w γ v vA) (hc:Js vA) (T:Tp (KK w) hT) (S:At hT l g s.heap) (H:HP aab w hT γ σ g):bW (model aab w) v s.heap:=by
 cases vA with
 | fn=>exact And.left hv▸RB (And.right hv) (T.nL S.a8)
 | ll=>exact bQ hv fun O h=>h.elim fun O h=>h.1▸h.2.1.keeps S H
 | lq=>exact bQ hv fun O h=>h.elim fun O h=>h.1▸h.2.1.keeps S H
 | _=>exact hc.elim
end
section
variable {aab:Program} {w:World} {A:Around} {hT:Heap} {l:List Env} {γ aj:Ga} {g g':GH} {s s':Shared} {σ:St} {Q:PV} {E:PE} {Qc:Value→Shared→Prop} {Ec:Value→Shared→Prop} {v u:Value} {vA uA:V} {env:Env} {ns:bJ} {FR:Ga→GH→aO→Shared→Prop} {fr:aO} {n:Nat} {o:Op} {e:Expr} {es:List Expr}
theorem Ct.at (k:Ct aab w hT l γ g s Q Qc) (G:Go hT l γ g s aj g' s'):Ct aab w hT l aj g' s' Q Qc:=k.trans G
def Ke (aab:Program) (w:World) (hT:Heap) (l:List Env) (γ:Ga) (g:GH) (s:Shared) (E:PE) (Ec:Value→Shared→Prop):Prop:=∀aj g' af s₁ x s',Go hT l γ g s aj g' s₁→HP aab w hT aj af g'→E af→Er hT w.params l g' s₁ x s'→Ec x s'
noncomputable def oW (o:Op):Bool:=match o with
 | .nJ | .fC | .tat _ | .aw | .idxM | .idxT | .idxS | .idxI | .idxA | .idxB | .ng | .slDrop | .slRev | .slInit | .add | .sub | .mul | .mod | .fdiv | .cat | .neg | .lu | .isInt | .isBool | .len | .abs | .intb | .max | .sortd | .tup | .tlv | .lst | .call=>false
 | _=>true
structure fB (aab:Program) (w:World) (n:Nat) (A:Around) (hT:Heap) (l:List Env) (env:Env) (ns:bJ) (FR:Ga→GH→aO→Shared→Prop) (o:Op):Prop where
 go:∀ {γ g fr s σ e f Q E Qc Ec},FR γ g fr s→HP aab w hT γ σ g→FY ns o e f=true→(∀es,f es=true→F9 aab w n A hT l env γ g s (fun Vs af=>SJ (aB aab w n) o Vs Q E af) Ec es)→Ct aab w hT l γ g s Q Qc→Ke aab w hT l γ g s E Ec→wpAny (model aab w) A (eval e env) Qc Ec s
structure LN (aab:Program) (w:World) (n:Nat) (o:Op):Prop where
 go:∀ {Vs Q E σ},SJ (aB aab w n) o Vs Q E σ→qV o Vs Q σ
structure Vp (aab:Program) (w:World) (n:Nat) (A:Around) (hT:Heap) (l:List Env) (ns:bJ) (c:CmpOp) (o:Op):Prop where
 sh:∀ {e f},FY ns o e f=true→bZ c e f=true
 q:LN aab w n o
 b:B2 aab w A hT l (compareOp c) o
theorem VQ (T:Tp (KK w) hT) (hu:A.units+64<cLine) (ho:oW o=true):(∃ks,o= .bH ks)∨∃c,Vp aab w n A hT l ns c o:=by
 cases o with
 | JT=>exact .inr ⟨_,fun h=>h,⟨fun h=>h⟩,zL (fun h=>h) fun q=>ceq q⟩
 | neI=>exact .inr ⟨_,fun h=>h,⟨fun h=>h⟩,zL (fun h=>h) fun q=>cne q⟩
 | lt=>exact .inr ⟨_,fun h=>h,⟨fun h=>h⟩,zL (fun h=>h) fun q=>clt q⟩
 | le=>exact .inr ⟨_,fun h=>h,⟨fun h=>h⟩,zL (fun h=>h) fun q=>cle q⟩
 | gt=>exact .inr ⟨_,fun h=>h,⟨fun h=>h⟩,zL (fun h=>h) fun q=>cgt q⟩
 | ge=>exact .inr ⟨_,fun h=>h,⟨fun h=>h⟩,zL (fun h=>h) fun q=>cge q⟩
 | eqV=>exact .inr ⟨_,fun h=>h,⟨fun h=>h⟩,XY hu⟩
 | neV=>exact .inr ⟨_,fun h=>h,⟨fun h=>h⟩,Yq hu⟩
 | eqS=>exact .inr ⟨_,fun h=>h,⟨fun h=>h⟩,XX⟩
 | neS=>exact .inr ⟨_,fun h=>h,⟨fun h=>h⟩,Yp⟩
 | eqE=>exact .inr ⟨_,fun h=>h,⟨fun h=>h⟩,XU hu⟩
 | neE=>exact .inr ⟨_,fun h=>h,⟨fun h=>h⟩,Yo hu⟩
 | eqL=>exact .inr ⟨_,fun h=>h,⟨fun h=>h⟩,XW hu⟩
 | uS=>exact .inr ⟨_,fun h=>h,⟨fun h=>h⟩,Yh⟩
 | isnN=>exact .inr ⟨_,fun h=>h,⟨fun h=>h⟩,Tj⟩
 | isA=>exact .inr ⟨_,fun h=>h,⟨fun h=>h⟩,Ye T⟩
 | isnA=>exact .inr ⟨_,fun h=>h,⟨fun h=>h⟩,Th T⟩
 | Pe=>exact .inr ⟨_,fun h=>h,⟨fun h=>h⟩,Yg⟩
 | isnF=>exact .inr ⟨_,fun h=>h,⟨fun h=>h⟩,Ti⟩
 | inT=>exact .inr ⟨_,fun h=>h,⟨fun h=>h⟩,Yd⟩
 | inD=>exact .inr ⟨_,fun h=>h,⟨fun h=>h⟩,Yb⟩
 | ninD=>exact .inr ⟨_,fun h=>h,⟨fun h=>h⟩,Ts⟩
 | inB=>exact .inr ⟨_,fun h=>h,⟨fun h=>h⟩,Ya hu⟩
 | bH ks=>exact .inl ⟨ks,rfl⟩
 | _=>exact ft ho
theorem El {f:pF} {P:Expr→Prop} (X:Cx w hT A l n) (hu:A.units+64<cLine) (ho:oW o=true) (gU:FY ns o e f=true)
  (ev:∀es,f es=true→F9 aab w n A hT l env γ g s (fun Vs af=>SJ (aB aab w n) o Vs Q E af) Ec es) (k:Ct aab w hT l γ g s Q Qc)
  (fin:∀a c b p,behindInMarks c b=false→wpAny (model aab w) A (eval a env) (fun v s₁=>wpAny (model aab w) A (eval b env) (fun u aG=>wpAny (model aab w) A (compareOp c v u) Qc Ec aG) Ec s₁) Ec s→P (.Compare a [c] [b] p)):P e:=by
 rcases VQ (aab:=aab) (ns:=ns) (l:=l) (n:=n) X.T hu ho with ⟨ks,e0⟩ | ⟨c,C⟩
 ·subst e0
  exact mO (show Ll ks e f=true from gU) fun a b p hm h=>fin a _ b p hm (fM h fun es m q h=>(ev _ (aa (aa h))).one fun aj g' af s' v V G H' hv hq=>Yc G.at_ H' (ae h) (f3 (ae (aa h))) hv hq (k.at G))
 ·exact mO (C.sh gU) fun a b p hm h=>fin a _ b p hm ((ev _ h).two fun aj g' af s' v V u U G H' hv hx hq=>C.b.go G.at_ H' hv hx (C.q.go hq) (k.at G))
theorem fB.cmp (X:Cx w hT A l n) (hu:A.units+64<cLine) (ho:oW o=true):fB aab w n A hT l env ns FR o:=⟨fun {γ g fr s σ e f Q E Qc Ec} F H gU ev k ke=>El (P:=fun e=>wpAny (model aab w) A (eval e env) Qc Ec s) X hu ho gU ev k fun a c b p hm h=>Qt h hm⟩
theorem fB.PM (ho:∀ {e f},FY ns o e f=true→q0 x e f=true) (hq:LN aab w n o) (b:B1 aab w A hT l (fun v=>getAttr v x true) o):fB aab w n A hT l env ns FR o:=⟨fun F H gU ev k ke=>
 jk (ho gU) fun a y p h=>(eq_of_beq (ae h)).symm▸Qr ((ev _ (aa (aa h))).one fun aj g' af s' v V G H' hv h=>b.go G.at_ H' hv (hq.go h) (k.at G)) (wX (ae (aa h)))⟩
theorem fB.bin (ho:∀ {e f},FY ns o e f=true→m8 c e f=true) (hq:LN aab w n o) (b:B2 aab w A hT l (binaryOp c) o):fB aab w n A hT l env ns FR o:=⟨fun F H gU ev k ke=>
 Hl (ho gU) fun a d p h=>Qs ((ev _ h).two fun aj g' af s' v V u U G H' hv hx h=>b.go G.at_ H' hv hx (hq.go h) (k.at G))⟩
theorem fB.sub (ho:∀ {e f},FY ns o e f=true→kY e f=true) (hq:LN aab w n o) (b:∀ {value slice},il slice→B2 aab w A hT l (subscriptTail value slice) o):fB aab w n A hT l env ns FR o:=⟨fun F H gU ev k ke=>
 qA (ho gU) fun a i p hs h=>JR ((ev _ h).two fun aj g' af s' v V u U G H' hv hx h=>(b hs).go G.at_ H' hv hx (hq.go h) (k.at G))⟩
theorem ao.q1 {P:List Value→Prop} {vs:List Value} {Vs:List V} (hv:ao w γ vs Vs) (h:qV o Vs Q σ) (n2:∀ {a b Q σ},¬ Mine.q2 o a b Q σ) (k:∀v V,aq w γ v V→Mine.q1 o V Q σ→P [v]):P vs:=by
 induction hv with
 | nil=>exact h.elim
 | @cons v V vs Vs h1 h2=>induction h2 with
  | nil=>exact k v V h1 h
  | @cons u U vs Vs h2 h3=>induction h3 with
   | nil=>exact (n2 h).elim
   | cons=>exact h.elim
theorem fB.Gq {b:Str} {f:Value} (T:Tp (KK w) hT) (N:cZ w hT l env ns FR) (ho:∀ {e f},FY ns o e f=true→zP ns b e f=true) (hq:LN aab w n o) (hb:(b,f)∈y4) (hk:∀h:Heap,bW (model aab w) f h) (d:B1 aab w A hT l (fun v=>call f [v]) o) (no:∀ {a b Q σ},¬ q2 o a b Q σ):fB aab w n A hT l env ns FR o:=⟨fun {γ g fr s σ e fc Q E Qc Ec} F H gU ev k ke=>
 pj (ho gU) fun q es p hg hp h=>oM N T (N.at_ F) hb hg hk hp (ev _ h _ fun aj g' af s' vs Vs G H' hv h=>hv.q1 (P:=fun vs=>wpAny (model aab w) A (call f vs) Qc Ec s') (hq.go h) no fun v V h1 h=>d.go G.at_ H' h1 h (k.at G))⟩
theorem ao.q2 {P:List Value→Prop} {vs:List Value} {Vs:List V} (hv:ao w γ vs Vs) (h:qV o Vs Q σ) (n1:∀ {a Q σ},¬ Mine.q1 o a Q σ) (k:∀v V u U,aq w γ v V→aq w γ u U→Mine.q2 o V U Q σ→P [v,u]):P vs:=by
 induction hv with
 | nil=>exact h.elim
 | @cons v V vs Vs h1 h2=>induction h2 with
  | nil=>exact (n1 h).elim
  | @cons u U vs Vs h2 h3=>induction h3 with
   | nil=>exact k v V u U h1 h2 h
   | cons=>exact h.elim
theorem fB.PR {b:Str} {f:Value} (T:Tp (KK w) hT) (N:cZ w hT l env ns FR) (ho:∀ {e f},FY ns o e f=true→zP ns b e f=true) (hq:LN aab w n o) (hb:(b,f)∈y4) (hk:∀h:Heap,bW (model aab w) f h) (d:B2 aab w A hT l (fun v u=>call f [v,u]) o) (no:∀ {a Q σ},¬ q1 o a Q σ):fB aab w n A hT l env ns FR o:=⟨fun {γ g fr s σ e fc Q E Qc Ec} F H gU ev k ke=>
 pj (ho gU) fun q es p hg hp h=>oM N T (N.at_ F) hb hg hk hp (ev _ h _ fun aj g' af s' vs Vs G H' hv h=>hv.q2 (P:=fun vs=>wpAny (model aab w) A (call f vs) Qc Ec s') (hq.go h) no fun v V u U h1 h2 h=>d.go G.at_ H' h1 h2 h (k.at G))⟩
theorem fB.Z3 (T:Tp (KK w) hT) (N:cZ w hT l env ns FR) (ho:∀ {e f},FY ns o e f=true→Eb ns b e f=true) (hq:LN aab w n o) (hb:(b,f)∈y4) (d:B1 aab w A hT l (fun v=>call (.builtin "isinstance") [v,f]) o):fB aab w n A hT l env ns FR o:=⟨fun {γ g fr s σ e fc Q E Qc Ec} F H gU ev k ke=>
 pj (ho gU) fun q es p hg hp h=>oM N T (N.at_ F) (f:=.builtin "isinstance") (bL (i:=1) rfl) hg (fun h=>sX) hp (iK (P:=fun es=>Ev (model aab w) A env Ec es (fun vs aG=>wpAny (model aab w) A (call (.builtin "isinstance") vs) Qc Ec aG) s) h fun x y r h=>by
  rw [fT.mp (ae h)]
  exact vh ((ev _ (aa (aa h))).one fun aj g' af s' v V G H' hv h2=>Kg (ae (aa h)) fun q2 Wx=>N.Zg T G.at_ hb Wx (d.go G.at_ H' hv (hq.go h2) (k.at G))))⟩
theorem tR {x:Option Expr} {f:Expr→Bool} {P:Option Expr→Prop} (h:Oo x f=true) (k:∀b,f b=true→P (some b)):P x:=by
 cases x with
 | none=>cases h
 | some b=>exact k b h
theorem kS {x:Option Expr} {P:Option Expr→Prop} (h:Ic x=true) (k:P none):P x:=by
 cases x with
 | none=>exact k
 | some b=>cases h
section
variable {P:Expr→Prop} {f:pF}
@[elab_as_elim] theorem Om (h:Ol e f=true) (k:∀a b p q,f [a,b]=true→P (.Subscript a (.Slice none (some b) none p) q)):P e:=lL (show Ol e f=true from h) fun a x y z p q h=>
 kS (P:=fun x=>P (.Subscript a (.Slice x y z p) q)) (ae h) (kS (P:=fun z=>P (.Subscript a (.Slice none y z p) q)) (ae (aa h)) (tR (P:=fun y=>P (.Subscript a (.Slice none y none p) q)) (aa (aa h)) fun b h=>k a b p q h))
@[elab_as_elim] theorem D9 (h:vU e f=true) (k:∀a b p q,f [a,b]=true→P (.Subscript a (.Slice (some b) none none p) q)):P e:=lL (show vU e f=true from h) fun a x y z p q h=>
 kS (P:=fun y=>P (.Subscript a (.Slice x y z p) q)) (ae h) (kS (P:=fun z=>P (.Subscript a (.Slice x none z p) q)) (ae (aa h)) (tR (P:=fun y=>P (.Subscript a (.Slice y none none p) q)) (aa (aa h)) fun b h=>k a b p q h))
@[elab_as_elim] theorem IG (h:Ed e f=true) (k:∀a b p q,Co b=true→f [a]=true→P (.Subscript a (.Slice none none (some b) p) q)):P e:=lL (show Ed e f=true from h) fun a x y z p q h=>
 kS (P:=fun x=>P (.Subscript a (.Slice x y z p) q)) (ae h) (kS (P:=fun z=>P (.Subscript a (.Slice none z _ p) q)) (ae (aa h)) (tR (P:=fun y=>P (.Subscript a (.Slice none none y p) q)) (aa (aa h)) fun b h=>k a b p q (ae h) (aa h)))
@[elab_as_elim] theorem Ea (h:vV e f=true) (k:∀a b p q,Co b=true→f [a]=true→P (.Subscript a (.Slice none (some b) none p) q)):P e:=lL (show vV e f=true from h) fun a x y z p q h=>
 kS (P:=fun x=>P (.Subscript a (.Slice x y z p) q)) (ae h) (kS (P:=fun z=>P (.Subscript a (.Slice none y z p) q)) (ae (aa h)) (tR (P:=fun y=>P (.Subscript a (.Slice none y none p) q)) (aa (aa h)) fun b h=>k a b p q (ae h) (aa h)))
end
theorem TN (X:Cx w hT A l n) (hu:A.units+64<cLine) (N:cZ w hT l env ns FR):fB aab w n A hT l env ns FR o:=by
 have T:=X.T
 cases ho:oW o with
 | true=>exact fB.cmp X hu ho
 | false=>cases o with
  | nJ=>exact fB.PM (fun h=>h) ⟨fun h=>h⟩ (XP T)
  | fC=>exact fB.PM (fun h=>h) ⟨fun h=>h⟩ (XR T)
  | tat i=>exact fB.PM (fun h=>h) ⟨fun h=>h⟩ (Yv T)
  | aw=>exact fB.sub (fun h=>h) ⟨fun h=>h⟩ Ta
  | idxM=>exact fB.sub (fun h=>h) ⟨fun h=>h⟩ Tc
  | idxT=>exact fB.sub (fun h=>h) ⟨fun h=>h⟩ Te
  | idxS=>exact fB.sub (fun h=>h) ⟨fun h=>h⟩ Td
  | idxI=>exact fB.sub (fun h=>h) ⟨fun h=>h⟩ S9
  | idxA=>exact fB.sub (fun h=>h) ⟨fun h=>h⟩ SY
  | idxB=>exact fB.sub (fun h=>h) ⟨fun h=>h⟩ S6
  | ng=>exact ⟨fun {γ g fr s σ e f Q E Qc Ec} F H gU ev k ke=>Om gU fun a b p q h=>UM (dW ((ev _ h).two fun aj g' af s' v V u U G H' hv hu h=>Tw T G.at_ H' hv hu h (k.at G)) (fun v s₁ aA=>eF (lI (dW aA (fun u aG cE=>eF cE) fun O O x=>x))) fun O O x=>x)⟩
  | slDrop=>exact ⟨fun {γ g fr s σ e f Q E Qc Ec} F H gU ev k ke=>D9 gU fun a b p q h=>UM (dW ((ev _ h).two fun aj g' af s' v V u U G H' hv hu h=>Iy T G.at_ H' hv hu h (k.at G)) (fun v s₁ aA=>lI (dW aA (fun u aG cE=>eF (eF cE)) fun O O x=>x)) fun O O x=>x)⟩
  | slRev=>exact ⟨fun {γ g fr s σ e f Q E Qc Ec} F H gU ev k ke=>IG gU fun a b p q hb h=>UM ((ev _ h).one fun aj g' af s' v V G H' hv hq=>eF (eF (lI (xE hb fun t t'=>Oc (s:={ s' with toks:=t' }) T (Go.toks (γ:=aj) G.at_ t').at_ H' hv hq (k.at (G.trans (Go.toks G.at_ t')))))))⟩
  | slInit=>exact ⟨fun {γ g fr s σ e f Q E Qc Ec} F H gU ev k ke=>Ea gU fun a b p q hb h=>UM ((ev _ h).one fun aj g' af s' v V G H' hv hq=>eF (lI (xE hb fun t t'=>eF (Iz (s:={ s' with toks:=t' }) T (Go.toks (γ:=aj) G.at_ t').at_ H' hv hq (k.at (G.trans (Go.toks G.at_ t')))))))⟩
  | add=>exact fB.bin (fun h=>h) ⟨fun h=>h⟩ XM
  | sub=>exact fB.bin (fun h=>h) ⟨fun h=>h⟩ Yu
  | mul=>exact fB.bin (fun h=>h) ⟨fun h=>h⟩ Yn
  | mod=>exact fB.bin (fun h=>h) ⟨fun h=>h⟩ Yl
  | fdiv=>exact fB.bin (fun h=>h) ⟨fun h=>h⟩ XT
  | cat=>exact fB.bin (fun h=>h) ⟨fun h=>h⟩ (XQ T)
  | neg=>exact ⟨fun {γ g fr s σ e f Q E Qc Ec} F H gU ev k ke=>lM (show Ln e f=true from gU) fun a p h=>Qx ((ev _ h).one fun aj g' af s' v V G H' hv h=>Yr.go G.at_ H' hv h (k.at G))⟩
  | lu=>exact fB.PR T N (fun h=>h) ⟨fun h=>h⟩ (bL (i:=1) rfl) (fun h=>sX) (Yf T) fun h=>h
  | isInt=>exact fB.Z3 T N (fun h=>h) ⟨fun h=>h⟩ (bL (i:=7) rfl) (Oa T)
  | isBool=>exact fB.Z3 T N (fun h=>h) ⟨fun h=>h⟩ (bL (i:=8) rfl) (Iw T)
  | len=>exact fB.Gq T N (fun h=>h) ⟨fun h=>h⟩ (bL (i:=0) rfl) (fun h=>sX) Yi fun h=>h
  | abs=>exact fB.Gq T N (fun h=>h) ⟨fun h=>h⟩ (bL (i:=2) rfl) (fun h=>sX) XK fun h=>h
  | intb=>exact fB.Gq T N (fun h=>h) ⟨fun h=>h⟩ (bL (i:=7) rfl) (fun h=>Hz) Tf fun h=>h
  | max=>exact fB.PR T N (fun h=>h) ⟨fun h=>h⟩ (bL (i:=3) rfl) (fun h=>sX) (Yk X.hh) fun h=>h
  | sortd=>exact fB.Gq T N (fun h=>h) ⟨fun h=>h⟩ (bL (i:=4) rfl) (fun h=>sX) (Tx X.hh T) fun h=>h
  | tup=>exact ⟨fun {γ g fr s σ e f Q E Qc Ec} F H gU ev k ke=>fM (show ye e f=true from gU) fun es m p h=>lH (ae h) (ev _ (aa h) _ fun aj g' af s' vs Vs G H' hv h=>(Yz T).go G.at_ H' hv h (k.at G))⟩
  | tlv=>exact ⟨fun {γ g fr s σ e f Q E Qc Ec} F H gU ev k ke=>fM (show ye e f=true from gU) fun es m p h=>lH (ae h) (ev _ (aa h) _ fun aj g' af s' vs Vs G H' hv h=>Yw.go G.at_ H' hv h (k.at G))⟩
  | lst=>exact ⟨fun {γ g fr s σ e f Q E Qc Ec} F H gU ev k ke=>xD (show Lm e f=true from gU) fun es p h=>vd (ae h) (ev _ (aa h) _ fun aj g' af s' vs Vs G H' hv h=>(Yj T).go G.at_ H' hv h (k.at G))⟩
  | call=>exact ⟨fun {γ g fr s σ e fc Q E Qc Ec} F H gU ev k ke=>jl (show D8 e fc=true from gU) fun f as p hf h=>PX hf (ae h) (dW (ev _ (aa h) (fun vs s'=>∀f as,vs=f::as→bW (model aab w) f s'.heap∧wpAny (model aab w) A (call f as) Qc Ec s') fun aj g' af s' vs Vs G H' hv h=>by
    induction hv with
    | nil=>exact fun f as e=>nomatch e
    | cons h1 h2=>exact fun f as e=>(lC e).1▸(lC e).2▸⟨h1.keeps (dD h) T G.at_ H',sJ (eO h X G.at_ H' h1 h2 (fun gN g2 eg s2 v V G2 H2 hv q=>Bv (k _ _ _ _ _ _ (G.trans G2) H2 hv q)) fun gN g2 eg s2 e s3 G2 H2 hE hr=>Bu (ke _ _ _ _ _ _ (G.trans G2) H2 hE hr))⟩) (fun v s₁ aA=>xq aA fun vs s h=>h v vs rfl) fun O O x=>x)⟩
  | _=>exact tf ho
end
noncomputable section
section
variable {e:Expr} {P:Expr→Prop}
noncomputable def Cp (e:Expr) (f:Expr→Str→List Expr→Bool):Bool:=(vw e).t == 2 && ((vw (vw e).a).t == 3 && ((vw (vw e).a).p.endLine == (vw e).p.line && (ea (vw (vw e).a).a && f (vw (vw e).a).a (vw (vw e).a).x (vw e).es)))
@[elab_as_elim] theorem xF (h:Cp e f=true) (k:∀o x as p q,(q.endLine == p.line)=true→ea o=true→f o x as=true→P (.Call (.Attribute o x q) as [] p)):P e:=
 have y:(vw e).a=_:=bj (ae (aa h))
 (show e=_ from bj (ae h)).symm▸y.symm▸k _ _ _ _ _ (ae (aa (aa h))) (ae (aa (aa (aa h)))) (aa (aa (aa (aa h))))
noncomputable def Cq (e:Expr) (f:Expr→Str→List Expr→Bool):Bool:=Cp e fun o x as=>as.all aQ && (decide (as.length<30) && f o x as)
@[elab_as_elim] theorem qy (h:Cq e f=true) (k:∀o x as p q,(q.endLine == p.line)=true→ea o=true→as.all aQ=true→as.length<30→f o x as=true→P (.Call (.Attribute o x q) as [] p)):P e:=
 xF h fun o x as p q h1 h2 h=>k o x as p q h1 h2 (ae h) (f3 (ae (aa h))) (aa (aa h))
noncomputable def eN (ks:List Nat) (es:List (Option Expr)):Bool:=List.rec (motive:=fun O=>List (Option Expr)→Bool) (fun es=>es.isEmpty) (fun k O ih es=>List.casesOn (motive:=fun O=>Bool) es false fun o r=>Oo o (fun e=>decide (k<30) && fW e (.str (sT k))) && ih r) ks es
noncomputable def vz (e:Expr) (f:Expr→Expr→Expr→List Expr→Scope→Bool):Bool:=(vw e).t == 14 && mZ (vw e).gs false fun g=>decide (g.is_async=0) && f (vw e).a g.target g.iter g.ifs (vw e).sc
theorem gH {α:Type} {l:List α} {f:α→Bool} {P:List α→Prop} (h:mZ l false f=true) (k:∀a,f a=true→P [a]):P l:=by
 cases l with
 | nil=>cases h
 | cons a r=>cases r with
  | nil=>exact k a h
  | cons=>cases h
theorem G6 (h:g.is_async=0):(⟨g.target,g.iter,g.ifs,0⟩:Comprehension)=g:=by cases g;cases h;rfl
@[elab_as_elim] theorem mP {f:Expr→Expr→Expr→List Expr→Scope→Bool} (h:vz e f=true) (k:∀a t i fs sc p,f a t i fs sc=true→P (.ListComp a [⟨t,i,fs,0⟩] sc p)):P e:=
 (show e=_ from bj (ae h)).symm▸gH (P:=fun gs=>P (.ListComp (vw e).a gs (vw e).sc (vw e).p)) (aa h) fun g h=>G6 (f3 (ae h))▸k _ _ _ _ _ _ (aa h)
noncomputable def Ck (e:Expr) (f:Expr→Str→Str→Scope→Bool):Bool:=vz e fun a t i fs sc=>fW a (.int 1) && isName t fun x=>Cp i fun o y as=>y == ("values":Str) && (as.isEmpty && mZ fs false fun c=>qv .Is c fun l r=>isName l fun x'=>x == x' && isName r fun z=>f o x z sc)
@[elab_as_elim] theorem Cm {f:Expr→Str→Str→Scope→Bool} (h:Ck e f=true) (k:∀o x z sc kk p0 p1 p2 p3 p4 p5 p6 p7,(p2.endLine == p3.line)=true→ea o=true→f o x z sc=true →
  P (.ListComp (.Constant (.int 1) kk p0) [⟨.Name x p1,.Call (.Attribute o "values" p2) [] [] p3,[.Compare (.Name x p4) [.Is] [.Name z p5] p6],0⟩] sc p7)):P e:=
 mP h fun a t i fs sc p7 h=>dn (P:=fun a=>P (.ListComp a [⟨t,i,fs,0⟩] sc p7)) (ae h) fun kk p0=>bB (P:=fun t=>P (.ListComp _ [⟨t,i,fs,0⟩] sc p7)) (aa h) fun x p1 h=>
  xF (P:=fun i=>P (.ListComp _ [⟨_,i,fs,0⟩] sc p7)) h fun o y as p3 p2 e1 e2 h=>gH (P:=fun fs=>P (.ListComp _ [⟨_,_,fs,0⟩] sc p7)) (aa (aa h)) fun c hc=>
   mO (P:=fun c=>P (.ListComp _ [⟨_,_,[c],0⟩] sc p7)) hc fun l r p6 O hc=>bB (P:=fun l=>P (.ListComp _ [⟨_,_,[.Compare l _ _ p6],0⟩] sc p7)) hc fun x' p4 hc=>
    bB (P:=fun r=>P (.ListComp _ [⟨_,_,[.Compare _ _ [r] p6],0⟩] sc p7)) (aa hc) fun z p5 hz=>(eq_of_beq (ae h)).symm▸(fT.mp (ae (aa h))).symm▸(eq_of_beq (ae hc))▸k o x z sc kk p0 p1 p2 p3 p4 p5 p6 p7 e1 e2 hz
end
noncomputable def qW (e:Expr):Bool:= !vB e
theorem jQ (h:qW e=true) (x:Value):foldedSetIterable e env x=pure x:=by
 cases e <;> first | rfl | cases h
noncomputable def Gl (ns:bJ) (i:Nat) (f:Str→NameKind→Bool):Bool:=Option.rec (motive:=fun O=>Bool) false (fun p=>f p.1 p.2) ns[i]?
theorem wW {ns:bJ} {i:Nat} {f:Str→NameKind→Bool} {R:Prop} (h:Gl ns i f=true) (k:∀y kk,ns[i]?=some (y,kk)→f y kk=true→R):R:=by
 unfold Gl at h
 cases e:ns[i]? with
 | none=>rw [e] at h;cases h
 | some p=>rw [e] at h;exact k p.1 p.2 e h
noncomputable def RX (ns:bJ) (i:Nat) (x:Str):Bool:=Gl ns i fun y k=>y == x && k != .globalImplicit
noncomputable def aX (ns:bJ) (sc:Scope):bJ:=sc.names.map fun p=>if (p.2 == .free && ns.lookup p.1 == some .cell) then (p.1,.cell) else p
noncomputable def iz (ns:bJ) (r:bJ) (fv:List (Option Nat)):Bool:=List.rec (motive:=fun O=>List (Option Nat)→Bool) (fun fv=>fv.isEmpty)
 (fun p O ih fv=>List.casesOn (motive:=fun O=>Bool) fv false fun o fv=>Option.rec (motive:=fun O=>Bool) (p.2 == .local || p.2 == .globalImplicit) (fun j=>p.2 == .cell && Gl ns j fun y k'=>y == p.1 && k' == .cell) o && ih fv) r fv
noncomputable def gC (sc:Scope):Bool:=D2 sc && sc.names.all (fun p=>p.2 == .local || p.2 == .free || p.2 == .globalImplicit)
noncomputable def xC (ns:bJ) (i:Nat) (e:Expr):Bool:=isName e fun x=>Gl ns i fun y k=>y == x && k == .local
noncomputable def EG (ns:bJ) (tg:List Nat) (e:Expr):Bool:=List.casesOn (motive:=fun O=>Bool) tg false fun i r=>List.casesOn (motive:=fun O=>Bool) r (xC ns i e) fun j r=>r.isEmpty && isTup e fun es=>tV es false fun a b r=>r.isEmpty && (xC ns i a && xC ns j b)
noncomputable def mR (m:MI):Nat:=MI.casesOn (motive_3:=fun O=>Nat) m (fun O=>1) (fun O=>1) (fun O=>1) (fun O O O=>1) (fun O O=>2)
noncomputable def MY (m:ME):Bool:=ME.casesOn (motive_1:=fun O=>Bool) m (fun O=>false) (fun O=>false) (fun O=>true) (fun O O=>false) (fun O O=>false) (fun O=>false) (fun O O O=>false) (fun O O=>false) (fun O O=>false) (fun O O O=>false) (fun O O O O O=>false) (fun O O=>false) (fun O O=>false) false
noncomputable abbrev CE:=bJ→Expr→Bool
noncomputable abbrev FI:=bJ→List Expr→Bool
noncomputable abbrev L6 (i:Nat):CE:=fun ns e=>isName e (RX ns i)
noncomputable abbrev cK (v:V):CE:=fun ns e=>Zi v e
noncomputable abbrev cG (v:V):CE:=fun ns e=>isName e fun x=>Am ns x && Zh v x
noncomputable abbrev LY (a b:CE):CE:=fun ns e=>Cg .And e fun x y=>a ns x && b ns y
noncomputable abbrev VL (a b:CE):CE:=fun ns e=>Cg .Or e fun x y=>a ns x && b ns y
noncomputable abbrev L8 (a:CE):CE:=fun ns e=>xH .Not e (a ns)
noncomputable abbrev L5 (c a b:CE):CE:=fun ns e=>isIf e fun x y z=>c ns x && (a ns y && b ns z)
noncomputable def plainQ (e:Expr):Bool:=(vw e).t == 2 || ((vw e).t == 3 || ((vw e).t == 4 || ((vw e).t == 5 || ((vw e).t == 6 || ((vw e).t == 11 || ((vw e).t == 12 || ((vw e).t == 8 && (vw e).uo == .USub)))))))
noncomputable abbrev VK (o:Op) (as:FI):CE:=fun ns e=>(oW o || plainQ e) && FY ns o e (as ns)
noncomputable abbrev LZ (ks:List Nat) (gs:Bool) (as:FI):CE:=fun ns e=>Ki e fun ks' es=>eN ks ks' && (es.all aQ && (decide (ks.length≤25) && (decide (ks.length=es.length) && (as ns es && (decide (ks.length≤15) || (decide (17<ks.length) && gs))))))
noncomputable abbrev AN (m:Mt) (a:CE) (as:FI):CE:=fun ns e=>Cq e fun o x es=>x == R9 m && (a ns o && as ns es)
noncomputable abbrev AJ (fv:List (Option Nat)) (tg:List Nat) (k:Nat) (el it:CE) (cond:FI):CE:=fun ns e=>vz e fun a t i f sc=>gC sc && (iz ns (aX ns sc) fv && (EG (aX ns sc) tg t && (qW i && (decide (f.length≤1) && (decide (tg.length=k) && (it ns i && (el (aX ns sc) a && cond (aX ns sc) f)))))))
noncomputable abbrev AM (j:Nat) (m:CE):CE:=fun ns e=>Ck e fun o x z sc=>gC sc && ((sc.names.lookup x == some .local) && ((sc.names.lookup z == some .free) && (sc.names.all (fun p=>p.2 != .free || p.1 == z) && (decide (ns[j]?=some (z,.cell)) && m ns o))))
noncomputable abbrev VM (k:Bool) (m:CE):CE:=fun ns e=>Cq e fun o x es=>x == (if k then "go_on" else "is_round":Str) && (es.isEmpty && m ns o)
noncomputable abbrev AL:CE:=fun O O=>true
noncomputable abbrev L7:FI:=fun O es=>es.isEmpty
noncomputable abbrev AK (a:CE) (r:FI):FI:=fun ns es=>List.casesOn (motive:=fun O=>Bool) es false fun x xs=>a ns x && r ns xs
noncomputable abbrev L9 (a:CE):CE:=fun ns e=>zP ns "range" e fun as=>mZ as false (a ns)
noncomputable def three (l:List α) (f:α→α→α→Bool):Bool:=tV l false fun a b r=>mZ r false (f a b)
noncomputable abbrev AO (a b c:CE):CE:=fun ns e=>zP ns "range" e fun as=>three as fun x y z=>a ns x && (b ns y && c ns z)
noncomputable abbrev Ma (a b:CE):CE:=fun ns e=>zP ns "zip" e fun as=>tV as false fun x y r=>r.isEmpty && (a ns x && b ns y)
noncomputable def yZ (m:gr):Bool:=gr.rec (motive_1:=fun O=>Unit) (motive_2:=fun O=>Bool) (motive_3:=fun O=>Unit) (fun O=>()) (fun O=>()) (fun O=>()) (fun O O O O=>()) (fun O O O O=>()) (fun O O=>()) (fun O O O O O O=>()) (fun O O O=>()) (fun O O O=>()) (fun O O O O O=>()) (fun O O O O O O O O=>()) (fun O O O=>()) (fun O O O=>()) () true (fun e O O r=>MY e && r) (fun O O=>()) (fun O O=>()) (fun O O=>()) (fun O O O O O O=>()) (fun O O O O=>()) m
noncomputable abbrev g8 (ns:bJ) (m:ME) (e:Expr):Bool:=ME.rec (motive_1:=fun O=>CE) (motive_2:=fun O=>FI) (motive_3:=fun O=>CE) L6 cK cG (fun O O=>LY) (fun O O=>VL) (fun O=>L8) (fun O O O=>L5) (fun o O=>VK o) (fun ks as=>LZ ks (yZ as)) (fun m O O=>AN m) (fun fv tg O it O=>AJ fv tg (mR it)) (fun j O=>AM j) (fun k O=>VM k) AL L7 (fun O O=>AK) (fun O a=>a) (fun O a=>a) (fun O=>L9) (fun O O O=>AO) (fun O O=>Ma) m ns e
noncomputable abbrev jD (ns:bJ) (m:gr) (es:List Expr):Bool:=gr.rec (motive_1:=fun O=>CE) (motive_2:=fun O=>FI) (motive_3:=fun O=>CE) L6 cK cG (fun O O=>LY) (fun O O=>VL) (fun O=>L8) (fun O O O=>L5) (fun o O=>VK o) (fun ks as=>LZ ks (yZ as)) (fun m O O=>AN m) (fun fv tg O it O=>AJ fv tg (mR it)) (fun j O=>AM j) (fun k O=>VM k) AL L7 (fun O O=>AK) (fun O a=>a) (fun O a=>a) (fun O=>L9) (fun O O O=>AO) (fun O O=>Ma) m ns es
noncomputable abbrev UJ (ns:bJ) (m:MI) (e:Expr):Bool:=MI.rec (motive_1:=fun O=>CE) (motive_2:=fun O=>FI) (motive_3:=fun O=>CE) L6 cK cG (fun O O=>LY) (fun O O=>VL) (fun O=>L8) (fun O O O=>L5) (fun o O=>VK o) (fun ks as=>LZ ks (yZ as)) (fun m O O=>AN m) (fun fv tg O it O=>AJ fv tg (mR it)) (fun j O=>AM j) (fun k O=>VM k) AL L7 (fun O O=>AK) (fun O a=>a) (fun O a=>a) (fun O=>L9) (fun O O O=>AO) (fun O O=>Ma) m ns e
end
section
variable (aab:Program) (w:World) (n:Nat) (A:Around) (hT:Heap) (l:List Env)
def Y4 (γ:Ga) (g:GH) (s:Shared) (Q:Bool→St→Prop) (Qc:Bool→Shared→Prop):Prop:=∀aj g' af s' b,Go hT l γ g s aj g' s'→HP aab w hT aj af g'→Q b af→Qc b s'
def SE (m:ME):Prop:=∀ {env ns FR fr γ g s σ e Q E Qc Ec},cZ w hT l env ns FR→g8 ns m e=true→FR γ g fr s→HP aab w hT γ σ g→qE (aB aab w n) m fr Q E σ→Ct aab w hT l γ g s Q Qc→Ke aab w hT l γ g s E Ec→wpAny (model aab w) A (eval e env) Qc Ec s
def ST (m:ME):Prop:=∀ {env ns FR fr γ g s σ e Q E Qc Ec},cZ w hT l env ns FR→g8 ns m e=true→FR γ g fr s→HP aab w hT γ σ g→qT (aB aab w n) m fr Q E σ→Y4 aab w hT l γ g s Q Qc→Ke aab w hT l γ g s E Ec→wpAny (model aab w) A (isTrue e env (eval e env)) Qc Ec s
def FN (m:gr):Prop:=∀ {env ns FR fr γ g s σ es Q E Ec},cZ w hT l env ns FR→jD ns m es=true→FR γ g fr s→HP aab w hT γ σ g→SH (aB aab w n) m fr Q E σ→Ke aab w hT l γ g s E Ec→F9 aab w n A hT l env γ g s Q Ec es
end
section
variable {aab:Program} {w:World} {n:Nat} {A:Around} {hT:Heap} {l:List Env} {γ aj:Ga} {g g':GH} {s s':Shared} {σ:St} {E:PE} {Ec:Value→Shared→Prop}
theorem Ke.at (k:Ke aab w hT l γ g s E Ec) (G:Go hT l γ g s aj g' s'):Ke aab w hT l aj g' s' E Ec:=fun a b c d e f x h he hr=>k a b c d e f (G.trans x) h he hr
theorem F9.at' (h:F9 aab w n A hT l env aj g' s' P Ec es) (G:Go hT l γ g s aj g' s') 
  (k:∀gN g2 eg s2 vs Vs,Go hT l γ g s gN g2 s2→Go hT l aj g' s' gN g2 s2→HP aab w hT gN eg g2→ao w gN vs Vs→P Vs eg→Qe vs s2):Ev (model aab w) A env Ec es Qe s':=
 h Qe fun gN g2 eg s2 vs Vs G2 H2 hv hp=>k _ _ _ _ _ _ (G.trans G2) G2 H2 hv hp
theorem Tr:FN aab w n A hT l .nil:=fun {env ns FR fr γ g s σ es Q E Ec} N ck F H h ke Qe k=>by
 rw [fT.mp ck]
 exact k _ _ _ _ _ _ (Go.refl (N.at_ F)) H .nil h
theorem Lc (hm:SE aab w n A hT l m) (hr:FN aab w n A hT l r):FN aab w n A hT l (.cons m r):=fun {env ns FR fr γ g s σ es Q E Ec} N ck F H h ke Qe k=>by
 cases es with
 | nil=>cases ck
 | cons e es=>exact bp (hm N (ae ck) F H h (fun aj g' af s' v V G H' hv h'=>(hr N (aa ck) (N.go F G) H' h' (ke.at G)).at' G fun gN g2 eg s2 vs Vs G2 G3 H2 dR hp=>k _ _ _ _ _ _ G2 H2 (.cons (hv.up G3.le) dR) hp) ke)
theorem gZ {v:Value} {V:V} {Q:Bool→St→Prop} {Qb:Bool→Shared→Prop} {M:Model} (hv:aq w γ v V) (h:qb V Q σ) (k:∀b,Q b σ→Qb b s):wpAny M A (truthy v) Qb Ec s:=
 hv.x8 h fun b q=>wpAny_truthy_bool (k b q)
theorem mr (h:ey b P Q) (f:P→P') (g:Q→Q'):ey b P' Q':=by
 cases b with
 | true=>exact f h
 | false=>exact g h
theorem To (i:Nat):SE aab w n A hT l (.loc i):=fun {env ns FR fr γ g s σ e Q E Qc Ec} N ck F H h k ke=>bB ck fun x p ck=>wW ck fun y kk hi ck=>KY h fun V hf q=>
 (N.ld F hi hf).elim fun v h=>eq_of_beq (ae ck)▸h.2 (k.now (N.at_ F) H h.1 q)
theorem sK (v:V):SE aab w n A hT l (.k v):=fun {env ns FR fr γ g s σ e Q E Qc Ec} N ck F H h k ke=>by
 have S:=N.at_ F
 cases v with
 | av a=>cases a with
  | num m=>exact dn ck fun O O=>xo fun t t'=>k.tok S H _ Num.rel h
  | _=>cases ck
 | str m=>exact dn (aa ck) fun O O=>mI fun t t'=>k.tok S H _ (.str (f3 (ae ck))) h
 | none=>exact dn ck fun O O=>Mu (k.now S H .none h)
 | bool b=>exact dn ck fun O O=>Mr (k.now S H .bool h)
 | _=>cases ck
theorem sG (X:Cx w hT A l n) (v:V):SE aab w n A hT l (.g v):=fun {env ns FR fr γ g s σ e Q E Qc Ec} N ck F H h k ke=>bB ck fun x p ck=>
 (Bo (w:=w) (γ:=γ) (aa ck)).elim fun u e=>N.glob X.T (N.at_ F) e.1 (ae ck) (k.now (N.at_ F) H e.2 h)
theorem BC (h:wpAny M A (eval (m5 o b r p) env) Qc Ec s):wpAny M A (eval (.BoolOp o (b::r) p) env) Qc Ec s:=by
 cases r with
 | nil=>exact Qw h
 | cons=>exact h
theorem I9 (h:wpAny M A (isTrue (m5 .And b r p) env (eval (m5 .And b r p) env)) Qc Ec s):wpAny M A (isTrue (.BoolOp .And (b::r) p) env whole) Qc Ec s:=by
 cases r with
 | nil=>exact Ls (dW h (fun c s' h'=>by cases c with
   | true=>exact w4 (OA h')
   | false=>exact rT h') fun O O x=>x)
 | cons=>exact h
theorem Ja (h:wpAny M A (isTrue (m5 .Or b r p) env (eval (m5 .Or b r p) env)) Qc Ec s):wpAny M A (isTrue (.BoolOp .Or (b::r) p) env whole) Qc Ec s:=by
 cases r with
 | nil=>exact Ud (dW h (fun c s' h'=>by cases c with
   | true=>exact w4 h'
   | false=>exact rT (Ue h')) fun O O x=>x)
 | cons=>exact h
theorem XN {a b:ME} (ha:SE aab w n A hT l a) (hb:SE aab w n A hT l b):SE aab w n A hT l (.and a b):=fun {env ns FR fr γ g s σ e Q E Qc Ec} N ck F H h k ke=>lK ck fun x b' r p ck=>
 Qq (ha N (ae ck) F H h (fun aj g' af s' v V G H' hv h'=>gZ hv h' fun c hc=>mr hc (fun hc=>BC (hb N (aa ck) (N.go F G) H' hc (k.trans G) (ke.at G))) fun hc=>k _ _ _ _ _ _ G H' hv hc) ke)
theorem sOr {a b:ME} (ha:SE aab w n A hT l a) (hb:SE aab w n A hT l b):SE aab w n A hT l (.or a b):=fun {env ns FR fr γ g s σ e Q E Qc Ec} N ck F H h k ke=>lK ck fun x b' r p ck=>
 VZ (ha N (ae ck) F H h (fun aj g' af s' v V G H' hv h'=>gZ hv h' fun c hc=>mr hc (fun hc=>k _ _ _ _ _ _ G H' hv hc) fun hc=>BC (hb N (aa ck) (N.go F G) H' hc (k.trans G) (ke.at G))) ke)
theorem Ys (ha:SE aab w n A hT l a):SE aab w n A hT l (.not a):=fun {env ns FR fr γ g s σ e Q E Qc Ec} N ck F H h k ke=>lM ck fun x p ck=>
 Qv (ha N ck F H h (fun aj g' af s' v V G H' hv h'=>gZ hv h' fun c hc=>k _ _ _ _ _ _ G H' .bool hc) ke)
theorem X9 (hc:ST aab w n A hT l c) (ha:SE aab w n A hT l a) (hb:SE aab w n A hT l b):SE aab w n A hT l (.jK c a b):=fun {env ns FR fr γ g s σ e Q E Qc Ec} N ck F H h k ke=>M0 ck fun x y z p ck=>
 GU (hc N (ae ck) F H h (fun aj g' af s' t G H' h'=>mr h' (fun h'=>ha N (ae (aa ck)) (N.go F G) H' h' (k.trans G) (ke.at G)) fun h'=>hb N (aa (aa ck)) (N.go F G) H' h' (k.trans G) (ke.at G)) ke)
theorem sOp (X:Cx w hT A l n) (hu:A.units+64<cLine) (ha:FN aab w n A hT l as):SE aab w n A hT l (.op o as):=fun {env ns FR fr γ g s σ e Q E Qc Ec} N ck F H h k ke=>
 (TN X hu N).go F H (aa ck) (fun es hx=>ha N hx F H h ke) k ke
theorem iD {a b:Bool} {R:Prop} (h:(a || b)=true) (f:a=true→R) (g:b=true→R):R:=((uk _ _).mp h).elim f g
theorem tL {e:Expr} {env:Env} {whole:Sem Value} (h:plainQ e=true):isTrue e env whole=(do let v ←whole;standAt e.pos;holding [v] (truthy v)):=
 iD h (fun h=>(show e=_ from bj h).symm▸rfl) fun h=>iD h (fun h=>(show e=_ from bj h).symm▸rfl) fun h=>iD h (fun h=>(bj h).1.symm▸rfl) fun h=>iD h (fun h=>bQ (bj h) fun p q=>q.symm▸rfl) fun h=>
  iD h (fun h=>(show e=_ from bj h).symm▸rfl) fun h=>iD h (fun h=>bQ (bj h) fun p q=>q.symm▸rfl) fun h=>iD h (fun h=>(show e=_ from bj h).symm▸rfl) fun h=>(show e=_ from bj (ae h)).symm▸(eq_of_beq (aa h)).symm▸rfl
theorem Yx (X:Cx w hT A l n) (hu:A.units+64<cLine) (ha:FN aab w n A hT l as):ST aab w n A hT l (.op o as):=fun {env ns FR fr γ g s σ e Q E Qc Ec} N ck F H h k ke=>by
 have kb:Ct aab w hT l γ g s (fun v af=>qb v Q af) (fun v s₁=>wpAny (model aab w) A (truthy v) Qc Ec s₁):=fun aj g' af s' v V G H' hv h'=>gZ hv h' fun c hc=>k _ _ _ _ _ G H' hc
 cases ho:oW o with
 | true=>exact El (P:=fun e=>wpAny (model aab w) A (isTrue e env (eval e env)) Qc Ec s) X hu ho (aa ck) (fun es hx=>ha N hx F H h ke) kb fun a c b p hm h'=>Lu h' hm
 | false=>exact isTrue_plain (sOp X hu ha N ck F H h kb ke) (tL (iD (ae ck) (fun h=>nomatch ho.symm.trans h) fun h=>h))
theorem TB (i:Nat):ST aab w n A hT l (.loc i):=fun {env ns FR fr γ g s σ e Q E Qc Ec} N ck F H h k ke=>
 bB (P:=fun e=>wpAny (model aab w) A (eval e env) _ Ec s→wpAny (model aab w) A (isTrue e env (eval e env)) Qc Ec s) ck (fun x p O h=>OB h)
  (To (n:=n) i N ck F H (Q:=fun v af=>qb v Q af) h (fun aj g' af s' v V G H' hv h'=>gZ hv h' fun c hc=>k _ _ _ _ _ G H' hc) ke)
theorem TC (ha:ST aab w n A hT l a):ST aab w n A hT l (.not a):=fun {env ns FR fr γ g s σ e Q E Qc Ec} N ck F H h k ke=>lM ck fun x p ck=>
 Uc (ha N ck F H h (fun aj g' af s' t G H' h'=>k _ _ _ _ _ G H' h') ke)
theorem TA (ha:ST aab w n A hT l a) (hb:ST aab w n A hT l b):ST aab w n A hT l (.and a b):=fun {env ns FR fr γ g s σ e Q E Qc Ec} N ck F H h k ke=>lK ck fun x b' r p ck=>
 Ls (ha N (ae ck) F H h (fun aj g' af s' t G H' h'=>mr h' (fun h'=>I9 (hb N (aa ck) (N.go F G) H' h' (fun gN g2 eg s2 t2 G2 H2 h2=>k _ _ _ _ _ (G.trans G2) H2 h2) (ke.at G))) fun h'=>k _ _ _ _ _ G H' h') ke)
theorem Yy (ha:ST aab w n A hT l a) (hb:ST aab w n A hT l b):ST aab w n A hT l (.or a b):=fun {env ns FR fr γ g s σ e Q E Qc Ec} N ck F H h k ke=>lK ck fun x b' r p ck=>
 Ud (ha N (ae ck) F H h (fun aj g' af s' t G H' h'=>mr h' (fun h'=>k _ _ _ _ _ G H' h') fun h'=>Ja (hb N (aa ck) (N.go F G) H' h' (fun gN g2 eg s2 t2 G2 H2 h2=>k _ _ _ _ _ (G.trans G2) H2 h2) (ke.at G))) ke)
end
section
variable {aab:Program} {w:World} {K:Type} [DecidableEq K] {knd:KeyKind aab w K} {A:Around} {E:Value→Shared→Prop} {s:Shared}
theorem jI {d:Addr} {kvs:List (K × Value)} {s:Heap} (hm:s.DictOf knd d kvs):∃o es ep,s.get? d=some o∧o.ExactDict∧o.data= .dict es ep∧KeysOf knd es∧Pairs knd es.toList kvs∧(kvs.map (·.1)).Nodup:=hm
theorem Ir {d:Addr} {kvs:List (K × Value)} {k:K} {key v:Value} {Q:Unit→Shared→Prop} (MO:knd.is k key=true) (hm:s.heap.DictOf knd d kvs) (hf:k∉kvs.map (·.1)) (hsz:kvs.length≤sizeLine)
  (hQ:∀h',h'.DictOf knd d (kvs++[(k,v)])→Heap.SameBut d s.heap h'→Q () {s with heap:=h' }):wpAny (model aab w) A (dictPut d (knd.hash k) key v) Q E s:=
 g0 (jI hm) fun o es ep ho hc hd hk hp hn=>by
 have WE:(es.findIdx? fun e=>knd.is k e.key)=none:=by
  have:=hp.findIdx k
  rw [List.findIdx?_eq_none_iff.mpr fun kv MP=>jY fun e=>hf (dC.mpr ⟨kv,MP,e⟩)] at this
  cases es with | mk l=>rw [←this];simp
 unfold dictPut
 refine aJ (wpAny_dictFind_of MO ho hd hk ?_)
 rw [WE]
 exact wpAny_updateDictKeys (hz:=aN (bT (yB.symm.trans hp.length)) hsz) ho hd (hQ _ ⟨_,_,ep+1,wB _ ho (Obj.isFreed_of_dict (Obj.data_mapDictKeys hd _)),hc.mapDictKeys _,Obj.data_mapDictKeys hd _,hk.push MO _,(by rw [Array.toList_push];exact hp.append MO (knd.hash k) v),
  bY (f:=(·.1)) (l₁:=kvs)▸qO hn hf⟩ (wC ..))
theorem vc {n i x:Nat} {r:List Nat} (h:x::r=(List.range n).drop i):i<n∧i=x∧r=(List.range n).drop (i+1):=
 have cu:i<n:=ud fun q=>nomatch h.trans (Fq (aN (bT uK) q))
 have e:=lC (h.trans (wH (Nat.lt_of_lt_of_eq cu uK.symm)))
 ⟨cu,(e.1.trans (List.getElem_range _)).symm,e.2⟩
theorem sI {n i:Nat} (h:[]=(List.range n).drop i) (hi:i≤n):i=n:=wu hi (aN (bT uK.symm) (List.drop_eq_nil_iff.mp h.symm))
theorem take_cons {α:Type} {l:List α} {i:Nat} {x:α} (h:l[i]?=some x):l.take i++x::l.drop (i+1)=l:=by
 rw [←(bl.mp h).2,←wH,uq]
theorem tF {kvs more:List (K × Value)} {i:Nat} {k:K} {v:Value} (h:more[i]?=some (k,v)) (nd:((kvs++more).map (·.1)).Nodup):k∉(kvs++more.take i).map (·.1):=fun hm=>by
 rw [←take_cons h,←fA,bY,hY] at nd
 exact nd.2.2 k hm k (.head _) rfl
structure MgI (knd:KeyKind aab w K) (d o:Addr) (kvs more:List (K × Value)) (oo:Obj) (n:Nat) (h₀:Heap) (rest:List Nat) (h':Heap) (i:Nat):Prop where
 fr:rest=(List.range n).drop i
 fi:i≤n
 fd:h'.DictOf knd d (kvs++more.take i)
 fo:h'.get? o=some oo
 fs:Heap.SameBut d h₀ h'
theorem zz {d o:Addr} {kvs more:List (K × Value)} {Q:Unit→Shared→Prop} (hdo:d≠o) (hoS:(o == sysModules)=false) (hd:s.heap.DictOf knd d kvs) (ho:s.heap.DictOf knd o more) (n9:kvs≠[]) (FV:((kvs++more).map (·.1)).Nodup) (hsz:kvs.length+more.length≤sizeLine)
  (hQ:∀h',h'.DictOf knd d (kvs++more)→Heap.SameBut d s.heap h'→Q () {s with heap:=h' }):wpAny (model aab w) A (mergeMapping d (.ref o) false) Q E s:=
 g0 (jI hd) fun od esd epd hod O hdd O hpd O=>g0 (jI ho) fun oo V5 epo WT hco Hc hko ZP hno=>by
 have hlen:more.length=V5.size:=ZP.length.symm.trans yB
 have he:esd.isEmpty=false:=wI.mpr fun q=>n9 (uG.mp (hpd.length.symm.trans (aD (fun a:Array _=>a.toList.length) (Array.isEmpty_iff.mp q))))
 unfold mergeMapping
 refine aJ (wpAny_isInstance (U:= "dict") (b:=true) ho.typeIs (by rw [isSubtype_type]; kernel_rfl) ?_)
 rw [bE rfl]
 refine aJ (wpAny_specialOf (r:=some (.builtin "dict.__iter__")) ho.typeIs (by rw [typeLookup_type,builtinLookup_eq_fast]; kernel_rfl) (aJ (bR ?_)))
 rw [show ((some (Value.builtin "dict.__iter__"):Option Value) == some (.builtin "dict.__iter__"))=true by simp]
 dsimp only
 rw [hoS,aW rx]
 refine aJ (OP hod hdd ?_)
 rw [he,aW rx]
 refine aJ (OP WT Hc (aJ (wpAny_dictEpoch WT Hc (aJ ?_))))
 refine wpAny_forIn_list _ (fun rest O s'=>∃h' i,s'={s with heap:=h' }∧MgI knd d o kvs more oo V5.size s.heap rest h' i) _ (fun x rest b s' H=>b8 H fun h' i es I=> ?_) (fun b s' H=>b8 H fun h' i es I=> ?_) _ _ ⟨s.heap,0,rfl,rfl,et _,(gq kvs).symm▸hd,WT,Heap.SameBut.refl _ _⟩
 ·have dr:=vc I.fr
  have Pd:i<more.length:=hlen.symm▸dr.1
  have MP:=gm Pd
  have g:=ZP.get? (e:=V5[i]'dr.1) ((Array.getElem?_toList).trans (Array.getElem?_eq_getElem dr.1)) MP
  refine bc (hko _ (Array.getElem_mem dr.1)) fun k' Q5 Q0=> ?_
  have ek:k'=more[i].1:=knd.inj _ _ _ Q5 g.1
  rw [es,←dr.2.1]
  refine aJ (OP I.fo Hc ?_)
  rw [Array.getElem?_eq_getElem dr.1]
  dsimp only
  rw [Q0,g.2,ek]
  refine aJ (hW (Ir g.1 I.fd (tF MP FV) ?_ fun zl Wq mM=> ?_))
  ·rw [bK,wJ]
   exact aN (dA (yz _ _) _) hsz
  ·have hoo'':zl.get? o=some oo:=(mM.2 o (nG hdo)).trans I.fo
   refine aJ (wpAny_dictEpoch hoo'' Hc ?_)
   rw [aW (by simp)]
   exact bR ⟨zl,i+1,rfl,dr.2.2,dr.1,by rw [List.take_add_one,MP,←fA];exact Wq,hoo'',I.fs.trans mM⟩
 ·rw [es]
  exact bR (hQ h' (by rw [←List.take_length (l:=more),hlen,←sI I.fr I.fi];exact I.fd) I.fs)
end
inductive QT (aab:Program) (w:World) (A:Around) (E:Value→Shared→Prop) (h₀:Heap):List (Sem Value × Sem Value)→List (Str × Value)→Prop
 | nil:QT aab w A E h₀ [] []
 | cons {k v r x u kvs}:(∀(s:Shared) (Q:Value→Shared→Prop),(∀b o,h₀.get? b=some o→s.heap.get? b=some o)→(∀t t',Q (.str x t) {s with toks:=t' })→wpAny (model aab w) A k Q E s) →
   (∀(s:Shared) (Q:Value→Shared→Prop),(∀b o,h₀.get? b=some o→s.heap.get? b=some o)→(∀t',Q u {s with toks:=t' })→wpAny (model aab w) A v Q E s)→QT aab w A E h₀ r kvs→QT aab w A E h₀ ((k,v)::r) ((x,u)::kvs)
section
variable {aab:Program} {w:World} {A:Around} {E:Value→Shared→Prop} {s:Shared} {h₀:Heap} {ps qs:List (Sem Value × Sem Value)} {kvs more:List (Str × Value)}
theorem QT.len (h:QT aab w A E h₀ ps kvs):ps.length=kvs.length:=by induction h <;> simp_all
theorem QT.take (h:QT aab w A E h₀ ps kvs):∀n,QT aab w A E h₀ (ps.take n) (kvs.take n):=by
 induction h with
 | nil=>intro n;simpa using QT.nil
 | cons a b _ ih=>intro n;cases n with
  | zero=>exact .nil
  | succ n=>exact .cons a b (ih n)
theorem QT.drop (h:QT aab w A E h₀ ps kvs):∀n,QT aab w A E h₀ (ps.drop n) (kvs.drop n):=by
 induction h with
 | nil=>intro n;simpa using QT.nil
 | cons a b h ih=>intro n;cases n with
  | zero=>exact .cons a b h
  | succ n=>simpa using ih n
theorem QT.pairs (h:QT aab w A E h₀ ps kvs):∀ {s:Shared} {Q:List (Value × Value)→Shared→Prop},(∀b o,h₀.get? b=some o→s.heap.get? b=some o)→(∀vs t',Carries (strKind aab w) vs kvs→Q vs {s with toks:=t' })→wpAny (model aab w) A (evalPairs ps) Q E s:=by
 induction h with
 | nil=>intro s Q _ k;exact evalPairs_nil (k [] s.toks trivial)
 | cons a b _ ih=>
  intro s Q hk k
  refine evalPairs_cons (a s _ hk fun t t'=>b _ _ hk fun t2=>ih hk fun vs t3 hc=>k _ t3 ⟨strKind_is aab w _ _,rfl,hc⟩)
theorem QT.long (h:QT aab w A E h₀ ps kvs):∀ {s:Shared} {Q:Unit→Shared→Prop} {d:Addr} {acc:List (Str × Value)},(∀b o,h₀.get? b=some o→b≠d)→(∀b o,h₀.get? b=some o→s.heap.get? b=some o)→s.heap.DictOf (strKind aab w) d acc→acc.length+kvs.length≤sizeLine →
  (∀h' t',h'.DictOf (strKind aab w) d (merged acc kvs)→Heap.SameBut d s.heap h'→Q () {s with heap:=h',toks:=t' }) →
  wpAny (model aab w) A (forIn ps PUnit.unit fun (x:Sem Value × Sem Value) (_:PUnit)=>(do
    let kv ←x.1
    let vv ←holding [kv] x.2
    holding [kv,vv] (dictSet d kv vv)
    pure (ForInStep.yield PUnit.unit):Sem (ForInStep PUnit))) Q E s:=by
 induction h with
 | nil=>
  intro s Q d acc _ _ hd _ k
  rw [List.forIn_nil]
  exact bR (k s.heap s.toks hd (Heap.SameBut.refl _ _))
 | @cons kt vt r x u kvs a b _ ih=>
  intro s Q d acc hn hk hd hz k
  rw [yH]
  rw [Ft] at hz
  refine aJ (aJ (a s _ hk fun t t'=>aJ (hW (b _ _ hk fun t2=>aJ (hW (wpAny_dictSet_pairs (knd:=strKind aab w) (k:=x) (kvs:=acc) (hsz:=by lia) (strKind_is aab w _ _) hd fun aA QW kO=>bR ?_))))))
  refine ih hn (fun b o e=>(kO.2 b (hn b o e)).trans (hk b o e)) QW (by have:=stored_length_le acc x u;lia) fun h' t' nK UY=> ?_
  exact k h' t' nK (kO.trans UY)
theorem sub_short (h:QT aab w A E h₀ ps kvs) (hl:ps.length≤15) (hk:∀b o,h₀.get? b=some o→s.heap.get? b=some o)
  (k:∀h' t',h'.DictOf (strKind aab w) s.heap.objs.size (merged [] kvs)→(∀b o,s.heap.get? b=some o→h'.get? b=some o)→Q s.heap.objs.size {s with heap:=h',toks:=t' }):wpAny (model aab w) A (subDict ps) Q E s:=by
 refine wpAny_subDict (knd:=strKind aab w) hl (h.pairs (fun b o e=>bG _ (hk b o e)) fun vs t' hc=>⟨kvs,hc,Heap.DictOf.new s.heap,fun h' hd hs=>k h' _ hd fun b o e=> ?_⟩)
 exact (hs.2 b (eR (cA e))).trans (bG _ e)
theorem ED (h:QT aab w A E h₀ ps kvs) (hl:¬ ps.length≤15) (hz:kvs.length≤sizeLine) (hk:∀b o,h₀.get? b=some o→s.heap.get? b=some o)
  (k:∀h' t',h'.DictOf (strKind aab w) s.heap.objs.size (merged [] kvs)→(∀b o,s.heap.get? b=some o→h'.get? b=some o)→Q s.heap.objs.size {s with heap:=h',toks:=t' }):wpAny (model aab w) A (subDict ps) Q E s:=by
 unfold subDict
 refine aJ (wpAny_alloc ?_)
 refine aJ (hW ?_)
 rw [aW hl]
 refine aJ (wo ?_)
 refine aJ (h.long (acc:=[]) (fun b o e=>eR (cA (hk b o e))) (fun b o e=>bG _ (hk b o e)) (Heap.DictOf.new s.heap) (by simpa using hz) fun h' t' hd hs=>bR (bR (k h' t' hd fun b o e=> ?_)))
 exact (hs.2 b (eR (cA e))).trans (bG _ e)
noncomputable abbrev Za:=Option Addr × List (Sem Value × Sem Value)
theorem MG (f:(Option (Sem Value) × Sem Value)→Za→Sem (ForInStep Za)) (m:Option Addr) (hf:∀(p:Sem Value × Sem Value) (run:List (Sem Value × Sem Value)),run.length+1<17→f (some p.1,p.2) (m,run)=pure (.yield (m,run++[p]))) (tail:List (Option (Sem Value) × Sem Value)) :
  ∀(items run:List (Sem Value × Sem Value)),run.length+items.length<17→forIn (items.map (fun p=>(some p.1,p.2))++tail) (m,run) f=forIn tail (m,run++items) f
 | [],run,_=>by simp
 | p::rest,run,h=>by
  rw [dh,Fu,yH,hf p run (by simp at h;lia),pure_bind]
  have:=MG f m hf tail rest (run++[p]) (by simp at h ⊢;lia)
  simpa using this
theorem zg (a c:List (Sem Value × Sem Value)) (b:Sem Value × Sem Value) (ha:a.length=16) (hc:c.length<17) (UT:c≠[])
  (h:wpAny (model aab w) A (subDict (a++[b])) (fun d s₁=>wpAny (model aab w) A (subDict c) (fun o aG=>∀E',wpAny (model aab w) A (mergeMapping d (.ref o) false) (fun O bP=>Q (.ref d) bP) E' aG) E s₁) E s) :
  wpAny (model aab w) A (dictDisplay ((a++b::c).map fun p=>(some p.1,p.2))) Q E s:=by
 unfold dictDisplay
 dsimp only
 rw [bY,dh]
 rw [MG _ none (fun p run h=>by
  have n9:((run++[(p.1,p.2)]).length == 17)=false:=by simp;lia
  simp only [n9,rv,ou]) _ a [] (by simp [ha])]
 rw [yH]
 have Wb:((([]:List (Sem Value × Sem Value))++a++[(b.1,b.2)]).length == 17)=true:=by simp [ha]
 have hem:((([]:List (Sem Value × Sem Value))++a++[(b.1,b.2)]).isEmpty)=false:=by simp
 simp only [Wb,if_true,hem,rv,ou]
 refine aJ (aJ (aJ (aJ (dW (by rw [ur];exact h) (fun d s₁ aA=>bR (bR ?_)) fun O O x=>x))))
 dsimp only
 rw [←gq (c.map _),MG _ (some d) (fun p run h=>by
  have n9:((run++[(p.1,p.2)]).length == 17)=false:=by simp;lia
  simp only [n9,rv,ou]) [] c [] (by simpa using hc)]
 rw [List.forIn_nil,ur]
 refine bR ?_
 have hce:c.isEmpty=false:=by cases c with
  | nil=>exact absurd rfl UT
  | cons=>rfl
 simp only [hce,rv,ou]
 exact aJ (aJ (hW (dW aA (fun o aG cE=>aJ (wpAny_onRaise (hW (dW (cE _) (fun O bP ji=>bR (bR ji)) fun O O x=>x)))) fun O O x=>x)))
theorem yS (QM:keys.all (·.isSome)=true) (hl:keys.length=values.length) (h1:17<keys.length) (h2:keys.length≤25) (hq:QT aab w A E s.heap (pairTrees keys values env pos) kvs) (hn:(kvs.map (·.1)).Nodup)
  (Wi:∀h:Heap,(∀b o,s.heap.get? b=some o→h.get? b=some o)→(h.objs.size == sysModules)=false)
  (k:∀h' t',h'.DictOf (strKind aab w) s.heap.objs.size kvs→(∀b o,s.heap.get? b=some o→h'.get? b=some o)→Q (.ref s.heap.objs.size) {s with heap:=h',toks:=t' }) :
  wpAny (model aab w) A (eval (.Dict keys values pos) env) Q E s:=by
 have mL:=pairTrees_length keys values env pos QM hl
 rw [arm_eval_Dict,zip_pairTrees keys values env pos QM hl]
 refine aJ (rq ?_)
 generalize pairTrees keys values env pos=ps at hq mL
 have hk:=hq.len
 have e:ps=ps.take 16++ps[16]'(by lia)::ps.drop 17:=by
  rw [←wH,uq]
 have e17:ps.take 16++[ps[16]'(by lia)]=ps.take 17:=by
  have:=List.take_add_one (l:=ps) (i:=16)
  rw [this,gm (by lia)];rfl
 rw [e]
 have q1:=hq.take 17
 have q2:=hq.drop 17
 have sl:(25:Nat)≤sizeLine:=by rw [gM];decide
 have nd:((kvs.take 17++kvs.drop 17).map (·.1)).Nodup:=by rw [uq];exact hn
 have nd':=nd
 rw [bY,hY] at nd'
 refine zg _ _ _ (by rw [wJ];lia) (by rw [wK];lia) (fun z=>by have:=aD List.length z;rw [wK,yI] at this;lia) ?_
 rw [e17]
 refine ED q1 (by rw [wJ];lia) (by rw [wJ];lia) (fun O O x=>x) fun aA tW Mp k₁=> ?_
 refine sub_short q2 (by rw [wK];lia) k₁ fun cE YU Qo k₂ E'=> ?_
 rw [merged_nil_of_nodup _ nd'.1] at Mp
 rw [merged_nil_of_nodup _ nd'.2.1] at Qo
 refine bc (wG.mp Mp) fun o₁ ql O=> ?_
 have cu:=cA ql
 refine zz (eR cu) (Wi _ k₁) (Mp.keep k₂) Qo (fun z=>by have:=aD List.length z;rw [wJ,yI] at this;lia) nd (by rw [wJ,wK];lia) fun ji Qp hs=> ?_
 rw [uq] at Qp
 exact k ji YU Qp fun b o x=>(hs.2 b (eR (cA x))).trans (k₂ _ _ (k₁ _ _ x))
end
section
variable {aab:Program} {w:World} {n:Nat} {M:Model} {A:Around} {hT:Heap} {l:List Env} {γ aj:Ga} {g g':GH} {s s':Shared} {σ:St} {Q:PV} {E:PE} {Qc:Value→Shared→Prop} {Ec:Value→Shared→Prop} {v u:Value} {vA uA:V} {env:Env} {ns:bJ} {FR:Ga→GH→aO→Shared→Prop} {fr:aO} {o:Op} {e:Expr} {es:List Expr}
theorem ra {pos:Pos} {l:List Expr}:l.all aQ=true→(backTo pos (starEach l env)).all (!·.1)=true:=by
 induction l with
 | nil=>exact fun O=>rfl
 | cons e r ih=>exact fun h=>by rw [dq (ae h)];exact ih (aa h)
theorem ve {o:Expr} {name:Str} {apos pos:Pos} {args:List Expr} {Q:Value→Shared→Prop} (hn:ea o=true) (hp:args.all aQ=true) (hl:args.length<30) (MV:(apos.endLine == pos.line)=true)
  (h:wpAny M A (eval o env) (fun ov s₁=>∀pl,wpAny M A (getMethod ov name pl) (Ju M A env Ec args Q) Ec s₁) Ec s):wpAny M A (eval (.Call (.Attribute o name apos) args [] pos) env) Q Ec s:=by
 have e2:methodCallForm (args.length+([]:List Keyword).length) (backTo pos (starEach args env)) (backToKw pos (keywordEach [] env))=true:=by
  unfold methodCallForm
  rw [ra hp]
  exact hM hl
 have e3:methodCallPos true o env apos pos=pure pos:=bE MV
 refine Qu hp h ⟨(do return (←importBound o env).getD true),?_⟩
 show (do
  let ov ←attributeBase o name env (eval o env)
  standAt apos.atName
  methodCall o name apos pos env ov (args.length+([]:List Keyword).length) (backTo pos (starEach args env)) (backToKw pos (keywordEach [] env)))=_
 rw [show attributeBase o name env (eval o env)=eval o env from wX hn]
 unfold methodCall
 rw [e2,e3]
 rfl
section
variable {P:List Value→Prop} {Vs:List V} {vs:List Value}
@[elab_as_elim] theorem ao.l0 {K:Prop} (hv:ao w γ vs Vs) (h:Mine.l0 Vs K) (k:K→P []):P vs:=by
 induction hv with
 | nil=>exact k h
 | cons=>exact h.elim
@[elab_as_elim] theorem ao.l1 {K:V→Prop} (hv:ao w γ vs Vs) (h:Mine.l1 Vs K) (k:∀v V,aq w γ v V→K V→P [v]):P vs:=by
 induction hv with
 | nil=>exact h.elim
 | @cons v V vs Vs h1 h2=>exact ao.l0 (P:=fun vs=>P (v::vs)) h2 h (k v V h1)
@[elab_as_elim] theorem ao.l2 {K:V→V→Prop} (hv:ao w γ vs Vs) (h:Mine.l2 Vs K) (k:∀v V u U,aq w γ v V→aq w γ u U→K V U→P [v,u]):P vs:=by
 induction hv with
 | nil=>exact h.elim
 | @cons v V vs Vs h1 h2=>exact ao.l1 (P:=fun vs=>P (v::vs)) h2 h fun u U=>k v V u U h1
end
theorem Ym (X:Cx w hT A l n) (hu:A.units+64<cLine) (ha:SE aab w n A hT l a) (has:FN aab w n A hT l as):SE aab w n A hT l (.gG m a as):=fun {env ns FR fr γ g s σ e Q E Qc Ec} N ck F H h k ke=>qy ck fun o x es p q h1 h4 h2 h3 ck=>by
 have O0:=ae (aa ck)
 have P1:=aa (aa ck)
 rw [eq_of_beq (ae ck)]
 refine ve h4 h2 h3 h1 (ha N O0 F H h (fun aj g' af s' v V G H' hv h' pl=> ?_) ke)
 have h':=R4 h'
 refine Tq G.at_ H' hv h'.1 ((has N P1 (N.go F G) H' h'.2 (ke.at G)).at' G fun gN g2 eg s2 vs Vs G2 G3 H2 dR hp=>⟨sX,?_⟩)
 have zu:=hv.up G3.le
 cases m with
 | app=>exact dR.l1 hp fun x X hx hp=>XO G2.at_ H2 zu hx hp (k.trans G2)
 | pop=>exact dR.l0 hp fun hp=>Yt G2.at_ H2 zu hp (k.trans G2)
 | ext=>exact dR.l1 hp fun x X hx hp=>XZ G2.at_ H2 zu hx hp (k.trans G2)
 | get=>exact dR.l2 hp fun x X y Y hx hy hp=>X8 G2.at_ H2 zu hx hy hp (k.trans G2)
 | index=>exact dR.l1 hp fun x X hx hp=>N9 hu G2.at_ H2 zu hx hp (k.trans G2)
theorem HP.nO (H:HP aab w hT γ σ g) {a:Addr} {o:Obj} {ob:Ob} (e:g a=some o) (nf:a∉γ.fp) (nz:∀q∈γ.fz,q.1≠a) (O7:hT.get? a=none∧(a == sysModules)=false) (h:OR aab w (γ.cw a) ob o):HP aab w hT (γ.cw a) {σ with objs:=σ.objs++[ob]} g:=
 have l:=γ.bf a
 ⟨H.cs,H.AD,fun i b NC hb hc=>(Em H.len hb hc).elim (fun q=>(H.obj i b NC q.1 q.2).imp fun c h=>⟨h.1,h.2.up l⟩) fun q=>⟨o,q.1▸e,q.2▸h⟩,fun b hb=>(cU.mp hb).elim (H.new b) fun q=>dX.mp q▸O7,
  fun x hx=>have f:=H.fz x hx;⟨f.1,fun q=>(Ga.eG.mp q).elim f.2.1 (nz x hx),f.2.2⟩,Ga.xZ H.nd nf,⟨H.tb.1.up l fun o e=>e,H.tb.2.up l fun o e=>e⟩,H.tn⟩
theorem En (h:Oo x f=true):x.isSome=true:=by cases x;cases h;rfl
theorem iv {ks:List Nat}:∀ {es:List (Option Expr)},eN ks es=true→es.length=ks.length∧es.all (·.isSome)=true:=by
 induction ks with
 | nil=>exact fun h=>(fT.mp h).symm▸⟨rfl,rfl⟩
 | cons k ks ih=>
  intro es h
  cases es with
  | nil=>cases h
  | cons o es=>exact ⟨aD (· +1) (ih (aa h)).1,by rw [List.all_cons,En (ae h),(ih (aa h)).2];rfl⟩
def OY (aab:Program) (w:World) (n:Nat) (A:Around) (hT:Heap) (l:List Env) (m:gr):Prop:=∀ {env ns FR fr γ g s σ ks keys values pos Q E Ec} {B:List (Value × Value)→Shared→Prop},cZ w hT l env ns FR→eN ks keys=true→jD ns m values=true→keys.length=values.length→FR γ g fr s→HP aab w hT γ σ g →
 SH (aB aab w n) m fr Q E σ→Ke aab w hT l γ g s E Ec→(∀aj g' af s' kv Vs,Go hT l γ g s aj g' s'→HP aab w hT aj af g'→fE ks (kv.map (·.1))→ao w aj (kv.map (·.2)) Vs→Q Vs af→B kv s') →
 wpAny (model aab w) A (evalPairs (pairTrees keys values env pos)) B Ec s
theorem XB:OY aab w n A hT l .nil:=fun {env ns FR fr γ g s σ ks keys values pos Q E Ec B} N ck P1 hl F H h ke k=>by
 have e1:=fT.mp P1
 rw [e1] at hl ⊢
 have e2:=uG.mp hl
 rw [e2] at ck ⊢
 cases ks with
 | cons=>cases ck
 | nil=>exact evalPairs_nil (k _ _ _ _ [] _ (Go.refl (N.at_ F)) H .nil .nil h)
theorem xJ {ks:List Nat} {keys:List (Option Expr)} {n:Nat} {R:List Nat→List (Option Expr)→Prop} (c1:eN ks keys=true) (hl:keys.length=n+1)
  (k:∀k0 ks k' p' keys,k0<30→eN ks keys=true→keys.length=n→R (k0::ks) (some (.Constant (.str (sT k0)) k' p')::keys)):R ks keys:=by
 cases keys with
 | nil=>cases hl
 | cons ky keys=>cases ks with
  | nil=>exact ft c1
  | cons k0 ks=>exact tR (P:=fun ky=>R (k0::ks) (ky::keys)) (ae c1) fun e h=>dn (P:=fun e=>R (k0::ks) (some e::keys)) (aa h) fun k' p'=>k k0 ks k' p' keys (f3 (ae h)) (aa c1) (lA hl)
theorem M5 {ks:List Nat} {keys:List (Option Expr)} {values:List Expr} {m:ME} {r:gr} {R:List Nat→List (Option Expr)→List Expr→Prop} (c1:eN ks keys=true) (c2:jD ns (.cons m r) values=true) (hl:keys.length=values.length)
  (k:∀k0 ks k' p' keys v values,k0<30→eN ks keys=true→g8 ns m v=true→jD ns r values=true→keys.length=values.length→R (k0::ks) (some (.Constant (.str (sT k0)) k' p')::keys) (v::values)):R ks keys values:=by
 cases values with
 | nil=>exact ft c2
 | cons v values=>exact xJ (R:=fun ks keys=>R ks keys (v::values)) c1 hl fun k0 ks k' p' keys BV c1 hl=>k k0 ks k' p' keys v values BV c1 (ae c2) (aa c2) hl
theorem Sz {m:ME} {r:gr} (hm:SE aab w n A hT l m) (hr:OY aab w n A hT l r):OY aab w n A hT l (.cons m r):=fun {env ns FR fr γ g s σ ks keys values pos Q E Ec B} N ck P1 hl F H h ke=>
 M5 (R:=fun ks keys values=>(∀aj g' af s' kv Vs,Go hT l γ g s aj g' s'→HP aab w hT aj af g'→fE ks (kv.map (·.1))→ao w aj (kv.map (·.2)) Vs→Q Vs af→B kv s')→wpAny (model aab w) A (evalPairs (pairTrees keys values env pos)) B Ec s) ck P1 hl
  fun k0 ks k' p' keys v values BV c1 c2 c3 hl k=>evalPairs_cons (mI fun t t'=>by
   have G0:=Go.toks (γ:=γ) (N.at_ F) t'
   exact aJ (hm N c2 (N.go F G0) H h (fun aj g' af s' v V G H' hv h'=>aJ (rq (bR (hr N c1 c3 hl (N.go F (G0.trans G)) H' h' (ke.at (G0.trans G)) fun gN g2 eg s2 kv Vs G2 H2 hk zu hq=>k _ _ _ _ _ _ ((G0.trans G).trans G2) H2 (.cons BV hk) (.cons (hv.up G2.le) zu) hq)))) (ke.at G0)))
theorem qN {K:Type} [DecidableEq K] (kvs:List (K × Value)):∀acc:List (K × Value),((acc++kvs).map (·.1)).Nodup→merged acc kvs=acc++kvs:=by
 induction kvs with
 | nil=>exact fun acc O=>(gq acc).symm
 | cons p r ih=>
  intro acc h
  have hk:stored acc p.1 p.2=acc++[p]:=aW fun MJ=>(ui.mp MJ).elim fun q hq=>by
   rw [bY,dh] at h
   exact (hY.mp h).2.2 q.1 (dC.mpr ⟨q,hq.1,rfl⟩) p.1 (.head _) (f3 hq.2)
  show merged (stored acc p.1 p.2) r=_
  rw [hk,ih (acc++[p]) (by rw [fA];exact h),fA];rfl
theorem fE.cons_inv (h:fE ks (v::vs)):∃k r t,ks=k::r∧v= .str (sT k) t∧k<30∧fE r vs:=by
 cases h with
 | cons a b=>exact ⟨_,_,_,rfl,rfl,a,b⟩
theorem om {kv:List (Value × Value)}:∀ {ks:List Nat} {Vs:List V},fE ks (kv.map (·.1))→ao w γ (kv.map (·.2)) Vs→∃kvs:List (Nat × Value),Carries (strKind aab w) kv (oi kvs)∧DR w γ kvs (ks.zip Vs)∧kvs.map (·.1)=ks:=by
 induction kv with
 | nil=>exact fun h h2=>⟨[],trivial,by cases h;exact .nil,by cases h;rfl⟩
 | cons p kv ih=>
  intro ks Vs h1 h2
  refine yr h1.cons_inv fun k r t e1 e2 BV h1=> ?_
  cases Vs with
  | nil=>cases h2
  | cons V Vs=>
   refine fZ h2.cons_inv fun O O e3 h3 h4=> ?_
   injection e3 with e3 e4
   refine iL (ih h1 (e4.symm▸h4)) fun kvs a b c=> ?_
   exact ⟨(k,p.2)::kvs,⟨by rw [show p.1=_ from e2];exact strKind_is aab w _ _,rfl,a⟩,e1▸.cons (by rw [show p.2=_ from e3];exact h3) b,by rw [e1,←c];rfl⟩
theorem m9 (h:∀p∈kvs,p.1<30) (nd:(kvs.map (·.1)).Nodup):((oi kvs).map (·.1)).Nodup:=by
 induction kvs with
 | nil=>exact .nil
 | cons p r ih=>
  rw [dh,bV] at nd
  show (sT p.1::(oi r).map (·.1)).Nodup
  refine bV.mpr ⟨fun hm=> ?_,ih (fun q hq=>h q (.tail _ hq)) nd.2⟩
  refine bc (dC.mp hm) fun q hq e=> ?_
  obtain ⟨q',hq',rfl⟩:=dC.mp hq
  exact nd.1 (dC.mpr ⟨q',hq',vR (h q' (.tail _ hq')) (h p (.head _)) e⟩)
theorem MZ {m:ME} {P:ME→Prop} (h:MY m=true) (k:∀V,P (.g V)):P m:=by
 cases m with
 | g V=>exact k V
 | _=>exact ft h
def UC (aab:Program) (w:World) (A:Around) (Ec:Value→Shared→Prop) (h₀:Heap) (env:Env) (pos:Pos) (γ:Ga) (Q:List V→Prop) (ks:List Nat) (keys:List (Option Expr)) (values:List Expr):Prop:=
 ∃(kvs:List (Nat × Value)) (Vs:List V),QT aab w A Ec h₀ (pairTrees keys values env pos) (oi kvs)∧kvs.map (·.1)=ks∧DR w γ kvs (ks.zip Vs)∧(∀p∈kvs,p.1<30)∧Q Vs
theorem SO (T:Tp (KK w) hT) (N:cZ w hT l env ns FR) (S:At hT l g s.heap) {pos:Pos} {values:List Expr}:∀ {as:gr} {ks:List Nat} {keys:List (Option Expr)} {Q:List V→St→Prop},eN ks keys=true→jD ns as values=true→yZ as=true→keys.length=values.length→SH (aB aab w n) as fr Q E σ →
  UC aab w A Ec s.heap env pos γ (fun Vs=>Q Vs σ) ks keys values:=by
 induction values with
 | nil=>
  intro as ks keys Q c1 c2 _ hl h
  have e2:=uG.mp hl
  rw [e2] at c1 ⊢
  cases ks with
  | cons=>exact ft c1
  | nil=>cases as with
   | nil=>exact ⟨[],[],.nil,rfl,.nil,fun p hp=>absurd hp cS,h⟩
   | cons=>exact ft c2
 | cons v values ih=>
  intro as ks keys Q c1 c2 c3 hl h
  cases as with
  | nil=>exact ft c2
  | cons m r=>
   have c3:(MY m && yZ r)=true:=c3
   exact MZ (P:=fun m=>g8 ns m v=true→SH (aB aab w n) (.cons m r) fr Q E σ→UC aab w A Ec s.heap env pos γ (fun Vs=>Q Vs σ) ks keys (v::values)) (ae c3) (fun V cm h=>
    bB (P:=fun v=>UC aab w A Ec s.heap env pos γ (fun Vs=>Q Vs σ) ks keys (v::values)) cm fun x p c=>(Bo (γ:=γ) (aa c)).elim fun u e=>
    xJ (R:=fun ks keys=>UC aab w A Ec s.heap env pos γ (fun Vs=>Q Vs σ) ks keys (.Name x p::values)) c1 hl fun k0 ks k' p' keys BV c1 hl=>
    jw (ih c1 (aa c2) (aa c3) hl h) fun kvs Vs i1 i2 i3 i4 i5=>⟨(k0,u)::kvs,V::Vs,.cons (fun s' Q' hk h'=>mI h') (fun s' Q' hk h'=>aJ (N.glob T (S.keeps hk) e.1 (ae c) (aJ (rq (bR (h' s'.toks)))))) i1,aD (k0:: ·) i2,.cons e.2 i3,cc.mpr ⟨BV,i4⟩,i5⟩) (ae c2) h
theorem GR (X:Cx w hT A l n) (N:cZ w hT l env ns FR) {ks:List Nat} {keys:List (Option Expr)} {values:List Expr} {as:gr} {p:Pos} (c1:eN ks keys=true) (c2:jD ns as values=true) (c3:yZ as=true) (hl:ks.length=values.length) (h1:17<ks.length) (h2:ks.length≤25) (F:FR γ g fr s) (H:HP aab w hT γ σ g)
  (h:qE (aB aab w n) (.JQ ks as) fr Q E σ) (k:Ct aab w hT l γ g s Q Qc):wpAny (model aab w) A (eval (.Dict keys values p) env) Qc Ec s:=by
 have S:=N.at_ F
 obtain ⟨zr,WG⟩:=iv c1
 refine jw (SO (A:=A) (Ec:=Ec) (pos:=p) (γ:=γ) X.T N S c1 c2 c3 (zr.trans hl) h) fun kvs Vs q1 q2 q3 q4 hq=> ?_
 obtain ⟨-,FV,BV⟩:=dD hq
 have q:=jS (eO hq)
 refine yS WG (zr.trans hl) (by rw [zr];exact h1) (by rw [zr];exact h2) q1 (m9 q4 (by rw [q2];exact FV)) (fun h' hk=>e9 X.T (S.keeps hk)) fun h' t' hd hk=> ?_
 refine bc (wG.mp hd) fun o' oU hD=> ?_
 have n:=S.fresh
 have S':=(S.grow (I:=[s.heap.objs.size]) (g':=g.set s.heap.objs.size o') (h':=h') (fun b hb=>dX.mp hb▸Heap.get?_none_of_le (bz _)) hk (fun b hb=>GH.au _ _ fun q=>hb (dX.mpr q)) fun b hb o e=>by
  have hb:=dX.mp hb
  rw [hb,GH.set_same] at e
  exact hb▸e▸oU).1
 have n9:ks≠[]:=fun z=>by rw [z] at h1;cases h1
 rw [aW n9] at q
 have H':=H.cw (ob:=.dS (ks.zip Vs)) (o:=o') n ⟨S.og n,e9 X.T S⟩ (.dS hD (fun p hp=>BV p.1 (Ab hp).1) (q3.up (γ.bf _)))
 refine k _ _ _ _ (.ref s.heap.objs.size) (.ob σ.objs.length) ⟨S',⟨Kp.of_keeps hk,rfl,rfl,rfl⟩,γ.bf _,gb.cw H n,fun O O O h=>h⟩ H' (.ob ?_) (q _ _ f6.mk')
 show (γ.o++[s.heap.objs.size])[σ.objs.length]?=_
 rw [←H.len];simp
theorem By (h:g a=some (instObj 82 d)) (h':g a=some emptyDict):False:=nomatch h.symm.trans h'
theorem Mm (X:Cx w hT A l n) (N:cZ w hT l env ns FR) (zr:keys.length=0) (hl:0=values.length) (ck:jD ns as values=true) (F:FR γ g fr s) (H:HP aab w hT γ σ g) (h:qE (aB aab w n) (.JQ [] as) fr Q E σ) (k:Ct aab w hT l γ g s Q Qc):wpAny (model aab w) A (eval (.Dict keys values p) env) Qc Ec s:=by
 rw [uG.mp zr]
 have e:=uG.mp hl.symm
 rw [e] at ck ⊢
 cases as with
 | cons=>exact ft ck
 | nil=>exact wpAny_Dict_empty (Ct.new (t:=s.toks) X.T (N.at_ F) H (jS (eO h)) k (.dI (show ({ cls:=.type "dict",data:=.dict #[] }:Obj).IsDictOf (intKind aab w) [] from ⟨#[],0,⟨rfl,rfl,rfl⟩,rfl,fun e he=>absurd he (Array.not_mem_empty e),.nil,.nil⟩) .nil) rfl)
theorem Bx (X:Cx w hT A l n) (N:cZ w hT l env ns FR) {ks:List Nat} {keys:List (Option Expr)} {values:List Expr} {as:gr} {p:Pos} (has:OY aab w n A hT l as) (c1:eN ks keys=true) (c2:jD ns as values=true) (hl:ks.length=values.length) (h1:ks.length≤15) (h0:ks≠[]) (F:FR γ g fr s) (H:HP aab w hT γ σ g)
  (h:qE (aB aab w n) (.JQ ks as) fr Q E σ) (k:Ct aab w hT l γ g s Q Qc) (ke:Ke aab w hT l γ g s E Ec):wpAny (model aab w) A (eval (.Dict keys values p) env) Qc Ec s:=by
 have S:=N.at_ F
 have zr:=iv c1
 have hl:=zr.1.trans hl
 refine wpAny_Dict_walk (knd:=strKind aab w) zr.2 hl (fun e=>h0 (uG.mp (zr.1.symm.trans (aD List.length e)))) (zr.1.symm▸h1) ?_
 refine jW (Go.tA (t:=s.toks) S H emptyDict rfl) fun G0 H0 nf nT=> ?_
 refine has (s:={s with heap:=s.heap.push emptyDict}) N c1 c2 hl (N.go F G0) H0 h (ke.at G0) fun aj g' af s' kv Vs G H' hk hv hq=> ?_
 refine wg (dD hq) fun O FV BV=> ?_
 refine iL (om (aab:=aab) hk hv) fun kvs c1 c2 c3=> ?_
 have gd:=G.tr _ _ nf (GH.set_same g s.heap.objs.size emptyDict)
 have k30:∀p∈kvs,p.1<30:=fun p hp=>BV p.1 (c3▸dC.mpr ⟨p,hp,rfl⟩)
 refine ⟨oi kvs,c1,wG.mpr ⟨_,G.at_.a5 _ _ gd.2,⟨#[],0,⟨rfl,rfl,rfl⟩,rfl,fun e he=>absurd he (Array.not_mem_empty e),.nil,.nil⟩⟩,fun h' hm hs=> ?_⟩
 rw [qN _ _ (m9 k30 (c3.symm▸FV)),ur] at hm
 refine bc (wG.mp hm) fun o' oU nK=> ?_
 have nz:∀q∈aj.fz,q.1≠s.heap.objs.size:=G.fk _ nf (fun q=>nomatch (GH.set_same g _ _).symm.trans q) fun q hq e=>nomatch (e▸(H.fz q hq).1).symm.trans S.fresh
 have H2:HP aab w hT aj af (g'.set s.heap.objs.size o'):=H'.Vk fun b o e hb=>(GH.au _ _ fun q:b=s.heap.objs.size=>hb.elim (fun hb=>gd.1 (q▸hb)) fun hb=>hb.elim (fun hb=>hb.elim fun q' hb=>By ((hb.2.symm.trans q)▸H'.inst hb.1) gd.2) fun hb=>hb.elim fun y hb=>nz y hb.1 (hb.2.symm.trans q)).trans e
 have H3:=H2.nO (ob:=.dS (ks.zip Vs)) (GH.set_same _ _ _) gd.1 nz ⟨nT,e9 X.T S⟩ (.dS nK (fun p hp=>BV p.1 (Ab hp).1) (c2.up (aj.bf _)))
 have Gb:=G0.trans G
 refine k (aj.cw s.heap.objs.size) _ _ _ _ (.ob af.objs.length) ⟨G.at_.upd gd.2 nT hs oU,Gb.bk.trans ⟨G.at_.v9 gd.2 hs,⟨rfl,rfl,rfl⟩⟩,Gb.le.trans (aj.bf _),fun b o nb e=> ?_,fun ca nb e hz=>Gb.fk ca nb e hz⟩ H3 (.ob (show (aj.o++[s.heap.objs.size])[af.objs.length]?=_ from H'.len▸nD)) ((aW h0▸jS (eO hq)) _ _ f6.mk')
 have x:=Gb.tr b o nb e
 have hb:b≠s.heap.objs.size:=fun z=>nomatch (z▸e).symm.trans S.fresh
 exact ⟨fun z=>(Ga.eG.mp z).elim x.1 hb,(GH.au _ _ hb).trans x.2⟩
theorem XS (X:Cx w hT A l n) {ks:List Nat} {as:gr} (has:OY aab w n A hT l as) (hnil:FN aab w n A hT l as):SE aab w n A hT l (.JQ ks as):=fun {env ns FR fr γ g s σ e Q E Qc Ec} N ck F H h k ke=>Hn ck fun keys values p ck=>by
 have O0:=ae ck
 have ck:=aa (aa ck)
 have UI:=f3 (ae (aa ck))
 have VN:=ae (aa (aa ck))
 exact if ck3:ks.length≤15 then if h0:ks=[] then by
  rw [h0] at O0 UI h
  exact Mm X N (iv O0).1 UI VN F H h k
 else Bx X N has O0 VN UI ck3 h0 F H h k ke
 else iD (aa (aa (aa ck))) (fun z=>absurd (f3 z) ck3) fun z=>GR X N O0 VN (aa z) UI (f3 (ae z)) (f3 (ae ck)) F H h k
end
def uW (M:Model) (A:Around) (env:Env) (Q:Shared→Prop) (E:Value→Shared→Prop):List Str→List Value→Shared→Prop
 | [],[],s=>Q s
 | x::xs,v::vs,s=>wpAny M A (storeName env x v) (fun O s'=>uW M A env Q E xs vs s') E s
 | _,_,_=>True
def Vu (M:Model) (A:Around) (tg:Expr) (env:Env) (it:Value) (Qe Qa:Shared→Prop) (E:Value→Shared→Prop) (r:Option Value) (s₁:Shared):Prop:=match r with
 | none=>Qe s₁
 | some v=>wpAny M A (letOwnedTupleGo tg it v) (fun O aG=>wpAny M A (assign tg env v) (fun O bP=>Qa bP) E aG) E s₁
inductive Tg:Expr→List Str→Prop
 | one {x p}:Tg (.Name x p) [x]
 | two {x p y q k r}:Tg (.Tuple [.Name x p,.Name y q] k r) [x,y]
structure FK (aab:Program) (w:World) (A:Around) (hT:Heap) (l:List Env) (len:Nat) (items:List (List V)) (G:St→Prop) (I:List Addr) (it:Value) (IS:Nat→Ga→GH→Prop):Prop where
 next:∀ {tg env xs γ g σ s k} {Qe Qa:Shared→Prop} {Ec:Value→Shared→Prop},Tg tg xs→xs.length=len→At hT l g s.heap→HP aab w hT γ σ g→G σ→IS k γ g→k≤items.length →
  (∀Vs vs g' s',items[k]?=some Vs→At hT l g' s'.heap→Bk l s s'→HP aab w hT γ σ g'→mf I g g'→IS (k+1) γ g'→ao w γ vs Vs→vs.length=len→uW (model aab w) A env Qa Ec xs vs s') →
  (∀g' s',k=items.length→At hT l g' s'.heap→Bk l s s'→HP aab w hT γ σ g'→mf I g g'→Qe s')→wpAny (model aab w) A (pyNext it) (Vu (model aab w) A tg env it Qe Qa Ec) Ec s
 keep:∀ {k γ g aj g'},IS k γ g→γ.Le aj→(∀b∈I,∀o,b∉γ.fp→g b=some o→b∉aj.fp∧g' b=some o)→(∀b∈I,(∀q∈γ.fz,q.1≠b)→g b≠none→b∉γ.fp→∀q∈aj.fz,q.1≠b)→IS k aj g'
 self:∀ {γ g s k} {Qn:Value→Shared→Prop} {Ec:Value→Shared→Prop},IS k γ g→At hT l g s.heap→Qn it s→wpAny (model aab w) A (pyIter it) Qn Ec s
 IB:∀ {k γ g},IS k γ g→∀b∈I,b∉γ.fp∧∃o,g b=some o∧Jv o
section
variable {aab:Program} {w:World} {n:Nat} {M:Model} {A:Around} {hT:Heap} {l:List Env} {γ aj:Ga} {g g':GH} {s s':Shared} {σ:St} {Q:PV} {E:PE} {Qc:Value→Shared→Prop} {Ec:Value→Shared→Prop} {v u:Value} {vA uA:V} {env:Env} {ns:bJ} {FR:Ga→GH→aO→Shared→Prop} {fr:aO} {I a:Addr}
theorem Off.Dy (h:Off I g g'):mf [I] g g':=fun b o hb e=>h b o (fun q=>hb (by rw [q];exact .head _)) e
theorem RY (hc:o.cls= .type T) (hd:o.data= .fields f) (hm:T∈IC):wO o:=⟨⟨T,hc,hm⟩,f,hd⟩
theorem Go.Sy (S:At hT l g s.heap) (H:HP aab w hT γ σ g) (hx:g a=some o) (hn:hT.get? a=none) (hf:a∉γ.fp) (WW:wO o) (hs:Heap.ExtBut a s.heap h') :
  At hT l (g.hide a) h'∧Bk l s {s with heap:=h',toks:=t}∧HP aab w hT γ σ (g.hide a):=
 ⟨(S.out hx hn hs).1,⟨(S.out hx hn hs).2,⟨rfl,rfl,rfl⟩⟩,H.off hx WW hf (Off.hide _ _)⟩
theorem nx1 (h:Tg tg xs) (hl:xs.length=1) (k:uW M A env Qa Ec xs [v] s):Vu M A tg env it Qe Qa Ec (some v) s:=by
 induction h with
 | one=>exact bR (mj k)
 | two=>exact absurd (show 2=1 from hl) (by decide)
def lU (T:String) (h:Heap) (I a:Addr) (k:Nat):Prop:=∃o,h.get? I=some o∧o.cls= .type T∧o.data= .fields #[.ref a,.int k 0]
def Vt (T:String) (hT:Heap) (I a:Addr) (k:Nat) (γ:Ga) (g:GH):Prop:=I∉γ.fp∧hT.get? I=none∧∃o,g I=some o∧o.cls= .type T∧o.data= .fields #[.ref a,.int k 0]
theorem getOne {ls:List V} {k:Nat} (h:k<ls.length):(ls.map fun x=>[x])[k]?=some [ls[k]]:=by simp [h]
theorem Ko {T:String} {i:Nat} {ls:List V} {ob:Ob} {Is:Heap→Array Value→Prop} (hm:T∈IC) (ha:γ.o[i]?=some a)
  (a5:∀ {γ:Ga} {g:GH} {σ:St} {s:Shared},HP aab w hT γ σ g→At hT l g s.heap→γ.o[i]?=some a→σ.objs[i]?=some ob→∃xs:List Value,ao w γ xs ls∧Is s.heap xs.toArray)
  (nx:∀ {s:Shared} {k:Nat} {x:Value} {xs:List Value} {Q:Option Value→Shared→Prop} {E:Value→Shared→Prop},lU T s.heap I a k→Is s.heap xs.toArray→xs[k]?=some x→(∀h',lU T h' I a (k+1)→Heap.SameBut I s.heap h'→Q (some x) {s with heap:=h' })→wpAny (model aab w) A (pyNext (.ref I)) Q E s)
  (en:∀ {s:Shared} {k:Nat} {xs:List Value} {Q:Option Value→Shared→Prop} {E:Value→Shared→Prop},lU T s.heap I a k→Is s.heap xs.toArray→xs.length≤k→(∀h',Heap.ExtBut I s.heap h'→Q none {s with heap:=h' })→wpAny (model aab w) A (pyNext (.ref I)) Q E s)
  (slf:∀ {s:Shared} {k:Nat} {Q:Value→Shared→Prop} {E:Value→Shared→Prop},lU T s.heap I a k→Q (.ref I) s→wpAny (model aab w) A (pyIter (.ref I)) Q E s) :
  FK aab w A hT l 1 (ls.map fun x=>[x]) (fun σ=>σ.objs[i]?=some ob) [I] (.ref I) (fun k aj g'=>aj.o[i]?=some a∧Vt T hT I a k aj g') where
 next:=fun {tg env xs γ g σ s k Qe Qa Ec} ht hl S H hg hI hk k1 k2=>by
  refine Jl hI fun ha hf hn o e hc hd=> ?_;clear hI
  refine bc (a5 H S ha hg) fun xs bx L=> ?_
  rw [cL] at hk k2
  have it:lU T s.heap I a k:=⟨o,S.a5 _ _ e,hc,hd⟩
  have sc:=RY hc hd hm
  by_cases cu:k<ls.length
  ·exact bx.item (gm cu) fun x hx O W5=>nx it L hx fun h' hi hs=>by
    refine iL hi fun o' oU cq nK=> ?_;clear hi
    refine wg (Go.Un (t:=s.toks) S H e hn hf sc hs oU) fun S' B' H'=> ?_
    exact nx1 ht hl (k1 _ _ _ _ (getOne cu) S' B' H' (Off.set _ _ _).Dy ⟨ha,hf,hn,o',GH.set_same _ _ _,cq,nK⟩ (.cons W5 .nil) rfl)
  ·refine en it L (by rw [bx.length];exact rr.mp cu) fun h' hs=> ?_
   refine wg (Go.Sy (t:=s.toks) S H e hn hf sc hs) fun S' B' H'=> ?_
   exact k2 _ _ (wu hk (rr.mp cu)) S' B' H' (Off.hide _ _).Dy
 keep:=fun h le t O=>have h':=h.2;⟨le.o _ _ h.1,h'.2.2.elim fun o q=>⟨(t _ (.head _) _ h'.1 q.1).1,h'.2.1,o,(t _ (.head _) _ h'.1 q.1).2,q.2⟩⟩
 self:=fun h S q=>slf (h.2.2.2.imp fun o h=>⟨S.a5 _ _ h.1,h.2⟩) q
 IB:=fun h b hb=>dX.mp hb▸⟨h.2.1,h.2.2.2.imp fun o q=>⟨q.1,.inl ⟨_,q.2.2⟩⟩⟩
theorem M3 {i:Nat} {ls:List V} (hh:A.handled=none) (ha:γ.o[i]?=some a):FK aab w A hT l 1 (ls.map fun x=>[x]) (fun σ=>σ.objs[i]?=some (.lst ls)) [I] (.ref I) (fun k aj g'=>aj.o[i]?=some a∧Vt "list_iterator" hT I a k aj g'):=
 Ko (Is:=fun h xs=>h.IsList a xs) (by decide) ha (fun H S ha hg=>(H.lst S ha hg).imp fun xs h=>h.elim fun m h=>⟨h.2.1,h.2.2.2⟩) (fun it L hx k=>wpAny_pyNext_list_item it L (by simpa using hx) k) (fun it L hx k=>wpAny_pyNext_list_end hh it L (by simpa using hx) k) (fun it q=>wpAny_pyIter_listiter it q)
theorem IsTup.tuple (L:IsTup h a xs):h.IsTuple a xs:=by
 refine LD L fun O x1 x2 x3 x4=> ?_;clear L
 exact ⟨_,x1,x2,x3,x4⟩
theorem Ry {i:Nat} {ls:List V} (hh:A.handled=none) (ha:γ.o[i]?=some a):FK aab w A hT l 1 (ls.map fun x=>[x]) (fun σ=>σ.objs[i]?=some (.tup ls)) [I] (.ref I) (fun k aj g'=>aj.o[i]?=some a∧Vt "tuple_iterator" hT I a k aj g'):=
 Ko (Is:=fun h xs=>h.IsTuple a xs) (by decide) ha (fun H S ha hg=>(H.tup S ha hg).imp fun xs h=>h.elim fun m h=>⟨h.2.1,IsTup.tuple h.2.2⟩) (fun it L hx k=>wpAny_pyNext_tuple_item it L (by simpa using hx) k) (fun it L hx k=>wpAny_pyNext_tuple_end hh it L (by simpa using hx) k) (fun it q=>wpAny_pyIter_tupleiter it q)
def RIs (hT:Heap) (I:Addr) (x left step:Int) (γ:Ga) (g:GH):Prop:=I∉γ.fp∧hT.get? I=none∧g I=some (Vg x left step)
theorem Hy (hh:A.handled=none) (x step:Int) (m:Nat) (hi:items=(List.range m).map fun (j:Nat)=>[V.num (x+j*step)]) :
  FK aab w A hT l 1 items (fun O=>True) [I] (.ref I) (fun k aj g'=>RIs hT I (x+k*step) ((m:Int) - k) step aj g') where
 next:=fun {tg env xs γ g σ s k Qe Qa Ec} ht hl S H hg hI hk k1 k2=>by
  subst hi
  refine wg hI fun hf hn e=> ?_;clear hI
  have sc:wO (Vg (x+k*step) ((m:Int) - k) step):=⟨⟨_,rfl,by decide⟩,_,rfl⟩
  simp only [cL,uK] at hk k2
  by_cases cu:k<m
  ·refine wpAny_pyNext_range_item (S.a5 _ _ e) (by lia) fun h' hi hs=> ?_
   have oQ:h'.get? I=some (Vg (x+(k+1:Nat)*step) ((m:Int) - (k+1:Nat)) step):=by
    have e1:x+((k+1:Nat):Int)*step=x+(k:Int)*step+step:=by push_cast;rw [Int.add_mul,Int.one_mul,yJ]
    have e2:(m:Int) - ((k+1:Nat):Int)=(m:Int) - (k:Int) - 1:=by push_cast;lia
    rw [e1,e2];exact hi
   refine wg (Go.Un (t:=s.toks+1) S H e hn hf sc hs oQ) fun S' B' H'=> ?_
   exact nx1 ht hl (k1 [.num (x+k*step)] _ _ _ (by simp [cu]) S' B' H' (Off.set _ _ _).Dy ⟨hf,hn,GH.set_same _ _ _⟩ (.cons Num.rel .nil) rfl)
  ·refine wpAny_pyNext_range_end hh (S.a5 _ _ e) (by lia) fun h' hs=> ?_
   refine wg (Go.Sy (t:=s.toks) S H e hn hf sc hs) fun S' B' H'=> ?_
   exact k2 _ _ (by lia) S' B' H' (Off.hide _ _).Dy
 keep:=fun ⟨hf,hn,e⟩ le t O=>by
  have q:=t _ (.head _) _ hf e
  exact ⟨q.1,hn,q.2⟩
 self:=fun ⟨hf,hn,e⟩ S q=>wpAny_pyIter_rangeiter (S.a5 _ _ e) q
 IB:=fun h b hb=>dX.mp hb▸⟨h.1,_,h.2.2,.inl ⟨_,rfl⟩⟩
end
def Gg (aab:Program) (w:World) (n:Nat) (A:Around) (hT:Heap) (l:List Env) (m:MI):Prop:=∀ {env ns FR fr γ g s σ e K E Ec} {Fin:Value→Shared→Prop},cZ w hT l env ns FR→UJ ns m e=true→FR γ g fr s→HP aab w hT γ σ g→qI (aB aab w n) m fr K E σ→Ke aab w hT l γ g s E Ec →
 (∀aj g' af s' items G I it IS,Go hT l γ g s aj g' s'→HP aab w hT aj af g'→FK aab w A hT l (mR m) items G I it IS→IS 0 aj g'→(∀b∈I,g b=none)→K items G af→Fin it s') →
 wpAny (model aab w) A (eval e env) (fun x s₁=>wpAny (model aab w) A (pyIter x) Fin Ec s₁) Ec s
section
variable {aab:Program} {w:World} {n:Nat} {M:Model} {A:Around} {hT:Heap} {l:List Env}
theorem Rp (X:Cx w hT A l n) {m:ME} (hm:SE aab w n A hT l m):Gg aab w n A hT l (.exp m):=fun {env ns FR fr γ g s σ e K E Ec Fin} N ck F H h ke k=>
 hm N ck F H h (fun aj g' af s' v V G H' hv h'=>hv.iS h' fun i a ha h'=>H'.kL G.at_ ha h' fun ls xs m' hb O O bx L hk=>wpAny_pyIter_list L (by
  refine jW (Go.tA (t:=s'.toks) G.at_ H' { cls:=.type "list_iterator",data:=.fields #[.ref a,.int 0 0] } rfl) fun G2 H2 nf nT=> ?_
  exact k _ _ _ _ _ _ _ _ _ (G.trans G2) H2 (M3 X.hh ha) ⟨ha,nf,nT,_,GH.set_same _ _ _,rfl,rfl⟩ (fun b hb=>dX.mp hb▸G.mq H' G.at_.fresh) hk)) ke
theorem Rt (X:Cx w hT A l n) {m:ME} (hm:SE aab w n A hT l m):Gg aab w n A hT l (.tupI m):=fun {env ns FR fr γ g s σ e K E Ec Fin} N ck F H h ke k=>
 hm N ck F H h (fun aj g' af s' v V G H' hv h'=>hv.iS h' fun i a ha h'=>Kw h' fun ls hb hk=>(H'.tup G.at_ ha hb).elim fun xs h0=>h0.elim fun m' h0=>wpAny_pyIter_tuple (IsTup.tuple h0.2.2) (by
  refine jW (Go.tA (t:=s'.toks) G.at_ H' { cls:=.type "tuple_iterator",data:=.fields #[.ref a,.int 0 0] } rfl) fun G2 H2 nf nT=> ?_
  exact k _ _ _ _ _ _ _ _ _ (G.trans G2) H2 (Ry X.hh ha) ⟨ha,nf,nT,_,GH.set_same _ _ _,rfl,rfl⟩ (fun b hb=>dX.mp hb▸G.mq H' G.at_.fresh) hk)) ke
theorem Cd {γ aj:Ga} {g g':GH} {s s':Shared} {af:St} {t u v:Tok} {a b c:Int} {m:Nat} {K:List (List V)→(St→Prop)→St→Prop} {Ec:Value→Shared→Prop} {Fin:Value→Shared→Prop} {items:List (List V)} {tk:Nat} (X:Cx w hT A l n) (G:Go hT l γ g s aj g' s') (H':HP aab w hT aj af g')
  (sm:Builtin.Range.small a b c=true) (hm:Builtin.Range.rangeSize a b c=m) (hi:items=(List.range m).map fun (j:Nat)=>[V.num (a+j*c)]) (hk:K items (fun O=>True) af)
  (k:∀aj g' af s' items G I it IS,Go hT l γ g s aj g' s'→HP aab w hT aj af g'→FK aab w A hT l 1 items G I it IS→IS 0 aj g'→(∀b∈I,g b=none)→K items G af→Fin it s') :
  wpAny (model aab w) A (pyIter (.ref s'.heap.objs.size)) Fin Ec { s' with heap:=s'.heap.push (XI a b c t u v),toks:=tk}:=by
 refine jW (Go.tA (t:=tk) G.at_ H' (XI a b c t u v) rfl) fun G2 H2 nf nT=> ?_
 refine wpAny_pyIter_range (G2.at_.a5 _ _ (GH.set_same _ _ _)) sm ?_
 have G3:=G.trans G2
 refine jW (Go.tA (t:=tk) (s:={ s' with heap:=s'.heap.push (XI a b c t u v),toks:=tk}) G2.at_ H2 (Vg a (Builtin.Range.rangeSize a b c) c) rfl) fun G4 H4 nf4 nT4=> ?_
 refine k _ _ _ _ items _ _ _ _ (G3.trans G4) H4 (Hy X.hh a c m hi) ⟨nf4,nT4,?_⟩ (fun b hb=> ?_) hk
 ·rw [GH.set_same,hm];simp
 ·exact dX.mp hb▸G3.mq H2 G2.at_.fresh
end
theorem DV (h1: -(2 ^ 63)≤a) (h2:a<2 ^ 63) (hb: -(2 ^ 62)≤b∧b<2 ^ 62) (hc: -(2 ^ 62)≤c∧c<2 ^ 62) (h0:c≠0) (hn:Builtin.Range.rangeSize a b c<2 ^ 63):Builtin.Range.small a b c=true:=by
 have h3:0≤Builtin.Range.rangeSize a b c:=by
  unfold Builtin.Range.rangeSize
  split
  ·split
   ·have:0≤(b - a - 1) / c:=Int.ediv_nonneg (by lia) (by lia)
    lia
   ·lia
  ·split
   ·have:0≤(a - b - 1) / (-c):=Int.ediv_nonneg (by lia) (by lia)
    lia
   ·lia
 unfold Builtin.Range.small Builtin.Range.rangeFitsLong
 simp only [Bool.and_eq_true,uk,decide_eq_true_eq]
 refine ⟨⟨⟨⟨⟨h1,h2⟩,?_⟩,?_⟩,?_⟩,?_⟩
 ·lia
 ·lia
 ·lia
 ·right
  split <;> simp <;> lia
section
variable {aab:Program} {w:World} {n:Nat} {M:Model} {A:Around} {hT:Heap} {l:List Env}
theorem yb (m:Nat):Builtin.Range.rangeSize 0 m 1=m:=by
 unfold Builtin.Range.rangeSize;rw [if_pos (by decide),Int.ediv_one];split <;> lia
theorem ya (m:Nat):Builtin.Range.rangeSize ((m:Int) - 1) (-1) (-1)=m:=by
 unfold Builtin.Range.rangeSize;rw [if_neg (by decide),show -(-1:Int)=1 from rfl,Int.ediv_one];split <;> lia
theorem zJ (m:Nat):qY m=(List.range m).map fun (j:Nat)=>[V.num ((0:Int)+j*1)]:=by
 unfold qY;congr 1;funext j;simp
theorem Bz (m:Nat):sH m=(List.range m).map fun (j:Nat)=>[V.num (((m:Int) - 1)+j*(-1))]:=by
 induction m with
 | zero=>rfl
 | succ m ih=>
  rw [sH,ih,List.range_succ_eq_map,dh,dj]
  congr 1
  ·simp
  ·refine uu fun j O=> ?_
   simp only [Function.comp]
   congr 2;push_cast;lia
theorem SU {c:Nat} (hc:c<1000000):Builtin.Range.small 0 c 1=true:=DV (by decide) (by decide) ⟨by lia,by lia⟩ ⟨by decide,by decide⟩ (by decide) (by rw [yb];lia)
theorem SS {c:Nat} (hc:c<1000000):Builtin.Range.small ((c:Int) - 1) (-1) (-1)=true:=DV (by lia) (by lia) ⟨by decide,by decide⟩ ⟨by decide,by decide⟩ (by decide) (by rw [ya];lia)
theorem Rq (X:Cx w hT A l n) {m:ME} (hm:SE aab w n A hT l m):Gg aab w n A hT l (.Pn m):=fun {env ns FR fr γ g s σ e K E Ec Fin} N ck F H h ke k=>pj ck fun q es p hg hp ck=>
 oM N X.T (N.at_ F) (f:=.type "range") (bL (i:=5) rfl) hg (fun O=>Hz) hp (gH (P:=fun es=>Ev (model aab w) A env Ec es (fun vs aG=>wpAny (model aab w) A (call (.type "range") vs) (fun x s₁=>wpAny (model aab w) A (pyIter x) Fin Ec s₁) Ec aG) s) ck fun a ck=>
  bp (hm N ck F H h (fun aj g' af s' v V G H' hv h'=>hv.b7 h' fun z t h'=>CP h' fun c e hk=>e▸call_range_1 (Cd X G H' (SU (dD hk)) (yb c) (zJ c) (eO hk) k)) ke))
theorem jt {α:Type} {l:List α} {f:α→α→α→Bool} {P:List α→Prop} (h:three l f=true) (k:∀a b c,f a b c=true→P [a,b,c]):P l:=
 iK h fun a b r h=>gH (P:=fun r=>P (a::b::r)) h fun c=>k a b c
theorem Kd (X:Cx w hT A l n) {m1 m2 m3:ME} (h1:SE aab w n A hT l m1) (h2:SE aab w n A hT l m2) (h3:SE aab w n A hT l m3):Gg aab w n A hT l (.Iv m1 m2 m3):=fun {env ns FR fr γ g s σ e K E Ec Fin} N ck F H h ke k=>pj ck fun q es p hg hp ck=>
 oM N X.T (N.at_ F) (f:=.type "range") (bL (i:=5) rfl) hg (fun O=>Hz) hp (jt (P:=fun es=>Ev (model aab w) A env Ec es (fun vs aG=>wpAny (model aab w) A (call (.type "range") vs) (fun x s₁=>wpAny (model aab w) A (pyIter x) Fin Ec s₁) Ec aG) s) ck fun a b c ck=>
  bp (h1 N (ae ck) F H h (fun γ1 g1 rC s1 v1 V1 G1 H1 Kc h'=>
   bp (h2 N (ae (aa ck)) (N.go F G1) H1 h' (fun gN g2 eg s2 v2 V2 G2 H2 zu h'=>
    bp (h3 N (aa (aa ck)) (N.go F (G1.trans G2)) H2 h' (fun LK g3 k6 s3 v3 V3 G3 H3 hv3 h'=>Kc.b7 h' fun z1 t1 h'=>zu.b7 h' fun z2 t2 h'=>hv3.b7 h' fun z3 t3 h'=>by
     obtain rfl:z2= -1:=eq_of_beq (ae (dG h'))
     obtain rfl:z3= -1:=eq_of_beq (aa (dG h'))
     refine CP (dH h') fun c e hk=> ?_
     obtain rfl:z1=(c:Int) - 1:=by rw [←e];exact (uv z1 1).symm
     have hc:=dD hk
     exact call_range_3 (by decide) (Cd X ((G1.trans G2).trans G3) H3 (SS hc) (ya c) (Bz c) (eO hk) k) (.inl (PyProof.noPylong_small (by omega)))) (ke.at (G1.trans G2)))) (ke.at G1))) ke))
end
noncomputable def zO (TI TO:Addr) (f0:Value):Obj:={ cls:=.type "zip",dict:=none,data:=.fields #[f0,.bool false,.bool false,.ref TI,.ref TO],slots:= #[] }
noncomputable def tJ (a b:Value):Obj:={ cls:=.type "tuple",data:=.seq #[a,b] }
section
variable {aab:Program} {w:World} {n:Nat} {M:Model} {A:Around} {hT:Heap} {l:List Env} {γ aj:Ga} {g g':GH} {s s':Shared} {σ:St} {E:Value→Shared→Prop} {env:Env}
theorem PK (hh:A.handled=none) (ht:IsTup s.heap t xs.toArray) (hk:elts.length=xs.length) (hp:elts.all aQ=true)
  (h:∀h',(∀b o,s.heap.get? b=some o→h'.get? b=some o)→wpAny (model aab w) A (assignInOrder (elts.map fun e=>assign e env) xs) Q E {s with heap:=h' }):wpAny (model aab w) A (assign (.Tuple elts k pos) env (.ref t)) Q E s:=by
 have e1:∀l:List Expr,l.all aQ=true→assignEach l env=l.map fun e=>(false,assign e env):=by
  intro l
  induction l with
  | nil=>intro _;rfl
  | cons e r ih=>
   intro hp
   simp only [List.all_cons,Bool.and_eq_true] at hp
   have:assignEach (e::r) env=(false,assign e env)::assignEach r env:=by
    obtain ⟨h1,_⟩:=hp
    cases e <;> first | rfl | cases h1
   rw [this,ih hp.2];rfl
 have e2:(assignEach elts env).map (·.2)=elts.map fun e=>assign e env:=by rw [e1 _ hp,dj];rfl
 have e3:(assignEach elts env).findIdx? (·.1)=none:=by
  rw [e1 _ hp,List.findIdx?_eq_none_iff];intro x hx
  obtain ⟨y,_,rfl⟩:=dC.mp hx;rfl
 show wpAny _ A (do standAt pos;unpack (.ref t) (assignEach elts env)) Q E s
 refine aJ (rq ?_)
 unfold unpack
 rw [e2,e3]
 refine aJ (hW ?_)
 have e4:(assignEach elts env).length=xs.toArray.size:=by rw [e1 _ hp,cL,hk];simp
 rw [e4]
 exact unpackItems_tuple (prog:=aab) (w:=w) (A:=A) (E:=E) hh ht fun h' he=>by
  simpa using h h' fun b o e=>he b o (eR (cA e)) e
theorem HP.apart (H:HP aab w hT γ σ g) {I:List Addr} (hI:∀b∈I,b∉γ.fp∧(∀q∈γ.fz,q.1≠b)∧∃o,g b=some o∧∀d,o≠instObj 82 d) (off:∀b,b∉I→g' b=g b):HP aab w hT γ σ g':=
 H.Vk fun b o e hb=>(off b fun q=>by
  refine Uv (hI b q) fun h1 h2 o' h3 h4=> ?_
  rcases hb with hb | ⟨p,hp,e2⟩ | ⟨y,hy,e2⟩
  ·exact h1 hb
  ·exact h4 _ (cH (h3.symm.trans (e2.symm▸H.inst hp)))
  ·exact h2 y hy e2.symm).trans e
def Y7 (g:GH) (i l:Addr) (k:Nat):Prop:=∃o,g i=some o∧o.cls= .type "list_iterator"∧o.data= .fields #[.ref l,.int k 0]
structure Az (hT:Heap) (z TI TO i1 i2 l1 l2:Addr) (i j:Nat) (k:Nat) (γ:Ga) (g:GH):Prop where
 D:ZipApart z TI TO i1 i2 l1 l2
 a:γ.o[i]?=some l1
 b:γ.o[j]?=some l2
 ap:∀b∈[z,TI,TO,i1,i2],b∉γ.fp∧hT.get? b=none∧∀q∈γ.fz,q.1≠b
 gz:g z=some (zO TI TO .none)
 O6:g TI=some (tJ (.ref i1) (.ref i2))
 GY:∃a b,g TO=some (tJ a b)
 g1:Y7 g i1 l1 k
 g2:Y7 g i2 l2 k
theorem yY {P:Addr→Prop} {a b c d:Addr} (h1:P a) (h2:P b) (h3:P c) (h4:P d):∀x∈[a,b,c,d],P x:=cc.mpr ⟨h1,cc.mpr ⟨h2,cc.mpr ⟨h3,cc.mpr ⟨h4,fun O h=>absurd h cS⟩⟩⟩⟩
theorem Gj {P:Addr→Prop} {a b c d e:Addr} (h1:P a) (h2:P b) (h3:P c) (h4:P d) (h5:P e):∀x∈[a,b,c,d,e],P x:=cc.mpr ⟨h1,yY h2 h3 h4 h5⟩
theorem NF (h:x∉[a,b,c,d]):x≠a∧x≠b∧x≠c∧x≠d:=⟨fun e=>h (e▸.head _),fun e=>h (e▸.tail _ (.head _)),fun e=>h (e▸.tail _ (.tail _ (.head _))),fun e=>h (e▸.tail _ (.tail _ (.tail _ (.head _))))⟩
noncomputable def g4 (g:GH) (z TO i1 i2:Addr) (oz Dw o1 o2:Option Obj):GH:=fun b=>if b=z then oz else if b=TO then Dw else if b=i1 then o1 else if b=i2 then o2 else g b
theorem jj {o:Obj} {t:String} (h:o.cls= .type t) (d:Addr):o≠instObj 82 d:=fun e=>by rw [e] at h;cases h
section
variable {z TI TO i1 i2 l1 l2:Addr} {a b c d:Option Obj} {i j k:Nat}
theorem qq {x:Addr} (h:x∉[z,TO,i1,i2]):g4 g z TO i1 i2 a b c d x=g x:=
 have q:=NF h;(aW q.1).trans ((aW q.2.1).trans ((aW q.2.2.1).trans (aW q.2.2.2)))
theorem xw:mf [z,TI,TO,i1,i2] g (g4 g z TO i1 i2 a b c d):=fun x o hx e=>(qq fun hm=>hx (yY (P:=(· ∈[z,TI,TO,i1,i2])) (.head _) (.tail _ (.tail _ (.head _))) (.tail _ (.tail _ (.tail _ (.head _)))) (.tail _ (.tail _ (.tail _ (.tail _ (.head _))))) x hm)).trans e
theorem QD:g4 g z TO i1 i2 a b c d z=a:=bE rfl
theorem JV (D:ZipApart z TI TO i1 i2 l1 l2):g4 g z TO i1 i2 a b c d TO=b:=(aW D.TOz).trans (bE rfl)
theorem QB (D:ZipApart z TI TO i1 i2 l1 l2):g4 g z TO i1 i2 a b c d i1=c:=(aW D.i1z).trans ((aW D.TOi1.symm).trans (bE rfl))
theorem QC (D:ZipApart z TI TO i1 i2 l1 l2):g4 g z TO i1 i2 a b c d i2=d:=(aW D.i2z).trans ((aW D.TOi2.symm).trans ((aW D.i12.symm).trans (bE rfl)))
theorem Az.Z0 (Z:Az hT z TI TO i1 i2 l1 l2 i j k γ g) (S:At hT l g s.heap):s.heap.IsListIter i1 l1 k:=Z.g1.imp fun o h=>⟨S.a5 _ _ h.1,h.2⟩
theorem Az.Z1 (Z:Az hT z TI TO i1 i2 l1 l2 i j k γ g) (S:At hT l g s.heap):s.heap.IsListIter i2 l2 k:=Z.g2.imp fun o h=>⟨S.a5 _ _ h.1,h.2⟩
theorem Az.four (Z:Az hT z TI TO i1 i2 l1 l2 i j k γ g):∀x∈[z,TO,i1,i2],(∃o,g x=some o)∧hT.get? x=none:=
 yY ⟨⟨_,Z.gz⟩,(Z.ap _ (.head _)).2.1⟩ ⟨Z.GY.elim fun a h=>h.elim fun b e=>⟨_,e⟩,(Z.ap _ (.tail _ (.tail _ (.head _)))).2.1⟩ ⟨Z.g1.imp fun o h=>h.1,(Z.ap _ (.tail _ (.tail _ (.tail _ (.head _))))).2.1⟩ ⟨Z.g2.imp fun o h=>h.1,(Z.ap _ (.tail _ (.tail _ (.tail _ (.tail _ (.head _)))))).2.1⟩
theorem Az.apart (Z:Az hT z TI TO i1 i2 l1 l2 i j k γ g) (H:HP aab w hT γ σ g):HP aab w hT γ σ (g4 g z TO i1 i2 a b c d):=
 have p:=fun x hx=>(⟨(Z.ap x hx).1,(Z.ap x hx).2.2⟩:x∉γ.fp∧∀q∈γ.fz,q.1≠x)
 H.apart (yY ⟨(p _ (.head _)).1,(p _ (.head _)).2,_,Z.gz,jj rfl⟩ ⟨(p _ (.tail _ (.tail _ (.head _)))).1,(p _ (.tail _ (.tail _ (.head _)))).2,Z.GY.elim fun a h=>h.elim fun b e=>⟨_,e,jj rfl⟩⟩
  ⟨(p _ (.tail _ (.tail _ (.tail _ (.head _))))).1,(p _ (.tail _ (.tail _ (.tail _ (.head _))))).2,Z.g1.imp fun o h=>⟨h.1,jj h.2.1⟩⟩ ⟨(p _ (.tail _ (.tail _ (.tail _ (.tail _ (.head _)))))).1,(p _ (.tail _ (.tail _ (.tail _ (.tail _ (.head _)))))).2,Z.g2.imp fun o h=>⟨h.1,jj h.2.1⟩⟩) fun x hx=>qq hx
theorem Az.turn {h':Heap} (Z:Az hT z TI TO i1 i2 l1 l2 i j k γ g) (S:At hT l g s.heap) (hk:∀c o,c≠z→c≠TO→c≠i1→c≠i2→s.heap.get? c=some o→h'.get? c=some o)
  (ha:∀o,a=some o→h'.get? z=some o) (hb:∀o,b=some o→h'.get? TO=some o) (hc:∀o,c=some o→h'.get? i1=some o) (hd:∀o,d=some o→h'.get? i2=some o) :
  At hT l (g4 g z TO i1 i2 a b c d) h'∧Kp l s.heap h':=
 S.turn Z.four (fun x o hx=>have q:=NF hx;hk x o q.1 q.2.1 q.2.2.1 q.2.2.2) (fun x hx=>qq hx)
  (yY (fun o e=>ha o (QD.symm.trans e)) (fun o e=>hb o ((JV Z.D).symm.trans e)) (fun o e=>hc o ((QB Z.D).symm.trans e)) (fun o e=>hd o ((QC Z.D).symm.trans e)))
end
theorem zip_get {ls ms:List V} {k:Nat} (h1:k<ls.length) (h2:k<ms.length):((ls.zip ms).map fun x=>[x.1,x.2])[k]?=some [ls[k],ms[k]]:=by
 rw [gp,gm (by rw [List.length_zip];lia)]
 simp
theorem Jn {ls ms:List V} (h:ls.length≤ms.length):((ls.zip ms).map fun x=>[x.1,x.2]).length=ls.length:=by rw [cL,List.length_zip,Nat.min_eq_left h]
theorem Rz {z TI TO i1 i2 l1 l2:Addr} {i j:Nat} {ls ms:List V} (hh:A.handled=none) (O9:ls.length≤ms.length) :
  FK aab w A hT l 2 ((ls.zip ms).map fun x=>[x.1,x.2]) (fun σ=>σ.objs[i]?=some (.lst ls)∧σ.objs[j]?=some (.lst ms)) [z,TI,TO,i1,i2] (.ref z) (Az hT z TI TO i1 i2 l1 l2 i j) where
 next:=fun {tg env xs γ g σ s k Qe Qa Ec} ht hl S H hg Z hk k1 k2=>by
  induction ht with
  | one=>exact absurd (show 1=2 from hl) (by decide)
  | two=>
   refine bX (H.lst S Z.a hg.1) fun us m1 O WY O L1=> ?_
   refine bX (H.lst S Z.b hg.2) fun ws m2 O ZY O L2=> ?_
   rw [Jn O9] at hk k2
   refine jX Z.GY fun ta tb GY=> ?_
   by_cases cu:k<ls.length
   ·have Q9:=fu cu O9
    refine WY.item (gm cu) fun x hx O W5=>ZY.item (gm Q9) fun y hy O hyr=> ?_
    refine wpAny_pyNext_zip_item Z.D (S.a5 _ _ Z.gz) (S.a5 _ _ Z.O6) (S.a5 _ _ GY) (Z.Z0 S) (Z.Z1 S) L1 L2 (x:=x) (y:=y) (by simpa using hx) (by simpa using hy) fun h' Rn Wf Q1 J6 hT' hsz zq=> ?_
    refine wpAny_letOwnedTupleGo_zip (s:={s with heap:=h' }) Rn fun zl W7 mM=> ?_
    have hTz:s.heap.objs.size≠z:=Aa (cA (S.a5 _ _ Z.gz))
    refine bc Q1 fun o1' e1 d1'=> ?_;clear Q1
    refine bc J6 fun o2' e2 d2'=> ?_;clear J6
    obtain ⟨JA,at2⟩:=Z.turn (a:=some (zO TI TO .none)) (b:=some (tJ x y)) (c:=some o1') (d:=some o2') (h':=zl) S (fun b o q1 q2 q3 q4 e=>(mM.2 b q1).trans (zq b o q1 q2 q3 q4 e))
     (fun o e=>e▸W7) (fun o e=>e▸(mM.2 _ Z.D.TOz).trans Wf) (fun o e=>e▸(mM.2 _ Z.D.i1z).trans e1) (fun o e=>e▸(mM.2 _ Z.D.i2z).trans e2)
    refine PK (s:={s with heap:=zl}) (xs:=[x,y]) hh ⟨_,(mM.2 _ hTz).trans hT',rfl,0,rfl⟩ rfl rfl fun h3 ZG=> ?_
    have fin:=k1 _ [x,y] _ {s with heap:=h3} (zip_get cu Q9) (JA.keeps ZG) ⟨at2.trans (Kp.of_keeps ZG),⟨rfl,rfl,rfl⟩⟩ (Z.apart H) xw ⟨Z.D,Z.a,Z.b,Z.ap,QD,(qq (fun q=>yY (P:=(TI≠ ·)) Z.D.TIz Z.D.TITO Z.D.TIi1 Z.D.TIi2 TI q rfl)).trans Z.O6,⟨x,y,JV Z.D⟩,⟨o1',QB Z.D,d1'⟩,⟨o2',QC Z.D,d2'⟩⟩ (.cons W5 (.cons hyr .nil)) rfl
    exact lE (mj (dW fin (fun O s₁ aA=>lE (mj (dW aA (fun O aG cE=>uU cE) fun O O e=>e))) fun O O e=>e))
   ·refine wpAny_pyNext_zip_end hh Z.D (S.a5 _ _ Z.gz) (S.a5 _ _ Z.O6) (S.a5 _ _ GY) (Z.Z0 S) (Z.Z1 S) L1 L2 (.inl (by rw [List.getElem?_toArray];exact Fv (by rw [WY.length];exact rr.mp cu))) fun h' zq=> ?_
    have no:∀ {x:Addr} (o:Obj),(none:Option Obj)=some o→h'.get? x=some o:=fun o e=>nomatch e
    obtain ⟨JA,at2⟩:=Z.turn (a:=none) (b:=none) (c:=none) (d:=none) (h':=h') S zq no no no no
    have H':HP aab w hT γ σ (g4 g z TO i1 i2 none none none none):=Z.apart H
    exact k2 _ {s with heap:=h' } (wu hk (rr.mp cu)) JA ⟨at2,⟨rfl,rfl,rfl⟩⟩ H' xw
 keep:=fun {k γ g aj g'} Z le t f=>by
  have m:∀b∈[z,TI,TO,i1,i2],∃o,g b=some o:=Gj ⟨_,Z.gz⟩ ⟨_,Z.O6⟩ (Z.GY.elim fun a h=>h.elim fun b e=>⟨_,e⟩) (Z.g1.imp fun o h=>h.1) (Z.g2.imp fun o h=>h.1)
  have t':∀b∈[z,TI,TO,i1,i2],∀o,g b=some o→g' b=some o:=fun b hb o e=>(t b hb o (Z.ap b hb).1 e).2
  exact ⟨Z.D,le.o _ _ Z.a,le.o _ _ Z.b,fun b hb=>(m b hb).elim fun o e=>⟨(t b hb o (Z.ap b hb).1 e).1,(Z.ap b hb).2.1,f b hb (Z.ap b hb).2.2 (e▸nofun) (Z.ap b hb).1⟩,t' _ (.head _) _ Z.gz,t' _ (.tail _ (.head _)) _ Z.O6,
   Z.GY.imp fun a=>cD fun b e=>t' _ (.tail _ (.tail _ (.head _))) _ e,Z.g1.imp fun o h=>⟨t' _ (.tail _ (.tail _ (.tail _ (.head _)))) _ h.1,h.2⟩,Z.g2.imp fun o h=>⟨t' _ (.tail _ (.tail _ (.tail _ (.tail _ (.head _))))) _ h.1,h.2⟩⟩
 self:=fun Z S q=>wpAny_pyIter_zip (S.a5 _ _ Z.gz) q
 IB:=fun {k γ g} Z b hb=>⟨(Z.ap b hb).1,Gj (P:=fun b=>∃o,g b=some o∧Jv o) ⟨_,Z.gz,.inl ⟨_,rfl⟩⟩ ⟨_,Z.O6,.inr ⟨_,_,rfl⟩⟩ (Z.GY.elim fun a h=>h.elim fun b e=>⟨_,e,.inr ⟨_,_,rfl⟩⟩) (Z.g1.imp fun o h=>⟨h.1,.inl ⟨_,h.2.2⟩⟩) (Z.g2.imp fun o h=>⟨h.1,.inl ⟨_,h.2.2⟩⟩) b hb⟩
theorem eH {h:Heap} {a:Addr} (k:h.objs.size≤a):h.get? a=none:=by
 cases e:h.get? a with
 | none=>rfl
 | some o=>exact absurd (cA e) (rr.mpr k)
noncomputable def g5 (g:GH) (N0:Nat) (oz Ig Dw o1 o2:Obj):GH:=fun b=>if b=N0+4 then some oz else if b=N0+2 then some Ig else if b=N0+3 then some Dw else if b=N0 then some o1 else if b=N0+1 then some o2 else g b
section
variable {N0:Nat} {oz Ig Dw o1 o2:Obj}
theorem bN (h:i≠j):(N0+i:Nat)≠N0+j:=fun e=>h (Nat.add_left_cancel e)
theorem QG:g5 g N0 oz Ig Dw o1 o2 (N0+4)=some oz:=bE rfl
theorem JW:g5 g N0 oz Ig Dw o1 o2 (N0+2)=some Ig:=(aW (bN (by decide))).trans (bE rfl)
theorem JX:g5 g N0 oz Ig Dw o1 o2 (N0+3)=some Dw:=(aW (bN (by decide))).trans ((aW (bN (by decide))).trans (bE rfl))
theorem QE:g5 g N0 oz Ig Dw o1 o2 N0=some o1:=(aW (bN (i:=0) (by decide))).trans ((aW (bN (i:=0) (by decide))).trans ((aW (bN (i:=0) (by decide))).trans (bE rfl)))
theorem QF:g5 g N0 oz Ig Dw o1 o2 (N0+1)=some o2:=(aW (bN (by decide))).trans ((aW (bN (by decide))).trans ((aW (bN (by decide))).trans ((aW (bN (j:=0) (by decide))).trans (bE rfl))))
theorem MF (h:x∉[N0+4,N0+2,N0+3,N0,N0+1]):g5 g N0 oz Ig Dw o1 o2 x=g x:=
 have q:=NF fun m=>h (.tail _ m)
 (aW fun e:x=N0+4=>h (e▸.head _)).trans ((aW q.1).trans ((aW q.2.1).trans ((aW q.2.2.1).trans (aW q.2.2.2))))
end
theorem Ru (X:Cx w hT A l n) {m1 m2:ME} (h1:SE aab w n A hT l m1) (h2:SE aab w n A hT l m2):Gg aab w n A hT l (.zip m1 m2):=fun {env ns FR fr γ g s σ e K E Ec Fin} N ck F H h ke k=>pj ck fun q es p hg hp ck=>
 oM N X.T (N.at_ F) (f:=.type "zip") (bL (i:=6) rfl) hg (fun O=>Hz) hp (iK (P:=fun es=>Ev (model aab w) A env Ec es (fun vs aG=>wpAny (model aab w) A (call (.type "zip") vs) (fun x s₁=>wpAny (model aab w) A (pyIter x) Fin Ec s₁) Ec aG) s) ck fun a b r ck=>by
  rw [fT.mp (ae ck)]
  refine bp (h1 N (ae (aa ck)) F H h (fun γ1 g1 rC s1 v1 V1 G1 H1 Kc h'=>bp (h2 N (aa (aa ck)) (N.go F G1) H1 h' (fun gN g2 eg s2 v2 V2 G2 H2 zu h'=>(Kc.up G2.le).iS h' fun i l1 ha h'=>zu.iS h' fun j l2 hb h'=>xR h' fun ls hi O h'=>xR h' fun ms hj O hk=> ?_) (ke.at G1))) ke)
  have S2:=G2.at_
  refine bX (H2.lst S2 ha hi) fun us m1 e1 WY O L1=> ?_
  refine bX (H2.lst S2 hb hj) fun ws m2 e2 ZY O L2=> ?_
  have z1:=cA (S2.a5 _ _ e1)
  have z2:=cA (S2.a5 _ _ e2)
  refine call_zip_2 L1 L2 fun h' hz hTI hTO Q1 J6 hsz zq=> ?_
  refine bc Q1 fun o1 x1 d1=> ?_;clear Q1
  refine bc J6 fun o2 x2 d2=> ?_;clear J6
  have fr:∀b∈[s2.heap.objs.size+4,s2.heap.objs.size+2,s2.heap.objs.size+3,s2.heap.objs.size,s2.heap.objs.size+1],s2.heap.get? b=none:=Gj (eH (b9 _ _)) (eH (b9 _ _)) (eH (b9 _ _)) (eH (bz _)) (eH (b9 _ _))
  have gn:∀b∈[s2.heap.objs.size+4,s2.heap.objs.size+2,s2.heap.objs.size+3,s2.heap.objs.size,s2.heap.objs.size+1],g2 b=none:=fun b hb=>by
   cases e:g2 b with
   | none=>rfl
   | some o=>exact nomatch (fr b hb).symm.trans (S2.a5 _ _ e)
  obtain ⟨S3,le⟩:=S2.grow (g':=g5 g2 s2.heap.objs.size (zO (s2.heap.objs.size+2) (s2.heap.objs.size+3) .none) (tJ (.ref s2.heap.objs.size) (.ref (s2.heap.objs.size+1))) (tJ .none .none) o1 o2) fr zq (fun b hb=>MF hb)
   (Gj (fun o e=>hz.trans (QG.symm.trans e)) (fun o e=>hTI.trans (JW.symm.trans e)) (fun o e=>hTO.trans (JX.symm.trans e)) (fun o e=>x1.trans (QE.symm.trans e)) (fun o e=>x2.trans (QF.symm.trans e)))
  have G3:Go hT l gN g2 s2 gN _ {s2 with heap:=h' }:=⟨S3,⟨Kp.of_keeps zq,⟨rfl,rfl,rfl⟩⟩,Ga.Le.refl _,gb.of_le le,kh.refl _ _⟩
  have ld:∀ {a:Addr},a<s2.heap.objs.size→∀i:Nat,a≠s2.heap.objs.size+i:=fun ha i e=>nF _ (cY (b9 _ i) (e▸ha))
  have D:ZipApart (s2.heap.objs.size+4) (s2.heap.objs.size+2) (s2.heap.objs.size+3) s2.heap.objs.size (s2.heap.objs.size+1) l1 l2:=
   ⟨bN (by decide),bN (by decide),bN (i:=0) (by decide),bN (by decide),bN (by decide),bN (j:=0) (by decide),bN (by decide),bN (j:=0) (by decide),bN (by decide),bN (i:=0) (by decide),
    ld z1 4,ld z1 3,ld z1 0,ld z1 1,ld z2 4,ld z2 3,ld z2 0,ld z2 1⟩
  exact wpAny_pyIter_zip (s:={s2 with heap:=h' }) hz (k _ _ _ _ _ _ _ _ _ ((G1.trans G2).trans G3) (H2.mono le) (Rz X.hh (dD hk)) ⟨D,ha,hb,fun b hb=>⟨H2.fresh (gn b hb),S2.og (gn b hb),fun q hq e=>nomatch (gn b hb).symm.trans ((aD g2 e).symm.trans (H2.fz q hq).1)⟩,QG,JW,⟨_,_,JX⟩,⟨o1,QE,d1⟩,⟨o2,QF,d2⟩⟩ (fun b hb=>(G1.trans G2).mq H2 (gn b hb)) (eO hk)))
end
def Gd (o:Obj) (m:Str→Option Value):Prop:=∃es ep,o.data= .dict es ep∧StrKeys es∧∀name,nsFind es name=m name
theorem Gd.ns {h:Heap} {C:Addr} {o:Obj} {m:Str→Option Value} (x:Gd o m) (e:h.get? C=some o):h.Ns C m:=⟨o,x.imp fun es=>cD fun ep h=>⟨e,h⟩⟩
theorem Sp {h:Heap} {C:Addr} {m:Str→Option Value} (x:h.Ns C m):∃o,h.get? C=some o∧Gd o m:=x.imp fun o h=>h.elim fun es h=>h.elim fun ep h=>⟨h.1,es,ep,h.2⟩
section
variable {aab:Program} {w:World} {n:Nat} {M:Model} {A:Around} {hT:Heap} {l:List Env} {γ aj:Ga} {g g':GH} {s s':Shared} {σ:St} {E:Value→Shared→Prop} {Ec:Value→Shared→Prop} {env cenv:Env} {ns cj:bJ} {fr:aO} {v:Value} {x:Str}
def FO (w:World) (hT:Heap) (γ:Ga) (g:GH) (cenv:Env) (m:Str→Option Value) (cj:bJ) (fr:aO):Prop:=
 ∀i x k V,cj[i]?=some (x,k)→bq fr i=some V→∃v,aq w γ v V∧((k= .local∧m x=some v)∨(k= .cell∧gv hT false γ g cenv x (some v)))
structure oB (w:World) (hT:Heap) (l:List Env) (cenv:Env) (cj:bJ) (γ:Ga) (g:GH) (fr:aO) (s:Shared):Prop where
 at_:At hT l g s.heap
 ex:∃o m,g cenv.locals=some o∧Gd o m∧FO w hT γ g cenv m cj fr
 nf:cenv.locals∉γ.fp
 nT:hT.get? cenv.locals=none
 nz:∀q∈γ.fz,q.1≠cenv.locals
theorem FO.up {m:Str→Option Value} (h:FO w hT γ g cenv m cj fr) (le:γ.Le aj) (t:gb γ g aj g'):FO w hT aj g' cenv m cj fr:=fun i x k V hi hf=>
 (h i x k V hi hf).imp fun v h=>⟨h.1.up le,h.2.imp id (And.imp id fun b=>b.up t fun q=>nomatch q)⟩
theorem FO.off {m:Str→Option Value} {I:List Addr} (h:FO w hT γ g cenv m cj fr) (hI:∀b∈I,∃o,g b=some o∧Jv o) (o:mf I g g'):FO w hT γ g' cenv m cj fr:=fun i x k V hi hf=>
 (h i x k V hi hf).imp fun v h=>⟨h.1,h.2.imp id (And.imp id fun b=>b.off hI o)⟩
theorem FO.less (h:FO w hT γ g cenv m cj fr) (k:∀i V,bq f' i=some V→bq fr i=some V):FO w hT γ g cenv m cj f':=fun i x k' V hi hf=>h i x k' V hi (k i V hf)
theorem NB {o:Obj} {m:Str→Option Value} (h:Gd o m):¬ Jv o:=by
 refine b8 h fun es ep hd O=> ?_;clear h
 rintro (⟨f,q⟩ | ⟨f,k,q⟩) <;> (rw [hd] at q;cases q)
theorem oB.nm (en:pG cenv cj) (hc:∀y,(y,NameKind.cell)∈cj→∃ca,cenv.cells.lookup y=some ca):cZ w hT l cenv cj (oB w hT l cenv cj) where
 en:=en
 at_:=fun F=>F.at_
 go:=fun {γ g fr s aj g' s'} F G=>F.ex.elim fun o h=>h.elim fun m h=>have q:=G.tr _ _ F.nf h.1;⟨G.at_,⟨o,m,q.2,h.2.1,h.2.2.up G.le G.tr⟩,q.1,F.nT,G.fk _ F.nf (h.1▸nofun) F.nz⟩
 off:=fun {γ g fr s g' s' I} F hI S B o=>F.ex.elim fun oc h=>h.elim fun m h=>⟨S,⟨oc,m,o _ _ (fun hb=>(hI _ hb).elim fun o' q=>NB h.2.1 (cH (q.1.symm.trans h.1)▸q.2)) h.1,h.2.1,h.2.2.off hI o⟩,F.nf,F.nT,F.nz⟩
 gg:=fun {γ g fr s i x} F hi=>⟨hc x (bL hi),fun V hV=>F.ex.elim fun o h=>h.elim fun m h=>(h.2.2 i x _ V hi hV).imp fun v h=>⟨h.1,h.2.elim (fun q=>nomatch q.1) And.right⟩⟩
 ld:=fun {γ g fr s i x k V} F hi hf=>F.ex.elim fun o h=>h.elim fun m h0=>(h0.2.2 i x k V hi hf).imp fun v h=>⟨h.1,fun {M A pos Q E} hq=>
  have vr:=bL hi
  h.2.elim (fun q=>t9 (Jp en.kind (q.1▸en.ko _ _ vr) (h0.2.1.ns (F.at_.a5 _ _ h0.1)) q.2 hq) (en.uO _ _ vr))
   fun q=>q.2.elim fun ca h=>h.elim fun oc h=>t9 (ON en.kind (q.1▸en.ko _ _ vr) h.1 ⟨oc,F.at_.a5 _ _ h.2.1,h.2.2.1⟩ hq) (en.uO _ _ vr)⟩
theorem BR {f:aO} {V U:Mine.V}:∀ {i j:Nat},bq (m4 f i V) j=some U→(j=i∧U=V)∨(j≠i∧bq f j=some U):=by
 induction f with
 | nil=>exact fun h=>nomatch h
 | cons a r ih=>
  intro i j h
  cases i with
  | zero=>cases j with
   | zero=>exact .inl ⟨rfl,(cH h).symm⟩
   | succ j=>exact .inr ⟨nofun,h⟩
  | succ i=>cases j with
   | zero=>exact .inr ⟨nofun,h⟩
   | succ j=>exact (ih (i:=i) (j:=j) h).imp (And.imp (aD (· +1)) id) (And.imp (fun n e=>n (lA e)) id)
theorem Ds {cj:bJ} (nd:(cj.map (·.1)).Nodup) {i j:Nat} {x y:Str} {k k':NameKind} (hi:cj[i]?=some (x,k)) (hj:cj[j]?=some (y,k')) (FU:j≠i):y≠x:=fun e=>by
 have a:(cj.map (·.1))[i]?=some x:=by rw [gp,hi];rfl
 have b:(cj.map (·.1))[j]?=some x:=by rw [gp,hj,e];rfl
 obtain ⟨l1,e1⟩:=bl.mp a
 obtain ⟨l2,e2⟩:=bl.mp b
 exact FU ((Fh nd).mp (e2.trans e1.symm))
theorem Ie (h:Gd o m):o.data≠ .cell v:=fun q=>h.elim fun es h=>h.elim fun ep h=>nomatch h.1.symm.trans q
theorem oB.put {i:Nat} {V:Mine.V} {Q:Unit→Shared→Prop} (F:oB w hT l cenv cj γ g fr s) (en:pG cenv cj) (nd:(cj.map (·.1)).Nodup) (hi:cj[i]?=some (x,.local)) (hv:aq w γ v V)
  (h:∀g' s',(∀b,b≠cenv.locals→g' b=g b)→oB w hT l cenv cj γ g' (m4 fr i V) s'→Bk l s s'→Q () s'):wpAny M A (storeName cenv x v) Q E s:=by
 refine fZ F.ex fun o m e hm sl=> ?_
 refine Jq (en.ko _ _ (bL hi)) (hm.ns (F.at_.a5 _ _ e)) (fun h' hn hs=> ?_) (by rw [en.kind];rfl)
 refine bc (Sp hn) fun o' e' Ag=> ?_
 have S':=F.at_.upd e F.nT hs e'
 refine h (g.set cenv.locals o') _ (fun b hb=>GH.au _ _ hb) ⟨S',⟨o',_,GH.set_same _ _ _,Ag,fun j y k U hj hU=>(BR hU).elim (fun q=> ?_) fun q=> ?_⟩,F.nf,F.nT,F.nz⟩ ⟨F.at_.v9 e hs,⟨rfl,rfl,rfl⟩⟩
 ·have q3:=cH (hi.symm.trans (q.1▸hj))
  exact ⟨v,q.2▸hv,.inl ⟨(aD Prod.snd q3).symm,bE (aD Prod.fst q3).symm⟩⟩
 ·exact (sl j y k U hj q.2).imp fun u h=>⟨h.1,h.2.imp (fun h=>⟨h.1,(aW (Ds nd hi hj q.1)).trans h.2⟩) fun h=>⟨h.1,h.2.imp fun ca=>cD fun oc z=>⟨z.1,(GH.au _ _ fun q=>Ie hm (cH (e.symm.trans (q▸z.2.1))▸z.2.2.1)).trans z.2.1,z.2.2⟩⟩⟩
def Ax (cj:bJ):List Nat→List Str→Prop
 | i::is,x::xs=>cj[i]?=some (x,.local)∧Ax cj is xs
 | [],[]=>True
 | _,_=>False
theorem oB.DM {Q:Shared→Prop} (en:pG cenv cj) (nd:(cj.map (·.1)).Nodup) {tg:List Nat}:∀ {xs:List Str} {vs:List Value} {Vs:List Mine.V} {g:GH} {s:Shared} {fr:aO},oB w hT l cenv cj γ g fr s→Ax cj tg xs→ao w γ vs Vs→xs.length=vs.length →
  (∀g' s',(∀b,b≠cenv.locals→g' b=g b)→oB w hT l cenv cj γ g' (dJ fr tg Vs) s'→Bk l s s'→Q s')→uW M A cenv Q E xs vs s:=by
 induction tg with
 | nil=>
  intro xs vs Vs g s fr F t hv hl h
  cases xs with
  | cons=>exact t.elim
  | nil=>
   induction hv with
   | nil=>exact h g s (fun O O=>rfl) F (Bk.refl _ _)
   | cons=>exact nomatch hl
 | cons i is ih=>
  intro xs vs Vs g s fr F t hv hl h
  cases xs with
  | nil=>exact t.elim
  | cons x xs=>
   induction hv with
   | nil=>exact nomatch hl
   | cons hv dR=>exact F.put en nd t.1 hv fun g1 s1 o1 F1 B1=>ih F1 t.2 dR (lA hl) fun g2 s2 o2 F2 B2=>h g2 s2 (fun b hb=>(o2 b hb).trans (o1 b hb)) F2 (B1.trans B2)
end
noncomputable def fK (cs:List (Str × Addr)) (names:List (Str × NameKind)) (acc:List (Str × Addr)):List (Str × Addr):=
 List.rec (motive:=fun O=>List (Str × Addr)→List (Str × Addr)) (fun acc=>acc) (fun p O ih acc=>if (p.2 == .free)=true then ih ((p.1,(cs.lookup p.1).getD 0)::acc) else ih acc) names acc
section
variable {aab:Program} {w:World} {n:Nat} {A:Around} {hT:Heap} {l:List Env} {γ aj:Ga} {g g':GH} {s s':Shared} {σ:St} {Ec:Value→Shared→Prop} {env cenv:Env} {ns cj:bJ} {fr:aO} {v:Value} {x:Str}
theorem gQ {r acc} (h:(p.2 == .free)=true):fK cs (p::r) acc=fK cs r ((p.1,(cs.lookup p.1).getD 0)::acc):=bE h
theorem mB {r acc} (h:¬ (p.2 == .free)=true):fK cs (p::r) acc=fK cs r acc:=aW h
theorem u9 (env:Env) (names:List (Str × NameKind)):∀acc:List (Str × Addr),(∀p∈names,(p.2 == .free)=true→∃ca,env.cells.lookup p.1=some ca) →
  (forIn names acc fun (p:Str × NameKind) (cs:List (Str × Addr))=>if (p.2 == .free)=true then (do let a ←cellOf env p.1;pure (ForInStep.yield ((p.1,a)::cs))) else (pure (ForInStep.yield cs):Sem _))=pure (fK env.cells names acc):=by
 induction names with
 | nil=>exact fun acc O=>by rw [List.forIn_nil];rfl
 | cons p r ih=>
  intro acc h
  have h:=cc.mp h
  rw [yH]
  by_cases hk:(p.2 == .free)=true
  ·obtain ⟨ca,xx⟩:=h.1 hk
   rw [if_pos hk,gQ hk,show cellOf env p.1=pure ca from by unfold cellOf;rw [xx],xx]
   exact ih _ h.2
  ·rw [aW hk,mB hk]
   exact ih _ h.2
theorem iy (h:∀x,(x,NameKind.free)∈sc.names→∃ca,env.cells.lookup x=some ca):closureFor sc env=pure (fK env.cells sc.names []):=by
 unfold closureFor
 have:=u9 env sc.names [] fun p hp q=>h p.1 (eq_of_beq q▸hp)
 simp only [bind_pure]
 exact this
theorem Bq {cs:List (Str × Addr)} {x:Str} {names:List (Str × NameKind)}:∀ {acc:List (Str × Addr)},(x,NameKind.free)∉names→(fK cs names acc).lookup x=acc.lookup x:=by
 induction names with
 | nil=>exact fun O=>rfl
 | cons p r ih=>
  intro acc h
  by_cases hk:(p.2 == .free)=true
  ·have:(x == p.1)=false:=beq_eq_false_iff_ne.mpr fun e=>h (by rw [e,←eq_of_beq hk];exact .head _)
   rw [gQ hk,ih fun m=>h (.tail _ m),eU,this]
  ·rw [mB hk,ih fun m=>h (.tail _ m)]
theorem gB {cs:List (Str × Addr)} {x:Str} {ca:Addr} (hc:cs.lookup x=some ca) {names:List (Str × NameKind)}:∀ {acc:List (Str × Addr)},(x,NameKind.free)∈names→(fK cs names acc).lookup x=some ca:=by
 induction names with
 | nil=>exact fun h=>absurd h cS
 | cons p r ih=>
  intro acc h
  by_cases hm:(x,NameKind.free)∈r
  ·by_cases hk:(p.2 == .free)=true
   ·rw [gQ hk];exact ih hm
   ·rw [mB hk];exact ih hm
  ·have e:=(cF.mp h).resolve_right hm
   rw [←e,gQ rfl,Bq hm,hc,Option.getD_some,eU,iN]
theorem qe (I:Nat→Shared→Prop)
  (turn:∀n s,I n s→wpAny (model aab w) A (pyNext it) (Vu (model aab w) A target env it (fun s₁=>R (.ok .next) s₁) (fun aG=>
     wpAny (model aab w) A (forIn ifs true fun c r=>if r=true then do let ok ←isTrue c env (eval c env);pure (ForInStep.yield ok) else pure (ForInStep.yield r)) (fun ok bP=>ey ok
      (wpAny (model aab w) A (eval elt env) (fun x jV=>
       wpAny (model aab w) A (call (.builtin "list.append") [acc,x]) (fun O tS=>∃m,m<n∧I m tS) (notedBy (model aab w) A env fun e s'=>R (.error e) s') jV) (notedBy (model aab w) A env fun e s'=>R (.error e) s') bP)
      (∃m,m<n∧I m bP)) (notedBy (model aab w) A env fun e s'=>R (.error e) s') aG) (notedBy (model aab w) A env fun e s'=>R (.error e) s')) (notedBy (model aab w) A env fun e s'=>R (.error e) s') s)
  (n:Nat) (h:I n s):codeAny (model aab w) A (.compLoop (.ListComp elt [⟨target,iter,ifs,0⟩] scope pos) 0 it acc env) R s:=by
 refine codeAny_loop rfl I (fun n s hI=> ?_) n h
 show wpAny _ A ((compTurn (.ListComp elt [⟨target,iter,ifs,0⟩] scope pos) 0 it acc env).onRaise (fun x=>do noteFrame x env;theTreesLotGoes x)) _ _ s
 refine wpAny_noted ?_
 rw [compTurn_list]
 refine aJ (rq (aJ (dW (turn n s hI) (fun r s₁ aA=> ?_) fun O O h'=>h')))
 cases r with
 | none=>exact bR aA
 | some v=>
  refine aJ (dW aA (fun O s₀ Ro=> ?_) fun O O h'=>h')
  refine aJ (dW Ro (fun O aG cE=> ?_) fun O O h'=>h')
  refine aJ (dW cE (fun okb bP ji=> ?_) fun O O h'=>h')
  cases okb with
  | false=>exact bR ⟨rfl,ji⟩
  | true=>exact aJ (aJ (dW ji (fun x jV MX=>aJ (dW MX (fun O tS Cb=>bR (bR ⟨rfl,Cb⟩)) fun O O h'=>h')) fun O O h'=>h'))
def uR (aab:Program) (w:World) (n:Nat) (A:Around) (hT:Heap) (l:List Env) (m:gr):Prop:=gr.casesOn (motive_2:=fun O=>Prop) m True fun e O=>ST aab w n A hT l e
theorem Od {cond:gr} {fs:List Expr} {FR:Ga→GH→aO→Shared→Prop} {Q:Bool→St→Prop} {E:PE} {Qc:Bool→Shared→Prop} (hc:uR aab w n A hT l cond) (N:cZ w hT l env ns FR) (hl:fs.length≤1) (ck:jD ns cond fs=true) (F:FR γ g fr s) (H:HP aab w hT γ σ g)
  (h:qTs (aB aab w n) cond fr Q E σ) (k:Y4 aab w hT l γ g s Q Qc) (ke:Ke aab w hT l γ g s E Ec) :
  wpAny (model aab w) A (forIn fs true fun c r=>if r=true then do let ok ←isTrue c env (eval c env);pure (ForInStep.yield ok) else pure (ForInStep.yield r)) Qc Ec s:=by
 cases cond with
 | nil=>rw [fT.mp ck];exact wpAny_tests_nil (k _ _ _ _ _ (Go.refl (N.at_ F)) H h)
 | cons m r=>cases fs with
  | nil=>exact nomatch ck
  | cons f fs=>
   have e:=uG.mp (Nat.le_zero.mp (uw hl))
   rw [e] at ck ⊢
   cases r with
   | nil=>exact wpAny_tests_one (hc N (ae ck) F H h (fun aj g' af s' b G H' h'=>by cases b <;> exact k _ _ _ _ _ G H' h') ke)
   | cons=>exact nomatch (show false=true from aa ck)
end
section
variable {aab:Program} {w:World} {n:Nat} {A:Around} {hT:Heap} {l:List Env} {γ aj:Ga} {g g':GH} {s s':Shared} {σ:St} {Ec:Value→Shared→Prop} {env cenv:Env} {ns cj:bJ} {fr:aO} {v:Value} {x:Str} {sc:Scope} {cl:List (Str × Addr)} {C:Addr}
theorem iA:(aX ns sc).map (·.1)=sc.names.map (·.1):=by
 unfold aX
 rw [dj]
 refine uu fun p O=> ?_
 show (if _ then _ else _:Str × NameKind).1=p.1
 split <;> rfl
theorem oh (en:pG env ns):(relabel sc env).names=aX ns sc:=by
 unfold relabel aX
 refine uu fun p O=> ?_
 dsimp only
 rw [en.kind,en.km]
 simp
theorem Bi (en:pG env ns) (h:gC sc=true):pG (compEnvC sc cl C env) (aX ns sc):=by
 have ok:=bM (ae h)
 have nm:(compEnvC sc cl C env).scope.names=aX ns sc:=oh en
 have nd:((aX ns sc).map (·.1)).Nodup:=by rw [iA];exact ok.nd
 refine ⟨ok.kind,en.gl,en.bu,fun x k hm=> ?_,fun x=> ?_,fun x k hm=> ?_⟩
 ·show List.lookup x (compEnvC sc cl C env).scope.names=_
  rw [nm];exact aZ nd hm
 ·show List.lookup x (compEnvC sc cl C env).scope.names=_
  rw [nm]
 ·have:x∈sc.names.map (·.1):=by rw [←iA (ns:=ns)];exact dC.mpr ⟨_,hm,rfl⟩
  exact (dC.mp this).elim fun p h=>h.2▸ok.uO p h.1
def Pu (ns:bJ) (o:Option Nat) (x:Str) (k:NameKind):Prop:=(∃j,o=some j∧k= .cell∧ns[j]?=some (x,.cell))∨(o=none∧(k= .local∨k= .globalImplicit))
theorem MD {p:Str × NameKind} {o:Option Nat} (h:Option.rec (motive:=fun O=>Bool) (p.2 == .local || p.2 == .globalImplicit) (fun j=>p.2 == .cell && Gl ns j fun y k'=>y == p.1 && k' == .cell) o=true):Pu ns o p.1 p.2:=by
 cases o with
 | none=>exact .inr ⟨rfl,iD h (fun q=>.inl (eq_of_beq q)) fun q=>.inr (eq_of_beq q)⟩
 | some j=>exact wW (aa h) fun y k' e q=>.inl ⟨j,rfl,eq_of_beq (ae h),by rw [e,eq_of_beq (ae q),eq_of_beq (aa q)]⟩
theorem jG {cj:bJ}:∀ {fv:List (Option Nat)},iz ns cj fv=true→∀ {i:Nat} {x:Str} {k:NameKind},cj[i]?=some (x,k)→∃o,fv[i]?=some o∧Pu ns o x k:=by
 induction cj with
 | nil=>intro fv _ i x k hi;exact nomatch hi
 | cons p r ih=>
  intro fv h i x k hi
  cases fv with
  | nil=>exact nomatch h
  | cons o fv=>cases i with
   | zero=>exact ⟨o,rfl,by have q:=MD (ae h);rw [show p=(x,k) from cH hi] at q;exact q⟩
   | succ i=>exact ih (aa h) (i:=i) hi
theorem mE {fv:List (Option Nat)}:∀ {i:Nat} {V:Mine.V},bq (fL fr fv) i=some V→∃j,fv[i]?=some (some j)∧bq fr j=some V:=by
 induction fv with
 | nil=>exact fun h=>nomatch h
 | cons o r ih=>
  intro i V h
  cases i with
  | zero=>cases o with
   | none=>exact nomatch h
   | some j=>exact ⟨j,rfl,h⟩
  | succ i=>cases o with
   | none=>exact ih (i:=i) h
   | some j=>exact ih (i:=i) h
theorem vo:∀ {f:aO} {a b:Nat},b≠a→bq (m4 f a W) b=bq f b:=by
 intro f
 induction f with
 | nil=>intro a b _;rfl
 | cons c r ih=>
  intro a b cW
  cases a with
  | zero=>cases b with
   | zero=>exact absurd rfl cW
   | succ b=>rfl
  | succ a=>cases b with
   | zero=>rfl
   | succ b=>exact ih (by simpa using cW)
theorem sM {i:Nat}:∀(ts:List Nat) (Us:List Mine.V) (f:aO),(∀t∈ts,i≠t)→bq (dJ f ts Us) i=bq f i:=by
 intro ts
 induction ts with
 | nil=>intro Us f _;rfl
 | cons a r ih=>
  intro Us f hn
  cases Us with
  | nil=>rfl
  | cons u us=>
   show bq (dJ (m4 f a u) r us) i=_
   rw [ih us _ fun t ht=>hn t (.tail _ ht),vo (hn a (.head _))]
theorem o9 {tg:List Nat} {Vs:List Mine.V} {f:aO} {i:Nat} {V:Mine.V} (ht:∀t∈tg,bq f t=none) (h:bq f i=some V):bq (dJ f tg Vs) i=some V:=by
 rw [sM tg Vs f fun t m e=>by rw [e,ht t m] at h;cases h];exact h
theorem qx {i:Nat} {e:Expr} {P:Expr→Prop} (h:xC cj i e=true) (k:∀x p,cj[i]?=some (x,.local)→P (.Name x p)):P e:=
 bB h fun x p h=>wW h fun y kk e h=>k x p (by rw [e,eq_of_beq (ae h),eq_of_beq (aa h)])
theorem yl {tg:List Nat} {t:Expr} (h:EG cj tg t=true):∃xs,Tg t xs∧Ax cj tg xs∧xs.length=tg.length:=by
 cases tg with
 | nil=>exact nomatch h
 | cons i r=>cases r with
  | nil=>exact qx (P:=fun t=>∃xs,Tg t xs∧Ax cj [i] xs∧xs.length=1) h fun x p e=>⟨_,.one,⟨e,trivial⟩,rfl⟩
  | cons j r=>
   rw [fT.mp (ae h)]
   exact fM (P:=fun t=>∃xs,Tg t xs∧Ax cj [i,j] xs∧xs.length=2) (aa h) fun es m q h=>iK (P:=fun es=>∃xs,Tg (.Tuple es m q) xs∧Ax cj [i,j] xs∧xs.length=2) h fun a b r h=>by
    rw [fT.mp (ae h)]
    exact qx (P:=fun a=>∃xs,Tg (.Tuple [a,b] m q) xs∧Ax cj [i,j] xs∧xs.length=2) (ae (aa h)) fun x p e1=>qx (P:=fun b=>∃xs,Tg (.Tuple [_,b] m q) xs∧Ax cj [i,j] xs∧xs.length=2) (aa (aa h)) fun y p2 e2=>⟨_,.two,⟨e1,e2,trivial⟩,rfl⟩
def Y1 (hT:Heap) (γ:Ga) (g:GH) (C:Addr):Prop:=(∃o m,g C=some o∧Gd o m∧∀d,o≠instObj 82 d)∧C∉γ.fp∧hT.get? C=none∧∀q∈γ.fz,q.1≠C
end
theorem xB (h:Gd o m) (d:Addr):o≠instObj 82 d:=fun e=>h.elim fun es h=>h.elim fun ep h=>nomatch h.1.symm.trans (aD Obj.data e)
structure CC where
 γ:Ga
 g:GH
 s:Shared
 cenv:Env
 cj:bJ
 f0:aO
 D:Addr
 IS:Nat→Ga→GH→Prop
 items:List (List V)
 G:St→Prop
 B:List V→(Option V→St→Prop)→St→Prop
 K:List V→St→Prop
section
variable {aab:Program} {w:World} {n:Nat} {A:Around} {hT:Heap} {l:List Env} {γ aj:Ga} {g g':GH} {s s':Shared} {σ af:St} {Ec:Value→Shared→Prop} {env cenv:Env} {ns cj:bJ} {fr:aO} {v:Value} {x:Str} {sc:Scope} {cl:List (Str × Addr)} {C D:Addr} {c:CC}
theorem oB.less (F:oB w hT l cenv cj γ g fr s) (k:∀i V,bq f' i=some V→bq fr i=some V):oB w hT l cenv cj γ g f' s:=
 ⟨F.at_,F.ex.imp fun o=>cD fun m h=>⟨h.1,h.2.1,h.2.2.less k⟩,F.nf,F.nT,F.nz⟩
structure k9 (aab:Program) (w:World) (hT:Heap) (l:List Env) (c:CC) (aj:Ga) (g':GH) (af:St) (k:Nat) (acc:List V) (ys:List Value) (nn:Nat) (s':Shared):Prop where
 go:Go hT l c.γ c.g c.s aj g' s'
 hp:HP aab w hT aj af g'
 is:c.IS k aj g'
 d:g' c.D=some (listOf ys.toArray nn)
 vs:ao w aj ys acc
 al:acc.length≤k
 nf:c.D∉aj.fp
 nz:∀q∈aj.fz,q.1≠c.D
structure Vo (aab:Program) (w:World) (hT:Heap) (l:List Env) (c:CC) (aj:Ga) (g':GH) (af:St) (k:Nat) (acc:List V) (ys:List Value) (nn:Nat) (s':Shared):Prop extends k9 aab w hT l c aj g' af k acc ys nn s' where
 hk:k≤c.items.length
 fr:oB w hT l c.cenv c.cj aj g' c.f0 s'
 cl:mF c.G c.B (c.items.drop k) acc c.K af
inductive CI (aab:Program) (w:World) (hT:Heap) (l:List Env) (c:CC) (s':Shared):Nat→Prop
 | mk {aj g' af k acc ys nn}:Vo aab w hT l c aj g' af k acc ys nn s'→CI aab w hT l c s' (c.items.length - k)
section
variable {len k nn:Nat} {I:List Addr} {it:Value} {acc:List V} {ys:List Value}
theorem k9.up {LK g3 k6 s3} (IT:FK aab w A hT l len c.items c.G I it c.IS) (J:k9 aab w hT l c aj g' af k acc ys nn s') (G3:Go hT l aj g' s' LK g3 s3) (H3:HP aab w hT LK k6 g3):k9 aab w hT l c LK g3 k6 k acc ys nn s3:=
 have q:=G3.tr _ _ J.nf J.d
 ⟨J.go.trans G3,H3,IT.keep J.is G3.le (fun b hb o nb e=>G3.tr b o nb e) fun b hb hz hn nf=>G3.fk b nf hn hz,q.2,J.vs.up G3.le,J.al,q.1,G3.fk _ J.nf (J.d▸nofun) J.nz⟩
theorem k9.off {g1 s1} (J:k9 aab w hT l c aj g' af k acc ys nn s') (bI:∀b∈I,c.g b=none) (S1:At hT l g1 s1.heap) (B1:Bk l s' s1) (O1:mf I g' g1):Go hT l c.γ c.g c.s aj g1 s1:=
 ⟨S1,J.go.bk.trans B1,J.go.le,fun b o nb e=>have q:=J.go.tr b o nb e;⟨q.1,O1 b o (fun hb=>nomatch (bI b hb).symm.trans e) q.2⟩,J.go.fk⟩
theorem k9.next (J:k9 aab w hT l c aj g' af (k+1) acc ys nn s') (cu:k<c.items.length) (F:oB w hT l c.cenv c.cj aj g' f' s') (hf:∀i V,bq c.f0 i=some V→bq f' i=some V) (cn:mF c.G c.B (c.items.drop (k+1)) acc c.K af) :
  ∃m,m<c.items.length - k∧CI aab w hT l c s' m:=⟨_,Fw cu (iO k),.mk ⟨J,cu,F.less hf,cn⟩⟩
theorem k9.app {f':aO} {V:Mine.V} (IT:FK aab w A hT l len c.items c.G I it c.IS) (J:k9 aab w hT l c aj g' af (k+1) acc ys nn s') (al:acc.length≤k) (cu:k<c.items.length) (hsz:c.items.length<1000000) (bD:c.g c.D=none) (DI:c.D∉I) (hD:hT.get? c.D=none) (N:cZ w hT l c.cenv c.cj (oB w hT l c.cenv c.cj)) (F:oB w hT l c.cenv c.cj aj g' f' s') (hf:∀i V,bq c.f0 i=some V→bq f' i=some V)
  (hv:aq w aj v V) (cn:mF c.G c.B (c.items.drop (k+1)) (acc++[V]) c.K af):wpAny (model aab w) A (call (.builtin "list.append") [.ref c.D,v]) (fun O tS=>∃m,m<c.items.length - k∧CI aab w hT l c tS m) Ec s':=by
 refine append_at (J.go.at_.a5 _ _ J.d) (fun h' hs ho=> ?_) (by have:=J.vs.length;rw [iR,gM];omega)
 have oU:h'.get? c.D=some (listOf (ys++[v]).toArray (nn+1)):=by simpa using ho
 have S5:=J.go.at_.upd J.d hD hs oU
 have B5:Bk l s' { s' with heap:=h' }:=⟨J.go.at_.v9 J.d hs,⟨rfl,rfl,rfl⟩⟩
 have one:∀ {P:Addr→Prop},P c.D→∀b∈[c.D],P b:=fun h b hb=>dX.mp hb▸h
 have off:∀b,b∉[c.D]→(g'.set c.D (listOf (ys++[v]).toArray (nn+1))) b=g' b:=fun b hb=>GH.au _ _ fun q=>hb (q▸.head _)
 exact k9.next (g':=g'.set c.D (listOf (ys++[v]).toArray (nn+1))) ⟨J.off (I:=[c.D]) (one bD) S5 B5 fun b o hb e=>(off b hb).trans e,J.hp.apart (one ⟨J.nf,J.nz,_,J.d,jj rfl⟩) off,IT.keep J.is (Ga.Le.refl _) (fun b hb o nb e=>⟨nb,(GH.au _ _ fun q:b=c.D=>DI (q▸hb)).trans e⟩) (fun b hb h O O=>h),
  GH.set_same _ _ _,J.vs.snoc hv,by rw [bK];exact ew al,J.nf,J.nz⟩ cu (N.off F (one ⟨_,J.d,.inr ⟨_,_,rfl⟩⟩) S5 B5 fun b o hb e=>(off b hb).trans e) hf cn
end
theorem zd {elt:ME} {cond:gr} {tg:List Nat} {t i:Expr} {el:Expr} {fs:List Expr} {pos:Pos} {I:List Addr} {it:Value} {Q:PV} {len:Nat} {xs:List Str} {R:Result→Shared→Prop}
  (IT:FK aab w A hT l len c.items c.G I it c.IS) (QY:SE aab w n A hT l elt) (hc:uR aab w n A hT l cond) (en:pG c.cenv c.cj) (nd:(c.cj.map (·.1)).Nodup) (hcc:∀y,(y,NameKind.cell)∈c.cj→∃ca,c.cenv.cells.lookup y=some ca)
  (VP:g8 c.cj elt el=true) (VO:jD c.cj cond fs=true) (hfl:fs.length≤1) (Rk:Tg t xs) (Po:Ax c.cj tg xs) (hlen:xs.length=len) (un:∀t∈tg,bq c.f0 t=none)
  (bI:∀b∈I,c.g b=none) (bD:c.g c.D=none) (bC:c.g c.cenv.locals=none) (DC:c.D≠c.cenv.locals) (DI:c.D∉I) (CI':c.cenv.locals∉I) (hD:hT.get? c.D=none∧(c.D == sysModules)=false) (hsz:c.items.length<1000000)
  (hB:c.B=fun x K eg=>qTs (aB aab w n) cond (dJ c.f0 tg x) (fun t k6=>ey t (qE (aB aab w n) elt (dJ c.f0 tg x) (fun v Vl=>K (some v) Vl) (fun O=>False) k6) (K Option.none k6)) (fun O=>False) eg) (hK:c.K=fun l Vm=>nw Vm (.lst l) Q)
  (fin:∀aj g' af s' j,Go hT l c.γ c.g c.s aj g' s'→HP aab w hT aj af g'→aq w aj (.ref c.D) (.ob j)→Q (.ob j) af→Y1 hT aj g' c.cenv.locals→R (.ok .next) s')
  {m:Nat} (h0:CI aab w hT l c s' m) :
  codeAny (model aab w) A (.compLoop (.ListComp el [⟨t,i,fs,0⟩] sc pos) 0 it (.ref c.D) c.cenv) R s':=by
 have N:=oB.nm (w:=w) (hT:=hT) (l:=l) en hcc
 have Z5:∀ {γ g s} {Ec:Value→Shared→Prop},Ke aab w hT l γ g s (fun O=>False) Ec:=fun O O O O O O O O h=>h.elim
 refine qe (fun m s'=>CI aab w hT l c s' m) (fun m s' hI=> ?_) m h0
 induction hI with
 | @mk aj g' af k acc ys nn J=>
 have Zq:∀ {g1 s1},At hT l g1 s1.heap→Bk l s' s1→mf I g' g1→oB w hT l c.cenv c.cj aj g1 c.f0 s1:=fun S1 B1 O1=>N.off J.fr (fun b hb=>(IT.IB J.is b hb).2) S1 B1 O1
 have hG:c.G af:=by
  have:=J.cl
  cases hd:c.items.drop k with
  | nil=>rw [hd] at this;exact this.1
  | cons=>rw [hd] at this;exact this.1
 refine IT.next Rk hlen J.go.at_ J.hp hG J.is J.hk (fun Vs vs g1 s1 hit S1 B1 H1 O1 IS1 dR Rl=> ?_) (fun g1 s1 hk S1 B1 H1 O1=> ?_)
 ·have cu:k<c.items.length:=(bl.mp hit).1
  have jg:=J.cl
  rw [wH cu,(bl.mp hit).2] at jg
  have jg:=jg.2
  have F1:=Zq S1 B1 O1
  refine F1.DM en nd Po dR (hlen.trans Rl.symm) fun g2 s2 o2 F2 B2=> ?_
  refine fZ F1.ex fun oC mC eC hC O=> ?_
  have one:∀ {P:Addr→Prop},P c.cenv.locals→∀b∈[c.cenv.locals],P b:=fun h b hb=>dX.mp hb▸h
  have G1:=J.off bI S1 B1 O1
  have J2:k9 aab w hT l c aj g2 af (k+1) acc ys nn s2:=⟨⟨F2.at_,G1.bk.trans B2,G1.le,fun b o nb e=>have q:=G1.tr b o nb e;⟨q.1,(o2 b fun z=>nomatch bC.symm.trans (show c.g c.cenv.locals=some o from z▸e)).trans q.2⟩,G1.fk⟩,
   H1.apart (one ⟨F1.nf,F1.nz,oC,eC,xB hC⟩) fun b hb=>o2 b fun q=>hb (q▸.head _),IT.keep IS1 (Ga.Le.refl _) (fun b hb o nb e=>⟨nb,(o2 b fun q=>CI' (q▸hb)).trans e⟩) (fun b hb h O O=>h),(o2 _ DC).trans (O1 _ _ DI J.d),J.vs,fS J.al,J.nf,J.nz⟩
  rw [hB] at jg
  refine Od hc N hfl VO F2 J2.hp jg (fun LK g3 k6 s3 b G3 H3 h3=> ?_) Z5
  have J3:=J2.up IT G3 H3
  have F3:=N.go F2 G3
  refine mr h3 (fun h3=> ?_) fun h3=>J3.next cu F3 (fun i V=>o9 un) (hB▸h3)
  exact QY N VP F3 H3 h3 (fun γ4 g4 Vl s4 v V G4 H4 hv h4=>(J3.up IT G4 H4).app IT J.al cu hsz bD DI hD.1 N (N.go F3 G4) (fun i V=>o9 un) hv (hB▸h4)) Z5
 ·have jg:=J.cl
  rw [Fq (bT hk.symm),hK] at jg
  have G1:=J.off bI S1 B1 O1
  have F1:=Zq S1 B1 O1
  have Hf:=H1.nO (ob:=.lst acc) (O1 _ _ DI J.d) J.nf J.nz hD (.lst (J.vs.up (aj.bf c.D)))
  refine fZ F1.ex fun oC mC eC hC O=> ?_
  refine fin (aj.cw c.D) g1 _ s1 af.objs.length ⟨G1.at_,G1.bk,G1.le.trans (aj.bf _),fun b o nb e=>have q:=G1.tr b o nb e;⟨fun z=>(Ga.eG.mp z).elim q.1 fun z=>(nomatch bD.symm.trans (show c.g c.D=some o from z▸e)),q.2⟩,G1.fk⟩ Hf (.ob ?_) (jS jg.2 _ _ f6.mk') ⟨⟨oC,mC,eC,hC,xB hC⟩,fun z=>(Ga.eG.mp z).elim F1.nf fun z=>DC z.symm,F1.nT,F1.nz⟩
  show (aj.o++[c.D])[af.objs.length]?=_
  rw [←J.hp.len,nD]
end
section
variable {aab:Program} {w:World} {n:Nat} {A:Around} {hT:Heap} {l:List Env} {γ aj:Ga} {g g':GH} {s s':Shared} {σ:St} {Ec:Value→Shared→Prop} {env cenv:Env} {ns cj:bJ} {fr:aO} {v:Value} {x:Str} {sc:Scope} {cl:List (Str × Addr)} {C D:Addr}
def Pp (aab:Program) (w:World) (A:Around) (env:Env) (sc:Scope) (cl:List (Str × Addr)) (el t i:Expr) (fs:List Expr) (pos:Pos) (RR:Value→Addr→Result→Shared→Prop) (Ec:Value→Shared→Prop) (it:Value) (aG:Shared):Prop:=
 wpAny (model aab w) A (newList []) (fun acc bP=>wpAny (model aab w) A (newFunctionEnv sc env.globals cl [] env.qual none .none (some env)) (fun cenv jV=>
  codeAny (model aab w) A (.compStart (.ListComp el [⟨t,i,fs,0⟩] sc pos) 0 it acc {cenv with scope:=relabel sc env}) (RR acc cenv.locals) jV) Ec bP) Ec aG
theorem all2 {P:Addr→Prop} {a b:Addr} (h1:P a) (h2:P b):∀x∈[a,b],P x:=cc.mpr ⟨h1,cc.mpr ⟨h2,fun O h=>absurd h cS⟩⟩
theorem zh (GN:iz ns (aX ns sc) fv=true) (hy:(y,NameKind.free)∈sc.names):∃j:Nat,ns[j]?=some (y,NameKind.cell):=by
 have hm:∃kk,(y,kk)∈aX ns sc∧kk≠ .local∧kk≠ .globalImplicit:=by
  have h:=ru (f:=fun p:Str × NameKind=>if (p.2 == .free && ns.lookup p.1 == some .cell) then (p.1,NameKind.cell) else p) hy
  by_cases q:((y,NameKind.free).2 == .free && ns.lookup (y,NameKind.free).1 == some .cell)=true
  ·rw [bE q] at h;exact ⟨_,h,by decide,by decide⟩
  ·rw [aW q] at h;exact ⟨_,h,by decide,by decide⟩
 refine iL hm fun kk hm n1 n2=> ?_
 obtain ⟨k,hk⟩:=uH.mp hm
 obtain ⟨o, -,h | h⟩:=jG GN hk
 ·exact h.imp fun j h=>h.2.2
 ·exact (h.2.elim n1 n2).elim
theorem jC (Af:gC sc=true) (hy:(y,NameKind.cell)∈aX ns sc):(y,NameKind.free)∈sc.names:=by
 refine bc (dC.mp hy) fun p hp e=> ?_
 by_cases q:(p.2 == .free && ns.lookup p.1 == some .cell)=true
 ·rw [bE q] at e
  have hp':(p.1,p.2)∈sc.names:=hp
  rw [eq_of_beq (ae q),show p.1=y from aD Prod.fst e] at hp';exact hp'
 ·rw [aW q] at e
  have:=iQ.mp (aa Af) p hp
  rw [e] at this
  exact nomatch this
theorem ph (Af:gC sc=true) (hp:p∈sc.names):p.2≠ .cell:=fun e=>by
 have:=iQ.mp (aa Af) p hp
 rw [e] at this
 exact nomatch this
theorem EH {fv:List (Option Nat)} (GN:iz ns cj fv=true) {tg:List Nat}:∀ {xs:List Str},Ax cj tg xs→∀t∈tg,bq (fL fr fv) t=none:=by
 induction tg with
 | nil=>exact fun O t ht=>absurd ht cS
 | cons a r ih=>
  intro xs h
  cases xs with
  | nil=>exact h.elim
  | cons x xs=>exact cc.mpr ⟨by
    cases e:bq (fL fr fv) a with
    | none=>rfl
    | some V=>
     refine bc (mE e) fun j hj O=> ?_
     obtain ⟨o,ho,z | z⟩:=jG GN h.1
     ·exact z.elim fun O z=>nomatch z.2.1
     ·exact (nomatch (z.1▸ho.symm.trans hj:some none=some (some j))),ih h.2⟩
theorem oB.open (N:cZ w hT l env ns FR) (F:FR γ g fr s) (Af:gC sc=true) (GN:iz ns (aX ns sc) fv=true) (le:GH.le g g') (S:At hT l g' s'.heap) (q2:g' C=some oC) (WR:Gd oC m) (nf:C∉γ.fp) (nT:hT.get? C=none) (nz:∀q∈γ.fz,q.1≠C) :
  oB w hT l (compEnvC sc (fK env.cells sc.names []) C env) (aX ns sc) γ g' (fL fr fv) s':=
 ⟨S,⟨oC,m,q2,WR,fun k y kk V zq hV=>by
  refine bc (mE hV) fun j hj hjV=> ?_
  obtain ⟨o,ho,z | z⟩:=jG GN zq
  ·refine iL z fun j' e1 e2 vu=> ?_;clear z
   obtain rfl:j'=j:=cH (cH ((e1▸ho).symm.trans hj))
   refine z0 ((N.gg F vu).2 V hjV) fun v hv ca o a1 a2 a3 a4 O=> ?_
   exact ⟨v,hv,.inr ⟨e2,ca,o,gB a1 (jC Af (e2▸bL zq)),le _ _ a2,a3,a4,fun q=>nomatch q⟩⟩
  ·exact nomatch (z.1▸ho.symm.trans hj:some none=some (some j))⟩,nf,nT,nz⟩
theorem oO {elt:ME} {cond:gr} {mi:MI} {tg:List Nat} {fv:List (Option Nat)} {t i el:Expr} {fs:List Expr} {pos:Pos} {FR:Ga→GH→aO→Shared→Prop} {Q:PV} {E:PE} {RR:Value→Addr→Result→Shared→Prop}
  (X:Cx w hT A l n) (WK:Gg aab w n A hT l mi) (QY:SE aab w n A hT l elt) (hc:uR aab w n A hT l cond) (N:cZ w hT l env ns FR) (F:FR γ g fr s) (H:HP aab w hT γ σ g)
  (Af:gC sc=true) (GN:iz ns (aX ns sc) fv=true) (ckt:EG (aX ns sc) tg t=true) (ckl:fs.length≤1) (ckn:tg.length=mR mi) (cki:UJ ns mi i=true) (VP:g8 (aX ns sc) elt el=true) (VO:jD (aX ns sc) cond fs=true)
  (h:qE (aB aab w n) (.comp fv tg elt mi cond) fr Q E σ) (ke:Ke aab w hT l γ g s E Ec)
  (fin:∀aj g' af s' D C j,Go hT l γ g s aj g' s'→HP aab w hT aj af g'→aq w aj (.ref D) (.ob j)→Q (.ob j) af→Y1 hT aj g' C→g C=none→RR (.ref D) C (.ok .next) s') :
  closureFor sc env=pure (fK env.cells sc.names []) ∧
  wpAny (model aab w) A (eval i env) (fun x s₁=>wpAny (model aab w) A (pyIter x) (Pp aab w A env sc (fK env.cells sc.names []) el t i fs pos RR Ec) Ec s₁) Ec s:=by
 have ok:=bM (ae Af)
 have nd:((aX ns sc).map (·.1)).Nodup:=by rw [iA];exact ok.nd
 have JE:∀y,(y,NameKind.free)∈sc.names→∃ca,env.cells.lookup y=some ca:=fun y hy=>(zh GN hy).elim fun j hj=>(N.gg F hj).1
 refine ⟨iy JE,?_⟩
 refine iL (yl ckt) fun xs Rk Po Pd=> ?_
 refine WK N cki F H h ke fun γ1 g1 rC s1 items G I it IS G1 H1 IT UQ bI hk=> ?_
 refine nB (OQ (fun y hy q=>ph Af hy q) (fun y hy=>absurd hy cS) (fun aA d8 c8=> ?_) ok.kind)
 dsimp only at d8 c8 ⊢
 have S1:=G1.at_
 refine bc (Sp d8) fun oC eC WR=> ?_
 generalize hH2:s1.heap.push { cls:=.type "list",dict:=none,data:=.seq ([]:List Value).toArray }=H2 at d8 c8 eC ⊢
 generalize hC:H2.objs.size=C at d8 c8 eC ⊢
 have hC':C=s1.heap.objs.size+1:=by rw [←hC,←hH2,wD]
 have DC:s1.heap.objs.size≠C:=hC'▸eR (iO _)
 have O4:∀b∈[s1.heap.objs.size,C],s1.heap.get? b=none:=all2 (eH (bz _)) (eH (hC'▸hX _))
 have gn:∀b∈[s1.heap.objs.size,C],g1 b=none:=fun b hb=>by
  cases e:g1 b with
  | none=>rfl
  | some o=>exact nomatch (O4 b hb).symm.trans (S1.a5 _ _ e)
 have gD:aA.get? s1.heap.objs.size=some (listOf ([]:List Value).toArray 0):=c8.extBut _ _ DC (bG _ (hH2▸nH _ rfl))
 have keep:∀b o,s1.heap.get? b=some o→aA.get? b=some o:=fun b o e=>c8.extBut b o (fun q=>nomatch (O4 C (.tail _ (.head _))).symm.trans (show s1.heap.get? C=some o from q▸e)) (bG _ (hH2▸bG _ e))
 have q1:((g1.set C oC).set s1.heap.objs.size (listOf ([]:List Value).toArray 0)) s1.heap.objs.size=some (listOf ([]:List Value).toArray 0):=GH.set_same _ _ _
 have q2:((g1.set C oC).set s1.heap.objs.size (listOf ([]:List Value).toArray 0)) C=some oC:=(GH.au _ _ DC.symm).trans (GH.set_same _ _ _)
 obtain ⟨S2,le⟩:=S1.grow (g':=(g1.set C oC).set s1.heap.objs.size (listOf ([]:List Value).toArray 0)) (I:=[s1.heap.objs.size,C]) O4 keep (fun b hb=>(GH.au _ _ fun e:b=_=>hb (e▸.head _)).trans (GH.au _ _ fun e:b=C=>hb (e▸.tail _ (.head _)))) (all2 (fun o e=>gD.trans (q1.symm.trans e)) fun o e=>eC.trans (q2.symm.trans e))
 have G2:Go hT l γ1 g1 s1 γ1 _ {s1 with heap:=aA,toks:=s1.toks+([]:List (Str × Value)).length}:=⟨S2,⟨Kp.of_keeps keep,⟨rfl,rfl,rfl⟩⟩,Ga.Le.refl _,gb.of_le le,kh.refl _ _⟩
 have en:=Bi (sc:=sc) (cl:=fK env.cells sc.names []) (C:=C) N.en Af
 have cz:∀b∈[s1.heap.objs.size,C],∀q∈γ1.fz,q.1≠b:=fun b hb q hq e=>nomatch (gn b hb).symm.trans ((aD g1 e).symm.trans (H1.fz q hq).1)
 have nI:∀b∈[s1.heap.objs.size,C],b∉I:=fun b hb m=>(IT.IB UQ b m).2.elim fun o e=>nomatch (gn b hb).symm.trans e.1
 have Pw:=IT.keep UQ (Ga.Le.refl _) (fun b hb o nb e=>⟨nb,le _ _ e⟩) (fun b hb h O O=>h)
 have mD:s1.heap.objs.size∈[s1.heap.objs.size,C]:=.head _
 have mC:C∈[s1.heap.objs.size,C]:=.tail _ (.head _)
 have F2:=oB.open (s':={s1 with heap:=aA,toks:=s1.toks+([]:List (Str × Value)).length}) N (N.go F G1) Af GN le S2 q2 WR (H1.fresh (gn C mC)) (S1.og (gn C mC)) (cz C mC)
 have loop:=zd (aab:=aab) (A:=A) (n:=n) (sc:=sc) (i:=i) (pos:=pos) (R:=RR (.ref s1.heap.objs.size) C) (s':={s1 with heap:=aA,toks:=s1.toks+([]:List (Str × Value)).length}) (Q:=Q)
  (c:=⟨γ,g,s,compEnvC sc (fK env.cells sc.names []) C env,aX ns sc,fL fr fv,s1.heap.objs.size,IS,items,G,_,_⟩)
  IT QY hc en nd (fun y hy=>(JE y (jC Af hy)).imp fun ca e=>gB e (jC Af hy)) VP VO ckl Rk Po (Pd.trans ckn) (EH GN Po) bI (G1.mq H1 (gn _ mD)) (G1.mq H1 (gn C mC)) DC (nI _ mD) (nI C mC) ⟨S1.og (gn _ mD),q8 X.T S1 (fun b o e=>cA e)⟩ (dD hk) rfl rfl
  (fun aj g' af s' j Gx Hx hv hq hC=>fin aj g' af s' _ C j Gx Hx hv hq hC (G1.mq H1 (gn C mC)))
  (.mk (k:=0) ⟨⟨G1.trans G2,H1.mono le,Pw,q1,.nil,bz _,H1.fresh (gn _ mD),cz _ mD⟩,et _,F2,eO hk⟩)
 exact codeAny_compStart_list loop (IT.self (s:={s1 with heap:=aA,toks:=s1.toks+([]:List (Str × Value)).length}) Pw S2 loop)
theorem SW {elt:ME} {cond:gr} {mi:MI} {tg:List Nat} {fv:List (Option Nat)} (X:Cx w hT A l n) (WK:Gg aab w n A hT l mi) (QY:SE aab w n A hT l elt) (hc:uR aab w n A hT l cond):SE aab w n A hT l (.comp fv tg elt mi cond):=fun {env ns FR fr γ g s σ e Q E Qc Ec} N ck F H h k ke=>mP ck fun el t i f sc p ck=>by
 have c1:=ae ck
 have c2:=ae (aa ck)
 have c3:=ae (aa (aa ck))
 have ck:=aa (aa (aa ck))
 have c4:=ae ck
 have c5:=f3 (ae (aa ck))
 have c6:=f3 (ae (aa (aa ck)))
 have ck:=aa (aa (aa ck))
 have ok:=bM (ae c1)
 have hh:=oO (pos:=p) (RR:=fun acc C=>compPost (model aab w) A Ec none Qc acc C) X WK QY hc N F H c1 c2 c3 c5 c6 (ae ck) (ae (aa ck)) (aa (aa ck)) h ke fun aj g' af s' D C j G' H' hv hq hC b0=>by
  obtain ⟨⟨o,m,e,ho,hi⟩,nf,nT,nz⟩:=hC
  refine ⟨m,ho.ns (G'.at_.a5 _ _ e),fun h' hs=> ?_⟩
  obtain ⟨S2,K2⟩:=G'.at_.out e nT hs.extBut
  exact k aj (g'.hide C) af { s' with heap:=h' } _ _ ⟨S2,G'.bk.trans ⟨K2,⟨rfl,rfl,rfl⟩⟩,G'.le,fun b o nb eb=>have q:=G'.tr b o nb eb;⟨q.1,Off.hide _ _ b o (fun z=>nomatch b0.symm.trans (show g C=some o from z▸eb)) q.2⟩,G'.fk⟩
   (H'.apart (I:=[C]) (fun b hb=>dX.mp hb▸⟨nf,nz,o,e,hi⟩) fun b hb=>aW fun q:b=C=>hb (q▸.head _)) hv hq
 rw [eval_ListComp]
 exact OS (use:=none) rfl (fun x=>jQ c4 x) hh.1 ok.kind (fun x hx hl=>aZ ok.nd (by rw [←hl];exact hx)) hh.2
end
section
variable {aab:Program} {w:World} {n:Nat} {A:Around} {hT:Heap} {l:List Env} {γ aj:Ga} {g g':GH} {s s':Shared} {σ:St} {Ec:Value→Shared→Prop} {env cenv:Env} {ns cj:bJ} {fr:aO} {v:Value} {x:Str} {sc:Scope} {cl:List (Str × Addr)} {C D:Addr}
theorem LV (C:CS hT P g p c) (h1:VR p v a) (h2:VR p v (.cell y)):a= .cell y:=by
 refine bc (VR.pM h2) fun q e hp=> ?_
 induction h1 with
 | nil=>exact absurd (Value.ref.inj e).symm (C.new _ (bL hp)).2.2
 | num=>exact nomatch e
 | @cell j r hj=>
  have oQ:(p.map (·.1))[y]?=some q.1:=by rw [gp,hp];rfl
  have hj':(p.map (·.1))[j]?=some q.1:=by rw [gp,hj,←Value.ref.inj e];rfl
  exact aD AV.cell (jP C.nd hj' oQ)
noncomputable def mQ (u v:Value):Bool:=decide (v=u)
theorem oX (C:CS hT P g p c) (hu:VR p u (.cell y)) (h1:VR p v a):mQ u v=decide (a= .cell y):=
 decide_eq_decide.mpr ⟨fun e=>LV C h1 (e▸hu),fun e=>(VR.pM hu).elim fun q h=>(VR.pM (e▸h1)).elim fun r h'=>by rw [h.1,h'.1,cH (h.2.symm.trans h'.2)]⟩
theorem EI {P:Params} {p:Pl} {c:Cells} {y:Nat} {u:Value} (C:CS hT P g p c) (hu:VR p u (.cell y)) (hp:p=γ.p) {l:List (Int × Mine.V)}:∀ {vs:List Value},ao w γ vs (l.map (·.2))→(∀q∈l,∃x,q.2= .av x)→(vs.filter (mQ u)).length=(l.filter fun q=>vy (.cell y) q.2).length:=by
 induction l with
 | nil=>exact fun hv O=>hv.nil_inv▸rfl
 | cons q r ih=>
  intro vs hv hl
  refine fZ hv.cons_inv fun v cR e hv dR=> ?_
  have hl:=cc.mp hl
  obtain ⟨x,hx⟩:=hl.1
  have e1:mQ u v=vy (.cell y) q.2:=by
   have hv:aq w γ v q.2:=hv
   rw [hx] at hv ⊢
   exact oX C hu (hp▸hv)
  rw [e,oA,oA,e1]
  cases vy (.cell y) q.2 with
  | true=>exact aD (· +1) (ih dR hl.2)
  | false=>exact ih dR hl.2
theorem Sv (h:Paired (fun O y=>∃t,y=Value.int 1 t) vs ys):ao w γ ys (List.replicate vs.length (.num 1)):=by
 induction h with
 | nil=>exact .nil
 | cons hd _ ih=>exact hd.elim fun t e=>e▸.cons Num.rel ih
theorem ones {P:Params} {p:Pl} {c:Cells} {y:Nat} {u:Value} (C:CS hT P g p c) (hu:VR p u (.cell y)) {vs:List Value} {l:List (Int × Mine.V)} {ys:List Value} (hp:p=γ.p) (hv:ao w γ vs (l.map (·.2))) (hl:∀q∈l,∃x,q.2= .av x) (h:Paired (fun O y=>∃t,y=Value.int 1 t) (vs.filter (mQ u)) ys) :
  ao w γ ys ((l.filter fun q=>vy (.cell y) q.2).map fun O=>.num 1):=by
 have:=Sv (w:=w) (γ:=γ) h
 rw [EI C hu hp hv hl] at this
 rw [List.map_const'];exact this
theorem WZ (h:∀V,bq fr j=some V→∃v,aq w γ v V∧gv hT false γ g env z (some v)):∃v,∀V,bq fr j=some V→aq w γ v V∧gv hT false γ g env z (some v):=by
 cases e:bq fr j with
 | none=>exact ⟨.none,fun V q=>nomatch q⟩
 | some V=>exact (h V e).imp fun v h U q=>cH q▸h
theorem Qm {ls:List (Int × Mine.V)} {kvs:List (Int × Value)} {i:Nat} {v:Value} {kk:Int} (D:DR w γ kvs ls) (hk:kvs[i]?=some (kk,v)) (US:∀p∈ls,∃x,p.2= .av x):∃a,VR γ.p v a:=by
 have hL:=(bl.mp hk).1
 rw [D.len] at hL
 refine bc (D.vals.get (i:=i) (a:=ls[i].2) (by rw [gp,gm hL];rfl)) fun u h1 h2=> ?_
 rw [gp,hk] at h1
 have e:v=u:=cH h1
 exact (US _ (yK hL)).elim fun x hx=>⟨x,show aq w γ v (.av x) from e▸hx▸h2⟩
theorem Uq {kvs:List (Int × Value)} {vs:List Value} (hl:vs.length=kvs.length) (hP:∀(j:Nat) v,vs[j]?=some v→∃kk,kvs[j]?=some (kk,v)):vs=kvs.map (·.2):=List.ext_getElem? fun i=>by
 rw [gp]
 cases q:vs[i]? with
 | none=>rw [Fv (hl▸List.getElem?_eq_none_iff.mp q)];rfl
 | some u=>exact (hP i u q).elim fun kk e=>e▸rfl
theorem SX (X:Cx w hT A l n) {j:Nat} {m:ME} (hm:SE aab w n A hT l m):SE aab w n A hT l (.QN j m):=fun {env ns FR fr γ g s σ e Q E Qc Ec} N ck F H h ke0 ke=>Cm ck fun o x z sc k p0 p1 p2 p3 p4 p5 p6 p7 MV hn ck=>(N.gg F (f3 (ae (aa (aa (aa (aa ck))))))).1.elim fun cz QR=>(WZ (N.gg F (f3 (ae (aa (aa (aa (aa ck))))))).2).elim fun v0 ZU=>by
  have c1:=ae ck
  have c2:=eq_of_beq (ae (aa ck))
  have ck:=aa (aa ck)
  have c3:=eq_of_beq (ae ck)
  have c3':=iQ.mp (ae (aa ck))
  have c4:=f3 (ae (aa (aa ck)))
  have c5:=aa (aa (aa ck))
  have ok:=bM (ae c1)
  have free:∀y,(y,NameKind.free)∈sc.names→y=z:=fun y hy=>eq_of_beq (show (y == z)=true from c3' _ hy)
  have nz:ns.lookup z=some .cell:=(N.en.km z).symm.trans (N.en.ko _ _ (bL c4))
  have xm:(x,NameKind.local)∈aX ns sc:=dC.mpr ⟨_,mem_of_lookup c2,rfl⟩
  have zm:(z,NameKind.cell)∈aX ns sc:=dC.mpr ⟨_,mem_of_lookup c3,by simp [nz]⟩
  have QQ:=iy (sc:=sc) (env:=env) fun y hy=>⟨cz,free y hy▸QR⟩
  rw [eval_ListComp]
  refine OS (use:=none) rfl (fun x=>rfl) QQ ok.kind (fun y hy hl=>aZ ok.nd (hl▸hy)) ?_
  refine ve hn rfl (by decide) MV (hm N c5 F H h (fun aj g' af s' v V G H' hv h' pl=>g0 h' fun i ls y eV hj hb US hlen q=>(show aq w aj v (.ob i) from eV▸hv).Xz fun d ha=> ?_) ke)
  have S:=G.at_
  refine bX (H'.dI S ha hb) fun od kvs e Zx Vq hD=> ?_
  have lo:=(H'.new d (bL ha)).2
  have hu:VR aj.p v0 (.cell y):=(ZU _ hj).1.up G.le
  have Wm:=(ZU _ hj).2.up G.tr fun q=>nomatch q
  refine OO hD.typeIs PySem.F.plainAttrs_dict PySem.F.slot_dict_values PySem.F.type_dict_values hD.mapOf.noDict ⟨sX,?_⟩
  refine call_meetsIn PySem.F.slot_dict_values hD.typeIs PySem.F.entry_dict_values (PySem.F.args_dict_values_1 _) (meets_dict_values (intKind aab w) d lo) ⟨⟨kvs,hD⟩,hD.dictAt.elim fun ep hA=> ?_⟩
  have Zt:=hA.at' (h':=s'.heap.push { cls:=.type "dict_values",data:=.fields #[.ref d] }) fun o e=>bG _ e
  refine wpAny_pyIter_values (s:={ s' with heap:=s'.heap.push { cls:=.type "dict_values",data:=.fields #[.ref d] } }) (kvs:=kvs) (ep:=ep) ⟨_,nH _ rfl,rfl,rfl⟩ Zt ?_
  have Wd:s'.heap.objs.size≤(s'.heap.push { cls:=.type "dict_values",data:=.fields #[.ref d] }).objs.size:=by rw [wD]; exact hX _
  have zr:=Vq.len
  generalize hIe:(s'.heap.push { cls:=.type "dict_values",data:=.fields #[.ref d] }).objs.size=I at Wd ⊢
  have old:∀b o,s'.heap.get? b=some o→b≠I:=fun b o e q=>absurd Wd (Nat.not_le.mpr (q▸cA e))
  have push:∀b o,s'.heap.get? b=some o→((s'.heap.push { cls:=.type "dict_values",data:=.fields #[.ref d] }).push { cls:=.type "dict_valueiterator",data:=.fields #[.ref d,.int 0 0,.int kvs.length 0,.int ep 0] }).get? b=some o:=fun b o e=>bG _ (bG _ e)
  have W:=Walks.dictValues (prog:=aab) (w:=w) (A:=A) (knd:=intKind aab w) X.hh I d (old d _ (S.a5 _ _ e)) kvs ep
  refine nB (OQ (fun y hy q=>ph c1 hy q) (fun y hy=>absurd hy cS) (fun aA d8 c8=> ?_) ok.kind)
  dsimp only at d8 c8 ⊢
  generalize hH0:(s'.heap.push { cls:=.type "dict_values",data:=.fields #[.ref d] }).push { cls:=.type "dict_valueiterator",data:=.fields #[.ref d,.int 0 0,.int kvs.length 0,.int ep 0] }=H0 at push d8 c8 ⊢
  have hs0:H0.objs.size=I+1:=by rw [←hH0,wD,hIe]
  have gI:H0.get? I=some { cls:=.type "dict_valueiterator",data:=.fields #[.ref d,.int 0 0,.int kvs.length 0,.int ep 0] }:=by rw [←hH0,←hIe]; exact nH _ rfl
  have hA2:H0.DictAt (intKind aab w) d kvs ep:=hH0▸Zt.at' fun o e=>bG _ e
  generalize hD0:H0.objs.size=D at d8 c8 ⊢
  generalize hH2:H0.push { cls:=.type "list",dict:=none,data:=.seq ([]:List Value).toArray }=H2 at d8 c8 ⊢
  generalize hC0:H2.objs.size=C at d8 c8 ⊢
  have Wc:D=I+1:=hD0.symm.trans hs0
  have hC':C=D+1:=by rw [←hC0,←hH2,wD,hD0]
  have DC:D≠C:=hC'▸eR (iO _)
  have low:∀b o,H0.get? b=some o→b≠D∧b≠C:=fun b o e=>have q:b<D:=hD0▸cA e;⟨eR q,hC'▸eR (Nat.lt_succ_of_lt q)⟩
  have CA:∀b o,H0.get? b=some o→aA.get? b=some o:=fun b o e=>c8.extBut b o (low b o e).2 (bG _ (hH2▸bG _ e))
  have Ha:aA.PlainList D #[]:=⟨_,c8.extBut _ _ DC (bG _ (by rw [←hH2,←hD0];exact nH _ rfl))⟩
  have jy:aA.IsValIter I d 0 kvs.length ep∧aA.DictAt (intKind aab w) d kvs ep:=⟨⟨_,CA _ _ gI,rfl,rfl⟩,hA2.at' fun o e=>CA _ o e⟩
  have Rf:=low d _ (push d od (S.a5 _ _ e))
  have KZ:∀b o,s'.heap.get? b=some o→aA.get? b=some o:=fun b o e=>CA b o (push b o e)
  have vM:∀b o,s'.heap.get? b=some o→b≠C∧b∉[I]∧b≠D:=fun b o e=>⟨(low b o (push b o e)).2,fun q=>old b o e (dX.mp q),(low b o (push b o e)).1⟩
  have two:∀ {x y z:Addr},x≠y→x≠z→x∉[y,z]:=fun h1 h2 q=>(cF.mp q).elim h1 fun q=>h2 (dX.mp q)
  have loop:codeAny (model aab w) A (.compLoop (.ListComp (.Constant (.int 1) k p0) [⟨.Name x p1,.Call (.Attribute o "values" p2) [] [] p3,[.Compare (.Name x p4) [.Is] [.Name z p5] p6],0⟩] sc p7) 0 (.ref I) (.ref D) (compEnvC sc (fK env.cells sc.names []) C env))
    (compPost (model aab w) A Ec none Qc (.ref D) C) { s' with heap:=aA,toks:=s'.toks+([]:List (Str × Value)).length}:=
   codeAny_compLoop_walk (hsz:=zr▸aN (eu hlen) (by rw [gM];decide)) (cenv:=compEnvC sc (fK env.cells sc.names []) C env) W (mQ v0) (fun O y=>∃t,y=Value.int 1 t) (lookup_relabel_local c2) (by simp [compEnvC,relabel,ok.kind]) DC
    (two (low I _ gI).1.symm Rf.1.symm) (two (low I _ gI).2.symm Rf.2.symm) jy Ha d8
    (fun i' v bP Xu hP vu ZL hk ht=>hP.elim fun kk MP=>(Qm Vq MP US).elim fun a ZW=>bX Wm fun ca oc a1 a2 a3 O=>by
     have S3:At hT l g' bP.heap:=S.keeps fun b o e=>hk b o (vM b o e).1 (vM b o e).2.1 (vM b o e).2.2 (KZ b o e)
     have en:=Bi (sc:=sc) (cl:=fK env.cells sc.names []) (C:=C) N.en c1
     exact wpAny_tests_one (Lu (t9 (Jp en.kind (en.ko _ _ xm) vu ZL (t9 (ON en.kind (en.ko _ _ zm) (gB a1 (mem_of_lookup c3)) ⟨oc,S3.a5 _ _ a2,a3⟩
      (aJ (qZ S3 X.T H'.cs ZW hu (.inr rfl) (bR (wpAny_truthy_bool ⟨(oX H'.cs hu ZW).symm,bP.heap,bP.toks,rfl,fun O O e=>e⟩))))) (en.uO _ _ zm))) (en.uO _ _ xm)) rfl))
    (fun i' v bP Xu hP hp vu ZL hk ht=>xo fun t t'=>⟨⟨t,rfl⟩,bP.heap,t',rfl,fun O O e=>e⟩)
    (fun h' tk m' ys vs hnC hl MU Q7 hP hF hk=>⟨m',hnC,fun zl mM=>MU.elim fun nn MU=>by
     have kp:∀b o,s'.heap.get? b=some o→zl.get? b=some o:=fun b o e=>mM.extBut b o (vM b o e).1 (hk b o (vM b o e).1 (vM b o e).2.1 (vM b o e).2.2 (KZ b o e))
     have Y5:s'.heap.objs.size≤D:=aN Wd (Wc▸hX _)
     have Dn:=eH Y5
     have gn:g' D=none:=none_of fun o q=>fg (S.a5 _ _ q) Dn
     have S2:=(S.grow (g':=g'.set D (listOf ys.toList.toArray nn)) (I:=[D]) (fun b hb=>dX.mp hb▸Dn) kp (fun b hb=>GH.au _ _ fun q=>hb (dX.mpr q)) fun b hb o e=>by
      have hb:=dX.mp hb
      rw [hb,GH.set_same] at e
      exact hb▸cH e▸mM.extBut _ _ DC MU).1
     have Rl:=ones H'.cs hu rfl Vq.vals US (Uq Q7 hP▸hF)
     have H2:=H'.cw (ob:=.lst ((ls.filter fun q=>vy (.cell y) q.2).map fun O=>.num 1)) gn ⟨S.og gn,q8 X.T S (fun b o e=>fu (cA e) Y5)⟩ (.lst (n:=nn) (Rl.up (aj.bf D)))
     exact ke0 (aj.cw D) _ _ _ _ (.ob af.objs.length) (G.trans ⟨S2,⟨Kp.of_keeps kp,⟨rfl,rfl,rfl⟩⟩,aj.bf D,gb.cw H' gn,fun O O O h=>h⟩) H2 (.ob (show (aj.o++[D])[af.objs.length]?=_ from H'.len▸nD)) (jS q _ _ f6.mk')⟩)
  exact codeAny_compStart_list loop (W.self 0 _ _ _ jy loop)
theorem CD:keepIn (KK w) (.ref 366)=true:=by kernel_rfl
theorem sY:keepIn (KK w) (.ref 359)=true:=by kernel_rfl
theorem BH:findIn (KK w) (.ref 369) "go_on"=some (some (.ref 366)):=by kernel_rfl
theorem sL:findIn (KK w) (.ref 369) "is_round"=some (some (.ref 359)):=by kernel_rfl
theorem tK:plainGet (KK w) 369 "go_on"=true:=by kernel_rfl
theorem kX:plainGet (KK w) 369 "is_round"=true:=by kernel_rfl
theorem Ce:isFn (KK w) (.ref 366)=true:=by kernel_rfl
theorem sR:isFn (KK w) (.ref 359)=true:=by kernel_rfl
theorem tT (P:Params) (l r sl sr:Value) (dp tn:Int) (t:Ad):getL "go_on" (fh P l r sl sr dp tn t)=some none∧getL "is_round" (fh P l r sl sr dp tn t)=some none:=⟨by kernel_rfl,by kernel_rfl⟩
theorem Jf (X:Cx w hT A l n) {E:PE} {Q:PV} {Qc:Value→Shared→Prop} {V:Mine.V} {f:Addr} (G:Go hT l γ g s aj g' s') (H':HP aab w hT aj σ g') (hv:aq w aj v V) (kc:Ct aab w hT l γ g s Q Qc) (ke:Ke aab w hT l γ g s E Ec) (hk:keepIn (KK w) (.ref f)=true) (hc:aB aab w n (.fn f) [V] Q E σ) :
  bW (model aab w) (.ref f) s'.heap∧wpAny (model aab w) A (call (.ref f) [v]) Qc Ec s':=
 ⟨RB hk (X.T.nL G.at_.a8),sJ (hc X G.at_ H' (.fn hk) (.cons hv .nil) (fun gN g2 eg s2 v V G2 H2 hv q=>Bv (kc _ _ _ _ _ _ (G.trans G2) H2 hv q)) fun gN g2 eg s2 e s3 G2 H2 hE hr=>Bu (ke _ _ _ _ _ _ (G.trans G2) H2 hE hr))⟩
theorem CU {P:Params} {l r sl sr:Value} {dp tn:Int} {t:Ad} {nm:Str} (h:getL nm (fh P l r sl sr dp tn t)=some none):(lookIn nm (dictOf (fh P l r sl sr dp tn t) 6))=some none:=by rw [lookIn_dict,h]
theorem Xa {σ:St} {k:Nat} {a:Mine.V} {C R:Prop} (h:kT σ k a C) (f:∀i t,a= .tk i→σ.objs[i]?=some (.task t)→C→R):R:=by with_unfolding_all exact bQ h fun i h=>h.elim fun t h=>f i t h.1 h.2.1 h.2.2
theorem sTm (X:Cx w hT A l n) {k:Bool} {m:ME} (hm:SE aab w n A hT l m) {FR:Ga→GH→aO→Shared→Prop} {fr:aO} {e:Expr} {Q:PV} {E:PE} {Qc:Value→Shared→Prop} (N:cZ w hT l env ns FR) (ck:g8 ns (.tU k m) e=true) (F:FR γ g fr s) (H:HP aab w hT γ σ g)
  (h:qE (aB aab w n) m fr (fun v af=>kT af 0 v (aB aab w n (.fn (if k then 366 else 359)) [v] Q E af)) E σ)
  (kc:Ct aab w hT l γ g s Q Qc) (ke:Ke aab w hT l γ g s E Ec):wpAny (model aab w) A (eval e env) Qc Ec s:=qy ck fun o x es p q h1 h2 h3 h4 ck=>by
 rw [eq_of_beq (ae ck),fT.mp (ae (aa ck))]
 refine ve h2 rfl (by decide) h1 (hm N (aa (aa ck)) F H h (fun aj g' af s' v V G H' hv h' pl=>Xa h' fun i t e hb hc=> ?_) ke)
 refine fZ ((show aq w aj v (.tk i) from e▸hv)) fun d y e2 ha hf=> ?_
 refine yv (H'.tk ha hb) fun le ri sl sr tt ed O=> ?_
 have S:=G.at_
 have I:InstAt s'.heap y (instObj 369 d) 369 (some (F8 w.params le ri sl sr t.deep t.turn tt)):=⟨S.a5 _ _ (H'.fz _ hf).1,rfl,rfl,S.a5 _ _ ed⟩
 have call:=fun {f:Addr}=>Jf (f:=f) X G H' hv kc ke
 rw [e2] at call ⊢
 cases k with
 | true=>exact method_fn (X.T.nL S.a8) I (plainGet_of tK).1 (plainGet_of tK).2 BH (beq_iff_eq.mp Ce) (by show (lookIn "go_on" (dictOf (fh w.params le ri sl sr t.deep t.turn tt) 6)).map _=_; rw [CU (tT w.params le ri sl sr t.deep t.turn tt).1]; rfl) (call CD hc)
 | false=>exact method_fn (X.T.nL S.a8) I (plainGet_of kX).1 (plainGet_of kX).2 sL (beq_iff_eq.mp sR) (by show (lookIn "is_round" (dictOf (fh w.params le ri sl sr t.deep t.turn tt) 6)).map _=_; rw [CU (tT w.params le ri sl sr t.deep t.turn tt).2]; rfl) (call sY hc)
theorem Oe (X:Cx w hT A l n) (hm:SE aab w n A hT l m):SE aab w n A hT l (.tU k m):=fun {env ns FR fr γ g s σ e Q E Qc Ec} N ck F H h kc ke=>sTm X hm N ck F H h kc ke
theorem IA (X:Cx w hT A l n) (hm:SE aab w n A hT l m):ST aab w n A hT l (.tU k m):=fun {env ns FR fr γ g s σ e Q E Qc Ec} N ck F H h kc ke=>
 isTrue_plain (sTm X hm (Q:=fun v af=>qb v Q af) (Qc:=fun v s₁=>wpAny (model aab w) A (truthy v) Qc Ec s₁) N ck F H h (fun aj g' af s' v V G H' hv h'=>gZ hv h' fun c hc=>kc _ _ _ _ _ G H' hc) ke) (tL (qy ck fun O O O O O O O O O O=>rfl))
end
section
variable {aab:Program} {w:World} {n:Nat} {A:Around} {hT:Heap} {l:List Env} (X:Cx w hT A l n) (hu:A.units+64<cLine)
structure S2 (aab:Program) (w:World) (n:Nat) (A:Around) (hT:Heap) (l:List Env) (m:ME):Prop where
 e:SE aab w n A hT l m
 t:ST aab w n A hT l m
structure S3 (aab:Program) (w:World) (n:Nat) (A:Around) (hT:Heap) (l:List Env) (m:gr):Prop where
 e:FN aab w n A hT l m
 p:OY aab w n A hT l m
 c:uR aab w n A hT l m
theorem kU (h:∀ {C fr Q E σ},¬ qT C m fr Q E σ):ST aab w n A hT l m:=fun O O O O q O O=>(h q).elim
include X hu
theorem ef:∀m:ME,S2 aab w n A hT l m:=fun m=>
 ME.rec (motive_1:=S2 aab w n A hT l) (motive_2:=S3 aab w n A hT l) (motive_3:=Gg aab w n A hT l)
  (fun i=>⟨To i,TB i⟩) (fun v=>⟨sK v,kU fun h=>h⟩) (fun v=>⟨sG X v,kU fun h=>h⟩)
  (fun O O a b=>⟨XN a.e b.e,TA a.t b.t⟩) (fun O O a b=>⟨sOr a.e b.e,Yy a.t b.t⟩) (fun O a=>⟨Ys a.e,TC a.t⟩) (fun O O O c a b=>⟨X9 c.t a.e b.e,kU fun h=>h⟩)
  (fun o O as=>⟨sOp X hu as.e,Yx X hu as.e⟩) (fun ks O as=>⟨XS X as.p as.e,kU fun h=>h⟩) (fun m O O a as=>⟨Ym X hu a.e as.e,kU fun h=>h⟩)
  (fun fv tg O O O e i c=>⟨SW X i e.e c.c,kU fun h=>h⟩) (fun j O o=>⟨SX X o.e,kU fun h=>h⟩) (fun k O a=>⟨Oe X a.e,IA X a.e⟩) ⟨fun O O O O h O O=>h.elim,kU fun h=>h⟩
  ⟨Tr,XB,trivial⟩ (fun O O e r=>⟨Lc e.e r.e,Sz e.e r.p,e.t⟩)
  (fun O e=>Rp X e.e) (fun O e=>Rt X e.e) (fun O e=>Rq X e.e) (fun O O O a b c=>Kd X a.e b.e c.e) (fun O O a b=>Ru X a.e b.e) m
theorem cQ (m:ME):SE aab w n A hT l m:=(ef X hu m).e
theorem Et (m:MI):Gg aab w n A hT l m:=by
 cases m with
 | exp e=>exact Rp X (ef X hu e).e
 | tupI e=>exact Rt X (ef X hu e).e
 | Pn e=>exact Rq X (ef X hu e).e
 | Iv a b c=>exact Kd X (ef X hu a).e (ef X hu b).e (ef X hu c).e
 | zip a b=>exact Ru X (ef X hu a).e (ef X hu b).e
theorem IM (m:gr):FN aab w n A hT l m:=(gr.rec (motive_1:=fun O=>True) (motive_2:=FN aab w n A hT l) (motive_3:=fun O=>True) (fun O=>trivial) (fun O=>trivial) (fun O=>trivial) (fun O O O O=>trivial) (fun O O O O=>trivial) (fun O O=>trivial) (fun O O O O O O=>trivial) (fun O O O=>trivial) (fun O O O=>trivial) (fun O O O O O=>trivial) (fun O O O O O O O O=>trivial) (fun O O O=>trivial) (fun O O O=>trivial) trivial Tr (fun e O O r=>Lc (ef X hu e).e r) (fun O O=>trivial) (fun O O=>trivial) (fun O O=>trivial) (fun O O O O O O=>trivial) (fun O O O O=>trivial) m)
theorem vW (m:ME):ST aab w n A hT l m:=(ef X hu m).t
end
noncomputable section
noncomputable def dO (e:Expr):Bool:=r5 e true (fun O O O=>true) (fun O O O O=>true) (fun O O O=>true) (fun O O O O=>true) (fun O O O O=>true) (fun O O O=>true) true (fun O O O O=>false) false (fun O O O O=>true) (fun O O O O=>true) (fun O O O=>true) (fun O O O=>true) (fun O O O=>true) true (fun O O=>true) (fun O O=>true) (fun O O O=>true) (fun O O O O=>true)
theorem ee (h:dO e=true):swapsWith e t k env=pure false:=by
 cases e <;> first | rfl | exact absurd h rx
noncomputable def pd (ns:bJ) (wr:Bool) (i:Nat) (x:Str):Bool:=Gl ns i fun y k=>y == x && (k == .local || (wr && k == .cell))
def Py (st:Stmt) (v:Sw):Nat→Prop
 | 1=>st= .Return (some v.e) v.p
 | 2=>st= .Assign v.ts v.e v.p
 | 3=>st= .If v.e v.a v.b v.p
 | 4=>st= .While v.e v.a v.b v.p
 | 5=>st= .For v.i v.e v.a v.b v.p
 | 6=>st= .Expr v.e v.p
 | 7=>st= .Continue v.p
 | 8=>st= .Raise (some v.e) none v.p
 | 9=>st= .Try v.a v.hs [] [] v.p
 | _=>True
theorem Oy (st:Stmt):Py st (sw st) (sw st).t:=by
 cases st with
 | Return v p=>cases v with | none=>exact trivial | some=>exact rfl
 | Assign=>exact rfl
 | If=>exact rfl
 | While=>exact rfl
 | For=>exact rfl
 | Expr=>exact rfl
 | Continue=>exact rfl
 | Raise x c p=>cases x with
  | none=>exact trivial
  | some=>cases c with | none=>exact rfl | some=>exact trivial
 | Try a hs b c p=>cases b with
  | nil=>cases c with | nil=>exact rfl | cons=>exact trivial
  | cons=>exact trivial
 | _=>exact trivial
theorem js {st:Stmt} {n:Nat} (h:((sw st).t == n)=true):Py st (sw st) n:=beq_iff_eq.mp h▸Oy st
section
variable {st:Stmt} {P:Stmt→Prop}
noncomputable def xG (st:Stmt) (f:Expr→Bool):Bool:=(sw st).t == 1 && f (sw st).e
noncomputable def kP (st:Stmt) (f:Expr→Expr→Bool):Bool:=(sw st).t == 2 && mZ (sw st).ts false fun t=>f t (sw st).e
noncomputable def Kl (st:Stmt) (f:Expr→List Stmt→List Stmt→Bool):Bool:=(sw st).t == 3 && f (sw st).e (sw st).a (sw st).b
noncomputable def Kn (st:Stmt) (f:Expr→List Stmt→Bool):Bool:=(sw st).t == 4 && ((sw st).b.isEmpty && f (sw st).e (sw st).a)
noncomputable def Kk (st:Stmt) (f:Expr→Expr→List Stmt→Bool):Bool:=(sw st).t == 5 && ((sw st).b.isEmpty && f (sw st).i (sw st).e (sw st).a)
noncomputable def Kj (st:Stmt) (f:Expr→Bool):Bool:=(sw st).t == 6 && f (sw st).e
noncomputable def Ci (st:Stmt):Bool:=(sw st).t == 7
noncomputable def Cr (st:Stmt) (f:Expr→Bool):Bool:=(sw st).t == 8 && f (sw st).e
@[elab_as_elim] theorem qz {f:Expr→Bool} (h:xG st f=true) (k:∀v p,f v=true→P (.Return (some v) p)):P st:=(show st=_ from js (ae h)).symm▸k _ _ (aa h)
@[elab_as_elim] theorem eI (h:kP st f=true) (k:∀t v p,f t v=true→P (.Assign [t] v p)):P st:=(show st=_ from js (ae h)).symm▸gH (P:=fun ts=>P (.Assign ts (sw st).e (sw st).p)) (aa h) fun t h=>k t _ _ h
@[elab_as_elim] theorem Hq {f:Expr→List Stmt→List Stmt→Bool} (h:Kl st f=true) (k:∀c a b p,f c a b=true→P (.If c a b p)):P st:=(show st=_ from js (ae h)).symm▸k _ _ _ _ (aa h)
@[elab_as_elim] theorem Hu {f:Expr→List Stmt→Bool} (h:Kn st f=true) (k:∀c a p,f c a=true→P (.While c a [] p)):P st:=(show st=_ from js (ae h)).symm▸(fT.mp (ae (aa h))).symm▸k _ _ _ (aa (aa h))
@[elab_as_elim] theorem Hp {f:Expr→Expr→List Stmt→Bool} (h:Kk st f=true) (k:∀t i a p,f t i a=true→P (.For t i a [] p)):P st:=(show st=_ from js (ae h)).symm▸(fT.mp (ae (aa h))).symm▸k _ _ _ _ (aa (aa h))
@[elab_as_elim] theorem Ho {f:Expr→Bool} (h:Kj st f=true) (k:∀v p,f v=true→P (.Expr v p)):P st:=(show st=_ from js (ae h)).symm▸k _ _ (aa h)
@[elab_as_elim] theorem Cj (h:Ci st=true) (k:∀p,P (.Continue p)):P st:=(show st=_ from js h).symm▸k _
@[elab_as_elim] theorem Cs {f:Expr→Bool} (h:Cr st f=true) (k:∀v p,f v=true→P (.Raise (some v) none p)):P st:=(show st=_ from js (ae h)).symm▸k _ _ (aa h)
end
noncomputable def du (ns:bJ) (ts:List Expr):List Str:=ts.filterMap fun e=>r5 e none (fun O O O=>none) (fun O O O O=>none) (fun O O O=>none) (fun O O O O=>none) (fun O O O O=>none) (fun O O O=>none) none (fun O O O O=>none) none (fun O O O O=>none) (fun O O O O=>none) (fun O O O=>none) (fun O O O=>none) (fun O O O=>none) none (fun id pos=>if (ns.lookup id == some .local && pos.line == ((ts.head?.map (·.pos.line)).getD 0))=true then some id else none) (fun O O=>none) (fun O O O=>none) (fun O O O O=>none)
noncomputable def I5 (ns:bJ) (ts es:List Expr):Bool:= !(!(ts.length == 2 || ts.length == 3) || es.length != ts.length) && (es.all aQ && (!((du ns ts).length != ts.length || (du ns ts).eraseDups.length != (du ns ts).length) && (!(es.all (foldedForSure 8)) && !(es.all (constantsAlone 8)))))
noncomputable def DH (ns:bJ) (is:List Nat) (xs:List Str):Bool:=List.rec (motive:=fun O=>List Str→Bool) (fun xs=>xs.isEmpty) (fun i O ih xs=>List.casesOn (motive:=fun O=>Bool) xs false fun x r=>decide (ns[i]?=some (x,.local)) && ih r) is xs
noncomputable def DJ (ns:bJ) (wr:Bool) (is:List Nat) (es:List Expr):Bool:=List.rec (motive:=fun O=>List Expr→Bool) (fun es=>es.isEmpty) (fun i O ih es=>List.casesOn (motive:=fun O=>Bool) es false fun e r=>isName e (pd ns wr i) && ih r) is es
noncomputable def isStr (e:Expr):Bool:=(vw e).t == 15 && Const.casesOn (motive:=fun O=>Bool) (vw e).k false (fun O=>false) (fun O=>false) (fun O=>false) (fun O O=>false) (fun O=>true) (fun O=>false) false
theorem Hr {e:Expr} {P:Expr→Prop} (h:isStr e=true) (k:∀x n p,P (.Constant (.str x) n p)):P e:=
 bQ (bj (ae h)) fun n q=>q.symm▸by
  have h:=aa h
  cases e0:(vw e).k with
  | str x=>exact k x n _
  | _=>rw [e0] at h;exact absurd h rx
noncomputable def xI (ns:bJ) (e:Expr) (f:Expr→Bool):Bool:=isCall e fun g as=>isName g (· == ("wrong":Str)) && tV as false fun s a r=>r.isEmpty && (isStr s && (Am ns "wrong" && (aQ a && f a)))
@[elab_as_elim] theorem zw {ns:bJ} {e:Expr} {f:Expr→Bool} {P:Expr→Prop} (h:xI ns e f=true) (k:∀p x n q a r,Am ns "wrong"=true→aQ a=true→f a=true→P (.Call (.Name "wrong" p) [.Constant (.str x) n q,a] [] r)):P e:=
 jl h fun g as r O h=>bB (P:=fun g=>P (.Call g as [] r)) (ae h) fun y p hy=>iK (P:=fun as=>P (.Call _ as [] r)) (aa h) fun s a t h=>
  Hr (P:=fun s=>P (.Call _ (s::a::t) [] r)) (ae (aa h)) fun x n q=>(eq_of_beq hy).symm▸(fT.mp (ae h)).symm▸k p x n q a r (ae (aa (aa h))) (ae (aa (aa (aa h)))) (aa (aa (aa (aa h))))
noncomputable def JD (h:ExceptHandler) (d:α) (f:Expr→Str→List Stmt→α):α:=match h with | .ExceptHandler t n b _=>Option.rec (motive:=fun O=>α) d (fun t=>Option.rec (motive:=fun O=>α) d (fun n=>f t n b) n) t
noncomputable def Km (ns:bJ) (i:Nat) (st:Stmt) (f:Expr→Bool):Bool:=(sw st).t == 9 && mZ (sw st).a false fun r=>xG r fun e=>mZ (sw st).hs false fun h=>JD h false fun t x b=>isName t (· == ("LispSignal":Str)) && (Am ns "LispSignal" &&
 (decide (ns[i]?=some (x,.local)) && (f e && mZ b false fun r2=>xG r2 fun l=>Cn l fun es=>tV es false fun q1 q2 r=>r.isEmpty && (fW q1 (.str (sT 7)) && mN q2 fun y z=>z == ("symbol":Str) && isName y (· == x)))))
noncomputable abbrev pE:=bJ→Bool→Stmt→Bool
noncomputable abbrev Jr:=bJ→Bool→List Stmt→Bool
noncomputable abbrev P9 (i:Nat) (m:ME):pE:=fun ns wr st=>kP st fun t v=>isName t (pd ns wr i) && (dO v && g8 ns m v)
noncomputable def rg (ns:bJ) (t v:Expr):Bool:=(vw v).t == 14 && (decide ((vw t).p.line=(vw v).p.line) && (ns.lookup (vw t).x == some .local && !((vw v).sc.names.any fun p=>p.1 == (vw t).x && (p.2 == .local || p.2 == .cell))))
noncomputable def Hm (m:ME):Bool:=ME.casesOn (motive_1:=fun O=>Bool) m (fun O=>false) (fun O=>false) (fun O=>false) (fun O O=>false) (fun O O=>false) (fun O=>false) (fun O O O=>false) (fun O O=>false) (fun O O=>false) (fun O O O=>false) (fun O O O O O=>true) (fun O O=>false) (fun O O=>false) false
noncomputable abbrev JG (i:Nat) (m:ME):pE:=fun ns wr st=>kP st fun t v=>isName t (fun x=>decide (ns[i]?=some (x,.local))) && (rg ns t v && (Hm m && g8 ns m v))
noncomputable abbrev JH (is:List Nat) (ms:gr):pE:=fun ns wr st=>kP st fun t v=>isTup t fun ts=>isTup v fun es=>I5 ns ts es && (DH ns is (du ns ts) && jD ns ms es)
noncomputable abbrev Qk (is:List Nat) (m:ME):pE:=fun ns wr st=>kP st fun t v=>isTup t fun ts=>DJ ns wr is ts && (dO v && ((vw v).t != 11 && g8 ns m v))
noncomputable abbrev JN (d:Bool) (o e:ME):pE:=fun ns wr st=>kP st fun t v=>mN t fun a x=>x == (if d then "cdr" else "car":Str) && (dO v && (g8 ns o a && g8 ns e v))
noncomputable abbrev JO (k:Nat) (o e:ME):pE:=fun ns wr st=>kP st fun t v=>mN t fun a x=>x == oq k && (dO v && (g8 ns o a && g8 ns e v))
noncomputable abbrev xn (o k e:ME):pE:=fun ns wr st=>kP st fun t v=>Cv t fun a x=>dO v && (g8 ns o a && (g8 ns k x && g8 ns e v))
noncomputable abbrev Qi (e:ME):pE:=fun ns wr st=>xG st (g8 ns e)
noncomputable abbrev Qg (c:ME) (a b:Jr):pE:=fun ns wr st=>Kl st fun x y z=>g8 ns c x && (a ns wr y && b ns wr z)
noncomputable abbrev JP (c:ME) (b:Jr):pE:=fun ns wr st=>Kn st fun x y=>g8 ns c x && b ns wr y
noncomputable abbrev JL (tg:List Nat) (it:MI) (b:Jr):pE:=fun ns wr st=>Kk st fun t i y=>EG ns tg t && (qW i && (decide (tg.length=mR it) && (UJ ns it i && b ns wr y)))
noncomputable abbrev Qd (e:ME):pE:=fun ns wr st=>Kj st fun v=>dO v && g8 ns e v
noncomputable abbrev JM (k:Nat) (e:ME):pE:=fun ns wr st=>Cr st fun v=>xI ns v (g8 ns e)
noncomputable abbrev Qj (i:Nat) (e:ME):pE:=fun ns wr st=>Km ns i st (g8 ns e)
noncomputable abbrev JJ:pE:=fun ns wr st=>Ci st
noncomputable abbrev JK:pE:=fun O O O=>true
noncomputable abbrev Qh:Jr:=fun O O yj=>yj.isEmpty
noncomputable abbrev JI (s:pE) (r:Jr):Jr:=fun ns wr yj=>List.casesOn (motive:=fun O=>Bool) yj false fun st yj=>s ns wr st && r ns wr yj
noncomputable abbrev ckS (ns:bJ) (wr:Bool) (m:MS) (st:Stmt):Bool:=MS.rec (motive_1:=fun O=>pE) (motive_2:=fun O=>Jr) P9 JG JH Qk JN JO xn xn Qi (fun c O O=>Qg c) (fun c O=>JP c) (fun tg it O=>JL tg it) Qd JM Qj JJ JK Qh (fun O O=>JI) m ns wr st
noncomputable abbrev JF (ns:bJ) (wr:Bool) (m:MB) (yj:List Stmt):Bool:=MB.rec (motive_1:=fun O=>pE) (motive_2:=fun O=>Jr) P9 JG JH Qk JN JO xn xn Qi (fun c O O=>Qg c) (fun c O=>JP c) (fun tg it O=>JL tg it) Qd JM Qj JJ JK Qh (fun O O=>JI) m ns wr yj
end
structure Gs (cs:List Addr) (γ:Ga) (g:GH) (aj:Ga) (g':GH):Prop where
 le:γ.Le aj
 tr:∀b o,b∉γ.fp→b∉cs→g b=some o→b∉aj.fp∧g' b=some o
 fk:kh γ g aj
 vi:∀b∈cs,g b≠none→b∉γ.fp→g' b≠none∧b∉aj.fp
theorem Gs.refl (cs:List Addr) (γ:Ga) (g:GH):Gs cs γ g γ g:=⟨Ga.Le.refl _,fun b o n O e=>⟨n,e⟩,kh.refl _ _,fun O O h k=>⟨h,k⟩⟩
inductive Pt (w:World) (γ:Ga):Flow→Fl→Prop
 | next:Pt w γ .next .next
 | cont:Pt w γ .cont .cont
 | brk:Pt w γ .brk .brk
 | ret {v V}:aq w γ v V→Pt w γ (.ret v) (.ret V)
structure Ac (w:World) (hT:Heap) (A:Around) (env:Env) (aac:List Env) (ns:bJ) (L:Addr) (n:Nat):Prop where
 X:Cx w hT A (env::aac) n
 hu:A.units+64<cLine
 ok:kg env L ns
 rm:7≤n
 UH:env.cells.Pairwise (fun x y=>x.2≠y.2)
 cin:∀ca∈env.cells.map (·.2),∃(i:Nat) (x:Str),ns[i]?=some (x,NameKind.cell)∧env.cells.lookup x=some ca
noncomputable abbrev eZ (env:Env):List Addr:=env.cells.map (·.2)
section
variable (aab:Program) (w:World) (n:Nat) (A:Around) (hT:Heap) (wr:Bool) (env:Env) (aac:List Env) (ns:bJ) (s₀:Shared) (L:Addr)
def OT (γ:Ga) (g:GH) (K:Fl→aO→St→Prop) (Qc:Flow→Shared→Prop):Prop:=∀aj g' d7 af s' fl Fl,Gs (eZ env) γ g aj g'→jz w hT wr env ns aac s₀ L aj g' d7 s'→HP aab w hT aj af g'→Pt w aj fl Fl→K Fl d7 af→Qc fl s'
def yV (γ:Ga) (g:GH) (E:aO→St→Prop) (Ec:Value→Shared→Prop):Prop:=∀aj g' d7 af s' e tb t,Gs (eZ env) γ g aj g'→jz w hT wr env ns aac s₀ L aj g' d7 s'→HP aab w hT aj af g'→E d7 af →
 Ex w.params g' e s'.heap tb (.str "wrong-type-argument" t)→(∀L',tb= .held L'→L'=L)→Ec (.ref e) s'
def rz (m:MS):Prop:=∀ {γ g fr s σ st K E} {Qc:Flow→Shared→Prop} {Ec:Value→Shared→Prop},ckS ns wr m st=true→jz w hT wr env ns aac s₀ L γ g fr s→HP aab w hT γ σ g→qS (aB aab w n) m fr K E σ→OT aab w hT wr env aac ns s₀ L γ g K Qc→yV aab w hT wr env aac ns s₀ L γ g E Ec→wpAny (model aab w) A (exec st env) Qc Ec s
def SB (m:MB):Prop:=∀ {γ g fr s σ yj K E} {Qc:Flow→Shared→Prop} {Ec:Value→Shared→Prop},JF ns wr m yj=true→jz w hT wr env ns aac s₀ L γ g fr s→HP aab w hT γ σ g→qB (aB aab w n) m fr K E σ→OT aab w hT wr env aac ns s₀ L γ g K Qc→yV aab w hT wr env aac ns s₀ L γ g E Ec→wpAny (model aab w) A (execs yj env) Qc Ec s
end
section
variable {aab:Program} {w:World} {n:Nat} {A:Around} {hT:Heap} {wr:Bool} {env:Env} {aac:List Env} {ns:bJ} {s₀:Shared} {L:Addr} {γ aj:Ga} {g g':GH} {s s':Shared} {σ af:St} {fr d7:aO} {K:Fl→aO→St→Prop} {E:aO→St→Prop} {Qc:Flow→Shared→Prop} {Ec:Value→Shared→Prop} {cs:List Addr}
theorem Gs.sees (x:Gs cs γ g aj g') (e:g b≠none) (nf:b∉γ.fp):g' b≠none∧b∉aj.fp:=by
 by_cases hc:b∈cs
 ·exact x.vi b hc e nf
 ·cases q:g b with
  | none=>exact absurd q e
  | some o=>have r:=x.tr b o nf hc q;exact ⟨r.2▸nofun,r.1⟩
theorem Gs.trans (x:Gs cs γ g aj g') (y:Gs cs aj g' uM uP):Gs cs γ g uM uP:=
 ⟨x.le.trans y.le,fun b o nb nc e=>have r:=x.tr b o nb nc e;y.tr b o r.1 nc r.2,fun ca nf e hz=>have r:=x.sees e nf;y.fk ca r.2 r.1 (x.fk ca nf e hz),fun b hb e nf=>have r:=x.vi b hb e nf;y.vi b hb r.1 r.2⟩
theorem Go.gs (G:Go hT l γ g s aj g' s'):Gs cs γ g aj g':=⟨G.le,fun b o nb O e=>G.tr b o nb e,G.fk,fun b O e nf=>by
 cases q:g b with
 | none=>exact absurd q e
 | some o=>have r:=G.tr b o nf q;exact ⟨r.2▸nofun,r.1⟩⟩
theorem Gs.off (x:Gs cs γ g aj g') (o:mf I g' uP) (hI:∀b∈I,g b=none) (hc:∀b∈I,b∉cs):Gs cs γ g aj uP:=
 ⟨x.le,fun b ob nb nc e=>have r:=x.tr b ob nb nc e;⟨r.1,o b ob (fun hb=>nomatch (hI b hb).symm.trans e) r.2⟩,x.fk,fun b hb e nf=>by
  have r:=x.vi b hb e nf
  cases q:g' b with
  | none=>exact absurd q r.1
  | some ob=>exact ⟨(o b ob (fun hm=>hc b hm hb) q)▸nofun,r.2⟩⟩
theorem OT.trans (k:OT aab w hT wr env aac ns s₀ L γ g K Qc) (G:Gs (eZ env) γ g aj g'):OT aab w hT wr env aac ns s₀ L aj g' K Qc:=fun O O O O O O O G2=>k _ _ _ _ _ _ _ (G.trans G2)
theorem yV.trans (k:yV aab w hT wr env aac ns s₀ L γ g E Ec) (G:Gs (eZ env) γ g aj g'):yV aab w hT wr env aac ns s₀ L aj g' E Ec:=fun O O O O O O O O G2=>k _ _ _ _ _ _ _ _ (G.trans G2)
theorem yV.ke (B:Ac w hT A env aac ns L n) (k:yV aab w hT wr env aac ns s₀ L γ g E Ec) (F:jz w hT wr env ns aac s₀ L γ g fr s):Ke aab w hT (env::aac) γ g s (E fr) Ec:=fun aj g' af s₁ x s' G H he er=>by
 refine er.er.k (R:=fun e=>Ec e s') fun a uP t le S kp X=> ?_
 have Gt:=G.trans (show Go hT (env::aac) aj g' s₁ aj uP s' from ⟨S,⟨kp,er.same⟩,Ga.Le.refl _,gb.of_le le,kh.refl _ _⟩)
 exact k _ _ _ _ _ _ _ _ Gt.gs ((jz.nm B.ok).go F Gt) (H.mono le) he X nofun
theorem yV.loop (B:Ac w hT A env aac ns L n) (k:yV aab w hT wr env aac ns s₀ L γ g E Ec):yV aab w hT wr env aac ns s₀ L γ g E (rH (model aab w) A env Ec):=fun aj g' d7 af s e tb t G F H he X xy=>bc F fun vs F sl=>
 CV F.f B.X.fr X xy fun cE iU rO=>k _ _ _ _ {s with heap:=cE} _ _ _ G ⟨vs,⟨iU,F.same.trans ⟨rfl,rfl,rfl⟩⟩,sl⟩ H he rO fun O e=>Tb.MN e
theorem jz.put (B:Ac w hT A env aac ns L n) {i:Nat} {x:Str} {V:Mine.V} {v:Value} {Q:Unit→Shared→Prop} {M:Model} (F:jz w hT wr env ns aac s₀ L γ g fr s) (H:HP aab w hT γ σ g) (hi:pd ns wr i x=true) (hv:aq w γ v V)
  (h:∀g' s',Gs (eZ env) γ g γ g'→jz w hT wr env ns aac s₀ L γ g' (m4 fr i V) s'→HP aab w hT γ σ g'→(∀b,b∉eZ env→g' b=g b)→Q () s'):wpAny M A (storeName env x v) Q Ec s:=by
 obtain ⟨vs,F,sl⟩:=F
 refine wW hi fun y k e hi=> ?_
 rw [eq_of_beq (ae hi)] at e
 by_cases hk:(k == NameKind.local)=true
 ·rw [eq_of_beq hk] at e
  obtain ⟨cR,hp,sl'⟩:=sl.putL hv e
  exact st F hp fun s' F'=>h g s' (Gs.refl _ _ _) ⟨cR,F',sl'⟩ H fun O O=>rfl
 ·have hk:=iD (aa hi) (fun q=>absurd q hk) fun q=>q
  rw [eq_of_beq (aa hk)] at e
  have hw:=ae hk
  subst hw
  obtain ⟨v0,⟨ca,o,e1,e2,e3,nf,z⟩,_⟩:=sl.cell e
  obtain ⟨nT,nz⟩:=z rfl
  have cm:ca∈eZ env:=dC.mpr ⟨_,mem_of_lookup e1,rfl⟩
  refine wpAny_storeName_cell F.f.ok.sc.kind (F.f.kind (bL e)) e1 ⟨o,F.S.a5 _ _ e2,e3⟩ fun h' hc hs=> ?_
  obtain ⟨o',oU,nK⟩:=hc
  have off:∀b,b≠ca→(g.set ca o') b=g b:=fun b hb=>GH.au _ _ hb
  refine h (g.set ca o') _ ⟨Ga.Le.refl _,fun b ob nb nc eb=>⟨nb,(off b fun q=>nc (q▸cm)).trans eb⟩,kh.refl _ _,fun b hb eb nb=>⟨?_,nb⟩⟩ ⟨vs,F.upd (t:=s.toks) e2 nT hs oU,sl.XD hv (B.ok.nm▸B.ok.sc.nd) B.UH e1 nK nf z e⟩
   (H.apart (I:=[ca]) (fun b hb=>dX.mp hb▸⟨nf,nz,o,e2,fun d q=>nomatch e3.symm.trans (aD Obj.data q)⟩) fun b hb=>off b fun q=>hb (q▸.head _)) fun b nb=>off b fun q=>nb (q▸cm)
  by_cases q:b=ca
  ·rw [q,GH.set_same];exact nofun
  ·rw [off b q];exact eb
theorem jz.DM (B:Ac w hT A env aac ns L n) {M:Model} {Q:Shared→Prop} {is:List Nat}:∀ {xs:List Str} {vs:List Value} {Vs:List Mine.V} {g:GH} {s:Shared} {fr:aO},jz w hT wr env ns aac s₀ L γ g fr s→HP aab w hT γ σ g→is.length=xs.length→(∀(j:Nat) (a:Nat) (x:Str),is[j]?=some a→xs[j]?=some x→pd ns wr a x=true)→ao w γ vs Vs→xs.length=vs.length →
  (∀g' s',Gs (eZ env) γ g γ g'→jz w hT wr env ns aac s₀ L γ g' (dJ fr is Vs) s'→HP aab w hT γ σ g'→(∀b,b∉eZ env→g' b=g b)→Q s')→uW M A env Q Ec xs vs s:=by
 induction is with
 | nil=>
  intro xs vs Vs g s fr F H hl t hv O8 h
  cases xs with
  | cons=>exact nomatch hl
  | nil=>
   induction hv with
   | nil=>exact h g s (Gs.refl _ _ _) F H fun O O=>rfl
   | cons=>exact nomatch O8
 | cons i is ih=>
  intro xs vs Vs g s fr F H hl t hv O8 h
  cases xs with
  | nil=>exact nomatch hl
  | cons x xs=>
   induction hv with
   | nil=>exact nomatch O8
   | cons hv dR=>exact F.put B H (t 0 i x rfl rfl) hv fun g1 s1 G1 F1 H1 o1=>ih F1 H1 (lA hl) (fun j a y ha hy=>t (j+1) a y ha hy) dR (lA O8) fun g2 s2 G2 F2 H2 o2=>h g2 s2 (G1.trans G2) F2 H2 fun b hb=>(o2 b hb).trans (o1 b hb)
end
theorem zD (h:((vw v).t != 11)=true):swappedStores [.Tuple ts k p] v env=pure none:=by
 cases v <;> first | rfl | exact absurd h rx
theorem aq.Xy {w:World} {γ:Ga} {v:Value} {V:V} {t:f9} {k:Nat} {K:f9→Prop} {R:Prop} (h:aq w γ v V) (o:opt (t.set k V) K) (f:∀a t',VR γ.p v a→t.D4 k a=some t'→K t'→R):R:=by
 cases V with
 | av a=>exact KY o fun t' e q=>f a t' h e q
 | _=>exact o.elim
section
variable {aab:Program} {w:World} {n:Nat} {A:Around} {hT:Heap} {wr:Bool} {env:Env} {aac:List Env} {ns:bJ} {s₀:Shared} {L:Addr} (B:Ac w hT A env aac ns L n)
include B
theorem Ac.N:cZ w hT (env::aac) env ns (jz w hT wr env ns aac s₀ L):=jz.nm B.ok
theorem YP (e:ME):rz aab w n A hT wr env aac ns s₀ L (.ret e):=fun {γ g fr s σ st K E Qc Ec} ck F H h k ke=>qz ck fun v p ck=>
 pq (cQ B.X B.hu e B.N ck F H h (fun aj g' af s' v V G H' hv h'=>k _ _ _ _ _ (.ret v) (.ret V) G.gs (B.N.go F G) H' (.ret hv) h') (ke.ke B F))
theorem YM (i:Nat) (e:ME):rz aab w n A hT wr env aac ns s₀ L (.asg i e):=fun {γ g fr s σ st K E Qc Ec} ck F H h k ke=>eI ck fun t v p ck=>bB (P:=fun t=>wpAny (model aab w) A (exec (.Assign [t] v p) env) Qc Ec s) (ae ck) fun x q hx=>
 LF (cQ B.X B.hu e B.N (aa (aa ck)) F H h (fun aj g' af s' v V G H' hv h'=>(B.N.go F G).put B H' hx hv fun g2 s2 G2 F2 H2 O=>k _ _ _ _ _ .next .next (G.gs.trans G2) F2 H2 .next h') (ke.ke B F)) (ee (ae (aa ck)))
theorem YN (e:ME):rz aab w n A hT wr env aac ns s₀ L (.exp e):=fun {γ g fr s σ st K E Qc Ec} ck F H h k ke=>Ho ck fun v p ck=>
 (id F).elim fun vs Fs=>Uy Fs.1 (cQ B.X B.hu e B.N (aa ck) F H h (fun aj g' af s' v V G H' hv h'=>k _ _ _ _ _ .next .next G.gs (B.N.go F G) H' .next h') (ke.ke B F)) (ee (ae ck))
theorem T3:rz aab w n A hT wr env aac ns s₀ L .cont:=fun {γ g fr s σ st K E Qc Ec} ck F H h k ke=>Cj ck fun p=>wpAny_Continue (k _ _ _ _ _ .cont .cont (Gs.refl _ _ _) F H .cont h)
theorem TZ {e o:ME} {x:Str} {t v:Expr} {q p:Pos} {γ g fr s σ E} {Qc:Flow→Shared→Prop} {Ec:Value→Shared→Prop} {R:V→V→St→Prop} (c2:dO v=true) (c3:g8 ns o t=true) (c4:g8 ns e v=true) (F:jz w hT wr env ns aac s₀ L γ g fr s) (H:HP aab w hT γ σ g)
  (h:qE (aB aab w n) e fr (fun v af=>qE (aB aab w n) o fr (fun u bh=>R v u bh) (E fr) af) (E fr) σ) (ke:yV aab w hT wr env aac ns s₀ L γ g E Ec)
  (k:∀ {gN g2 eg s2 v V u U},Go hT (env::aac) γ g s gN g2 s2→HP aab w hT gN eg g2→aq w gN v V→aq w gN u U→R V U eg→wpAny (model aab w) A (setAttr u x v) (fun O=>Qc .next) Ec s2):wpAny (model aab w) A (exec (.Assign [.Attribute t x q] v p) env) Qc Ec s:=
 ny (cQ B.X B.hu e B.N c4 F H h (fun aj g' af s' v V G H' hv h'=>cQ B.X B.hu o B.N c3 (B.N.go F G) H' h' (fun gN g2 eg s2 u U G2 H2 hu h2=>k (G.trans G2) H2 (hv.up G2.le) hu h2) ((ke.ke B F).at G)) (ke.ke B F)) (ee c2)
theorem T5 (d:Bool) (o e:ME):rz aab w n A hT wr env aac ns s₀ L (.D6 d o e):=fun {γ g fr s σ st K E Qc Ec} ck F H h k ke=>eI ck fun t v p ck=>jk (P:=fun t=>wpAny (model aab w) A (exec (.Assign [t] v p) env) Qc Ec s) ck fun a x q ck=>by
 rw [eq_of_beq (ae ck)]
 exact TZ B (ae (aa ck)) (ae (aa (aa ck))) (aa (aa (aa ck))) F H h ke fun G H2 hv hu h2=>hu.oCell h2 fun i q hq h2=>hv.FX h2 fun a ha h2=>CN h2 fun ab hc h2=>Tt d B.X.T G.at_ H2 hq ha hc fun s3 g3 G3 H3=>k _ _ _ _ _ .next .next (G.trans G3).gs (B.N.go F (G.trans G3)) H3 .next h2
theorem Ua (kk:Nat) (o e:ME):rz aab w n A hT wr env aac ns s₀ L (.zY kk o e):=fun {γ g fr s σ st K E Qc Ec} ck F H h k ke=>eI ck fun t v p ck=>jk (P:=fun t=>wpAny (model aab w) A (exec (.Assign [t] v p) env) Qc Ec s) ck fun a x q ck=>by
 rw [eq_of_beq (ae ck)]
 exact TZ B (ae (aa ck)) (ae (aa (aa ck))) (aa (aa (aa ck))) F H h ke fun G H2 hv hu h2=>hu.oTk h2 fun i d x ha hf h2=>Ku h2 fun t hb h2=>hv.Xy h2 fun a t' hv ht h2=>TF B.X.T G.at_ H2 ha hf hv hb ht fun s3 g3 G3 H3=>k _ _ _ _ _ .next .next (G.trans G3).gs (B.N.go F (G.trans G3)) H3 .next h2
theorem T8 {e o i:ME} {t x v:Expr} {q p:Pos} {γ g fr s σ E} {Qc:Flow→Shared→Prop} {Ec:Value→Shared→Prop} {R:V→V→V→St→Prop} (c1:dO v=true) (c2:g8 ns o t=true) (c3:g8 ns i x=true) (c4:g8 ns e v=true) (F:jz w hT wr env ns aac s₀ L γ g fr s) (H:HP aab w hT γ σ g)
  (h:qE (aB aab w n) e fr (fun v af=>qE (aB aab w n) o fr (fun u eg=>qE (aB aab w n) i fr (fun x k6=>R v u x k6) (E fr) eg) (E fr) af) (E fr) σ) (ke:yV aab w hT wr env aac ns s₀ L γ g E Ec)
  (k:∀ {gN g2 eg s2 v V u U y Y},Go hT (env::aac) γ g s gN g2 s2→HP aab w hT gN eg g2→aq w gN v V→aq w gN u U→aq w gN y Y→R V U Y eg→wpAny (model aab w) A (setItem u y v) (fun O=>Qc .next) Ec s2):wpAny (model aab w) A (exec (.Assign [.Subscript t x q] v p) env) Qc Ec s:=
 wpAny_Assign_Subscript (cQ B.X B.hu e B.N c4 F H h (fun aj g' af s' v V G H' hv h'=>cQ B.X B.hu o B.N c2 (B.N.go F G) H' h' (fun gN g2 eg s2 u U G2 H2 hu h2=>
  cQ B.X B.hu i B.N c3 (B.N.go F (G.trans G2)) H2 h2 (fun LK g3 k6 s3 y Y G3 H3 hy h3=>k ((G.trans G2).trans G3) H3 ((hv.up G2.le).up G3.le) (hu.up G3.le) hy h3) ((ke.ke B F).at (G.trans G2))) ((ke.ke B F).at G)) (ke.ke B F)) (ee c1)
theorem T7 (o i e:ME):rz aab w n A hT wr env aac ns s₀ L (.D7 o i e):=fun {γ g fr s σ st K E Qc Ec} ck F H h k ke=>eI ck fun t v p ck=>qA (P:=fun t=>wpAny (model aab w) A (exec (.Assign [t] v p) env) Qc Ec s) ck fun a x q O ck=>
 T8 B (ae ck) (ae (aa ck)) (ae (aa (aa ck))) (aa (aa (aa ck))) F H h ke fun G H2 hv hu hy h2=>hu.iS h2 fun i a ha h2=>hy.b7 h2 fun m t h2=>xR h2 fun ls hb hz q=>
  Tv G.at_ H2 ha hb (dD q).1 (dD q).2 hz hv fun s4 g4 G4 H4=>k _ _ _ _ _ .next .next (G.trans G4).gs (B.N.go F (G.trans G4)) H4 .next (eO q)
theorem T6 (o i e:ME):rz aab w n A hT wr env aac ns s₀ L (.Oj o i e):=fun {γ g fr s σ st K E Qc Ec} ck F H h k ke=>eI ck fun t v p ck=>qA (P:=fun t=>wpAny (model aab w) A (exec (.Assign [t] v p) env) Qc Ec s) ck fun a x q O ck=>
 T8 B (ae ck) (ae (aa ck)) (ae (aa (aa ck))) (aa (aa (aa ck))) F H h ke fun G H2 hv hu hy h2=>hu.iS h2 fun i a ha h2=>hy.b7 h2 fun m t h2=>RO h2 fun ls hb hz q=>
  Tu G.at_ H2 ha hb (dD q) hz hv fun s4 g4 G4 H4=>k _ _ _ _ _ .next .next (G.trans G4).gs (B.N.go F (G.trans G4)) H4 .next (eO q)
theorem YO (ha:SB aab w n A hT wr env aac ns s₀ L a) (hb:SB aab w n A hT wr env aac ns s₀ L b):rz aab w n A hT wr env aac ns s₀ L (.ifs c a b):=fun {γ g fr s σ st K E Qc Ec} ck F H h k ke=>Hq ck fun x y z p ck=>
 Y0 (vW B.X B.hu c B.N (ae ck) F H h (fun aj g' af s' t G H' h'=>mr h' (fun h'=>ha (ae (aa ck)) (B.N.go F G) H' h' (k.trans G.gs) (ke.trans G.gs)) fun h'=>hb (aa (aa ck)) (B.N.go F G) H' h' (k.trans G.gs) (ke.trans G.gs)) (ke.ke B F))
theorem VH:SB aab w n A hT wr env aac ns s₀ L .nil:=fun {γ g fr s σ yj K E Qc Ec} ck F H h k ke=>by
 rw [fT.mp ck]
 exact yw (k _ _ _ _ _ .next .next (Gs.refl _ _ _) F H .next h)
theorem PN (hm:rz aab w n A hT wr env aac ns s₀ L m) (hr:SB aab w n A hT wr env aac ns s₀ L r):SB aab w n A hT wr env aac ns s₀ L (.cons m r):=fun {γ g fr s σ yj K E Qc Ec} ck F H h k ke=>by
 cases yj with
 | nil=>exact nomatch ck
 | cons st yj=>
  refine dg (hm (ae ck) F H h (fun aj g' d7 af s' fl Fl G F' H' hf h'=> ?_) ke)
  induction hf with
  | next=>exact hr (aa ck) F' H' h' (k.trans G) (ke.trans G)
  | cont=>exact k _ _ _ _ _ _ _ G F' H' .cont h'
  | brk=>exact k _ _ _ _ _ _ _ G F' H' .brk h'
  | ret hv=>exact k _ _ _ _ _ _ _ G F' H' (.ret hv) h'
theorem Ub (hb:SB aab w n A hT wr env aac ns s₀ L b):rz aab w n A hT wr env aac ns s₀ L (.ju c b):=fun {γ g fr s σ st K E Qc Ec} ck F H h k ke=>Hu ck fun x y p ck=>by
 refine b8 (PG h) fun Inv m h0 turn=> ?_
 refine wpAny_While (codeAny_whileLoop (fun m s'=>∃aj g' d7 af,Gs (eZ env) γ g aj g'∧jz w hT wr env ns aac s₀ L aj g' d7 s'∧HP aab w hT aj af g'∧Inv m d7 af) (fun m s' hI=> ?_) m ⟨γ,g,fr,σ,Gs.refl _ _ _,F,H,h0⟩)
 refine gK hI fun γ1 g1 fr1 rC G1 F1 H1 hI=> ?_
 have Z4:=(ke.loop B).trans G1
 refine vW B.X B.hu c B.N (ae ck) F1 H1 (turn m fr1 rC hI) (fun gN g2 eg s2 t G2 H2 h2=> ?_) (Z4.ke B F1)
 have Gt:=G1.trans G2.gs
 cases t with
 | true=>
  refine hb (aa ck) (B.N.go F1 G2) H2 h2 (fun LK g3 fr3 k6 s3 fl Fl G3 F3 H3 hf h3=> ?_) (Z4.trans G2.gs)
  induction hf with
  | next=>exact h3.imp fun m' h=>⟨h.1,_,_,_,_,Gt.trans G3,F3,H3,h.2⟩
  | cont=>exact h3.imp fun m' h=>⟨h.1,_,_,_,_,Gt.trans G3,F3,H3,h.2⟩
  | brk=>exact k _ _ _ _ _ .next .next (Gt.trans G3) F3 H3 .next h3
  | ret hv=>exact k _ _ _ _ _ _ _ (Gt.trans G3) F3 H3 (.ret hv) h3
 | false=>exact wpAny_execs_nil (k _ _ _ _ _ .next .next Gt (B.N.go F1 G2) H2 .next h2)
end
theorem AF (h:ns[i]?=some (y,kk)) (k:f y kk=true):Gl ns i f=true:=by unfold Gl;rw [h];exact k
def fD (ns:bJ) (wr:Bool) (is:List Nat) (xs:List Str):Prop:=∀(j:Nat) (a:Nat) (x:Str),is[j]?=some a→xs[j]?=some x→pd ns wr a x=true
theorem fD.cons (h:pd ns wr i x=true) (k:fD ns wr is xs):fD ns wr (i::is) (x::xs):=fun j a y ha hy=>by
 cases j with
 | zero=>exact cH ha▸cH hy▸h
 | succ j=>exact k j a y ha hy
theorem Jc {ns:bJ} {wr:Bool} {tg:List Nat}:∀ {xs:List Str},Ax ns tg xs→tg.length=xs.length∧fD ns wr tg xs:=by
 induction tg with
 | nil=>
  intro xs h
  cases xs with
  | nil=>exact ⟨rfl,fun j a x h=>nomatch h⟩
  | cons=>exact h.elim
 | cons i is ih=>
  intro xs h
  cases xs with
  | nil=>exact h.elim
  | cons x xs=>exact ⟨aD (· +1) (ih h.2).1,.cons (AF h.1 (by rw [iN];rfl)) (ih h.2).2⟩
noncomputable def Dr (es:List Expr):List Str:=es.map fun e=>(vw e).x
theorem zG {ns:bJ} {wr:Bool} {is:List Nat}:∀ {es:List Expr},DJ ns wr is es=true→is.length=es.length∧es.all aQ=true∧(∀e∈es,∃p,e= .Name (vw e).x p)∧fD ns wr is (Dr es):=by
 induction is with
 | nil=>exact fun {es} h=>fT.mp h▸⟨rfl,rfl,nofun,fun j a x h=>nomatch h⟩
 | cons i is ih=>
  intro es h
  cases es with
  | nil=>exact nomatch h
  | cons e es=>
   refine jW (ih (aa h)) fun a c d k=> ?_
   have he:e= .Name (vw e).x (vw e).p:=bj (ae (ae h))
   exact ⟨aD (· +1) a,by rw [List.all_cons,c,he];rfl,cc.mpr ⟨⟨_,he⟩,d⟩,.cons (aa (ae h)) k⟩
section
variable {M:Model} {A:Around} {env:Env} {s:Shared} {E:Value→Shared→Prop}
theorem y2 {Q:Shared→Prop} {es:List Expr}:∀ {vs:List Value} {s:Shared},(∀e∈es,∃p,e=Expr.Name (vw e).x p)→es.length=vs.length→uW M A env Q E (Dr es) vs s→wpAny M A (assignInOrder (es.map fun e=>assign e env) vs) (fun O=>Q) E s:=by
 induction es with
 | nil=>
  intro vs s _ hl h
  cases vs with
  | nil=>exact uU h
  | cons=>exact nomatch hl
 | cons e es ih=>
  intro vs s hn hl h
  cases vs with
  | nil=>exact nomatch hl
  | cons v vs=>
   have hn:=cc.mp hn
   obtain ⟨p,he⟩:=hn.1
   rw [dh,he]
   exact lE (mj (dW h (fun O s₁ aA=>ih hn.2 (lA hl) aA) fun O O x=>x))
theorem uX {Q:Shared→Prop} {xs:List Str}:∀ {vs:List Value} {s:Shared},xs.length=vs.length→uW M A env Q E xs vs s→wpAny M A (assignInOrder (xs.map fun n=>bindName env n) vs) (fun O=>Q) E s:=by
 induction xs with
 | nil=>
  intro vs s hl h
  cases vs with
  | nil=>exact uU h
  | cons=>exact nomatch hl
 | cons x xs ih=>
  intro vs s hl h
  cases vs with
  | nil=>exact nomatch hl
  | cons v vs=>exact lE (AG (dW h (fun O s₁ aA=>ih (lA hl) aA) fun O O x=>x))
end
structure FC where
 γ:Ga
 g:GH
 items:List (List V)
 G:St→Prop
 IS:Nat→Ga→GH→Prop
 T:List V→aO→(Fl→aO→St→Prop)→St→Prop
 K:Fl→aO→St→Prop
inductive LL (aab:Program) (w:World) (hT:Heap) (wr:Bool) (env:Env) (aac:List Env) (ns:bJ) (s₀:Shared) (L:Addr) (c:FC) (s':Shared):Nat→Prop
 | mk {aj g' d7 af j}:j≤c.items.length→Gs (eZ env) c.γ c.g aj g'→jz w hT wr env ns aac s₀ L aj g' d7 s'→HP aab w hT aj af g'→c.IS j aj g'→forL c.G c.T (c.items.drop j) d7 c.K af→LL aab w hT wr env aac ns s₀ L c s' (c.items.length - j)
section
variable {aab:Program} {w:World} {n:Nat} {A:Around} {hT:Heap} {wr:Bool} {env:Env} {aac:List Env} {ns:bJ} {s₀:Shared} {L:Addr} (B:Ac w hT A env aac ns L n)
include B
theorem YQ (is:List Nat) (e:ME):rz aab w n A hT wr env aac ns s₀ L (.LA is e):=fun {γ g fr s σ st K E Qc Ec} ck F H h k ke=>eI ck fun t v p ck=>fM (P:=fun t=>wpAny (model aab w) A (exec (.Assign [t] v p) env) Qc Ec s) ck fun ts m q ck=>by
 refine jW (zG (ae ck)) fun l1 pl hn hp=> ?_
 have l2:(Dr ts).length=ts.length:=cL _
 refine OI (cQ B.X B.hu e B.N (aa (aa (aa ck))) F H h (fun aj g' af s' v V G H' hv h'=>hv.iS h' fun i a ha h'=>Kw h' fun ls hb hq=> ?_) (ke.ke B F)) (by unfold swapsWithSole;exact ee (ae (aa ck))) (zD (ae (aa (aa ck))))
 refine fZ (H'.tup G.at_ ha hb) fun xs m e1 bx Lt=> ?_
 have hl:=l1.symm.trans ((eq_of_beq (dG hq)).trans bx.length.symm)
 refine PK B.X.hh Lt hl pl fun zl hk=> ?_
 have G2:=G.trans (Go.keeps (γ:=aj) (t:=s'.toks) G.at_ hk)
 exact y2 hn hl ((B.N.go F G2).DM B H' (l1.trans l2.symm) hp bx (l2.trans hl) fun g3 s3 G3 F3 H3 O=>k _ _ _ _ _ .next .next (G2.gs.trans G3) F3 H3 .next (dH hq))
theorem T4 {tg:List Nat} {it:MI} {b:MB} (hb:SB aab w n A hT wr env aac ns s₀ L b):rz aab w n A hT wr env aac ns s₀ L (.n5 tg it b):=fun {γ g fr s σ st K E Qc Ec} ck F H h k ke=>Hp ck fun t i y p ck=>by
 have c1:=ae ck
 have c2:=ae (aa ck)
 have c3:=f3 (ae (aa (aa ck)))
 have ck:=aa (aa (aa ck))
 refine iL (yl c1) fun xs Rk Po Pd=> ?_
 obtain ⟨l1,hp⟩:=Jc (wr:=wr) Po
 refine wpAny_For (Et B.X B.hu it B.N (ae ck) F H h (ke.ke B F) fun γ1 g1 rC s1 items G I itv IS G1 H1 IT UQ bI hk=> ?_) (fun x=>jQ c2 x)
 -- scratch is no cell of ours
 have UR:∀b∈I,b∉eZ env:=fun b hbI hm=>(B.cin b hm).elim fun i h=>h.elim fun x h=>(id F).elim fun vs Fs=>(Fs.2.cell h.1).elim fun v z=>z.1.elim fun ca z=>z.elim fun o z=>nomatch (bI b hbI).symm.trans ((aD g (cH (h.2.symm.trans z.1))).trans z.2.1)
 refine codeAny_forLoop_any (fun m s'=>LL aab w hT wr env aac ns s₀ L ⟨γ,g,items,G,IS,fun x d7 K' af=>qB (aB aab w n) b (dJ d7 tg x) K' E af,K⟩ s' m) (fun m s' hI=> ?_) (items.length - 0) (.mk (et _) G1.gs (B.N.go F G1) H1 UQ hk)
 induction hI with
 | @mk gN g2 fr2 eg j hj G2 F2 H2 Pw hL=>
 have hG:G eg:=by
  dsimp only at hL
  cases hd:items.drop j with
  | nil=>rw [hd] at hL;exact hL.1
  | cons=>rw [hd] at hL;exact hL.1
 have IB:∀b∈I,∃o,g2 b=some o∧Jv o:=fun b hb=>(IT.IB Pw b hb).2
 refine dW (IT.next (env:=env) (Qe:=fun s₁=>wpAny (model aab w) A (execs [] env) (fun f bP=>Qc f bP) (rH (model aab w) A env Ec) s₁)
  (Qa:=fun aG=>wpAny (model aab w) A (execs y env) (PD A (model aab w) (fun m s'=>LL aab w hT wr env aac ns s₀ L ⟨γ,g,items,G,IS,fun x d7 K' af=>qB (aB aab w n) b (dJ d7 tg x) K' E af,K⟩ s' m) (items.length - j) Qc) (rH (model aab w) A env Ec) aG)
  (Ec:=rH (model aab w) A env Ec) Rk (Pd.trans c3) (B.N.at_ F2) H2 hG Pw hj (fun Vs vs g3 s3 hit S3 B3 H3 O3 IS3 dR Rl=> ?_) (fun g3 s3 hje S3 B3 H3 O3=> ?_)) (fun r s₁ aA=> ?_) fun O O x=>x
 ·have cu:j<items.length:=(bl.mp hit).1
  dsimp only at hL
  rw [wH cu,(bl.mp hit).2] at hL
  have G3:=G2.off O3 bI UR
  refine (B.N.off F2 IB S3 B3 O3).DM B H3 l1 hp dR (Pd.trans (c3.trans Rl.symm)) fun g4 s4 G4 F4 H4 o4=> ?_
  have IS4:=IT.keep IS3 (Ga.Le.refl _) (fun b hb o nb e=>⟨nb,(o4 b (UR b hb)).trans e⟩) fun b hb h O O=>h
  refine hb (aa ck) F4 H4 hL.2 (fun γ5 g5 fr5 Vm s5 fl Fl G5 F5 H5 hf h5=> ?_) ((ke.loop B).trans (G3.trans G4))
  have Gt:=(G3.trans G4).trans G5
  have Zb:=IT.keep IS4 G5.le (fun b hb o nb e=>G5.tr b o nb (UR b hb) e) fun b hb hz hn nf=>G5.fk b nf hn hz
  induction hf with
  | next=>exact ⟨_,Fw cu (iO j),.mk cu Gt F5 H5 Zb h5⟩
  | cont=>exact ⟨_,Fw cu (iO j),.mk cu Gt F5 H5 Zb h5⟩
  | brk=>exact k _ _ _ _ _ .next .next Gt F5 H5 .next h5
  | ret hv=>exact k _ _ _ _ _ _ _ Gt F5 H5 (.ret hv) h5
 ·dsimp only at hL
  rw [Fq (bT hje.symm)] at hL
  exact wpAny_execs_nil (k _ _ _ _ _ .next .next (G2.off O3 bI UR) (B.N.off F2 IB S3 B3 O3) H3 .next hL.2)
 ·cases r with
  | none=>exact aA
  | some v=>exact dW aA (fun O aG cE=>dW cE (fun O bP ji=>dW ji (fun f jV MX=>by cases f <;> exact MX) fun O O x=>x) fun O O x=>x) fun O O x=>x
end
theorem U0 (h:(!b)=true):(if b=true then x else y)=y:=aW (by cases b;exact rx;cases h)
theorem noStar {es:List Expr} (h:es.all aQ=true):(es.any fun e=>match e with | .Starred .. =>true | _=>false)≠true:=fun hx=>by
 refine bc (ui.mp hx) fun e he hx=> ?_
 have:=iQ.mp h e he
 have q:∀e,aQ e= !(match e with | .Starred .. =>true | _=>false):=fun e=>by cases e <;> rfl
 exact rx ((aD (!·) hx).symm.trans ((q e).symm.trans this))
theorem vY {ns:bJ} {env:Env} {ts es:List Expr} {k k':Nat} {p p':Pos} (en:pG env ns) (h:I5 ns ts es=true):swappedStores [.Tuple ts k p] (.Tuple es k' p') env=pure (some (du ns ts)):=by
 have hb:env.blockKind= .function:=by unfold Env.blockKind;rw [en.kind];rfl
 have hk:env.kindOf=fun x=>ns.lookup x:=funext en.km
 have hn:du ns ts=_:=aD (ts.filterMap ·) (funext (g:=fun | .Name id pos=>if ns.lookup id == some .local && pos.line == ((ts.head?.map (·.pos.line)).getD 0) then some id else none | _=>none) fun e=>by cases e <;> rfl)
 unfold I5 at h
 rw [hn] at h ⊢
 unfold swappedStores
 rw [hb,hk]
 exact (U0 ((aD (!·) (Bool.or_false _)).trans (ae h))).trans <| (aW (noStar (ae (aa h)))).trans <| (U0 (ae (aa (aa h)))).trans <| (U0 (ae (aa (aa (aa h))))).trans <| U0 (aa (aa (aa (aa h))))
theorem zF {ns:bJ} {wr:Bool} {is:List Nat}:∀ {xs:List Str},DH ns is xs=true→is.length=xs.length∧fD ns wr is xs:=by
 induction is with
 | nil=>exact fun {xs} h=>fT.mp h▸⟨rfl,fun j a x h=>nomatch h⟩
 | cons i is ih=>
  intro xs h
  cases xs with
  | nil=>exact nomatch h
  | cons x xs=>exact ⟨aD (· +1) (ih (aa h)).1,.cons (AF (f3 (ae h)) (by rw [iN];rfl)) (ih (aa h)).2⟩
theorem fD.rev {ns:bJ} {wr:Bool} {is:List Nat} {xs:List Str} (h:fD ns wr is xs) (l:is.length=xs.length):fD ns wr is.reverse xs.reverse:=fun j a x ha hx=>by
 have hj:j<is.length:=j7 (as:=is)▸(bl.mp ha).1
 rw [List.getElem?_reverse hj] at ha
 rw [List.getElem?_reverse (l▸hj),←l] at hx
 exact h _ a x ha hx
theorem EE {ns:bJ} {ts es:List Expr} (h:I5 ns ts es=true):(du ns ts).length≤sizeLine:=by
 have h1:=ae h
 have e:(ts.length == 2 || ts.length == 3)=true:=by
  cases q:(ts.length == 2 || ts.length == 3) with
  | true=>rfl
  | false=>rw [q] at h1;exact nomatch h1
 rw [gM]
 exact aN (List.length_filterMap_le _ ts) (iD e (fun q=>eq_of_beq q▸by decide) fun q=>eq_of_beq q▸by decide)
section
variable {w:World} {hT:Heap} {wr:Bool} {γ:Ga} {g g':GH} {env:Env} {ns:bJ} {vs:List (Option Value)} {fr:aO}
theorem Sl.apart (h:Sl w hT wr γ g env ns vs fr) (k:∀ca o v,g ca=some o→o.data= .cell v→g' ca=some o):Sl w hT wr γ g' env ns vs fr:=by
 induction h with
 | nil=>exact .nil
 | loc a _ ih=>exact .loc a ih
 | gg hk a b _ ih=>obtain ⟨ca,o,e1,e2,e3,r⟩:=a;exact .gg hk ⟨ca,o,e1,k _ _ _ e2 e3,e3,r⟩ b ih
 | lr _ ih=>exact .lr ih
end
section
variable {aab:Program} {w:World} {n:Nat} {A:Around} {hT:Heap} {wr:Bool} {env:Env} {aac:List Env} {ns:bJ} {s₀:Shared} {L:Addr} {γ:Ga} {g:GH} {fr:aO} {s:Shared} (B:Ac w hT A env aac ns L n)
include B
theorem jz.cells (F:jz w hT wr env ns aac s₀ L γ g fr s):∀b,g b=none→b∉eZ env:=fun b e hm=>(B.cin b hm).elim fun i h=>h.elim fun x h=>F.elim fun vs Fs=>(Fs.2.cell h.1).elim fun v z=>z.1.elim fun ca z=>z.elim fun o z=>nomatch e.symm.trans ((aD g (cH (h.2.symm.trans z.1))).trans z.2.1)
theorem Ot (m:gr):uR aab w n A hT (env::aac) m:=by
 cases m with
 | nil=>exact trivial
 | cons e _=>exact vW B.X B.hu e
theorem y1 {i:Nat} {x:Str} {p q pos:Pos} {fv:List (Option Nat)} {tg:List Nat} {elt:ME} {mi:MI} {cond:gr} {el t it:Expr} {f:List Expr} {sc:Scope} {σ:St} {K:Fl→aO→St→Prop} {E:aO→St→Prop} {Qc:Flow→Shared→Prop} {Ec:Value→Shared→Prop} (c1:ns[i]?=some (x,.local)) (c2:rg ns (.Name x p) (.ListComp el [⟨t,it,f,0⟩] sc pos)=true)
  (ck:(gC sc && (iz ns (aX ns sc) fv && (EG (aX ns sc) tg t && (qW it && (decide (f.length≤1) && (decide (tg.length=mR mi) && (UJ ns mi it && (g8 (aX ns sc) elt el && jD (aX ns sc) cond f))))))))=true) (F:jz w hT wr env ns aac s₀ L γ g fr s) (H:HP aab w hT γ σ g)
  (h:qE (aB aab w n) (.comp fv tg elt mi cond) fr (fun v af=>K .next (m4 fr i v) af) (E fr) σ) (k:OT aab w hT wr env aac ns s₀ L γ g K Qc) (ke:yV aab w hT wr env aac ns s₀ L γ g E Ec):wpAny (model aab w) A (exec (.Assign [.Name x p] (.ListComp el [⟨t,it,f,0⟩] sc pos) q) env) Qc Ec s:=by
 have d1:=ae ck
 have d2:=ae (aa ck)
 have d3:=ae (aa (aa ck))
 have ck:=aa (aa (aa ck))
 have d4:=ae ck
 have d5:=f3 (ae (aa ck))
 have d6:=f3 (ae (aa (aa ck)))
 have ck:=aa (aa (aa ck))
 have ok:=bM (ae d1)
 have hsw:swapsWith (.ListComp el [⟨t,it,f,0⟩] sc pos) (some (.Name x p)) q.line env=pure true:=by
  have hb:env.blockKind= .function:=by unfold Env.blockKind;rw [(B.N (wr:=wr) (s₀:=s₀)).en.kind];rfl
  unfold swapsWith
  show (pure (env.blockKind == .function && env.kindOf x == some .local && p.line == pos.line && !(sc.names.any fun (n,k)=>n == x && (k == .local || k == .cell))):Sem Bool)=_
  rw [hb,(B.N (wr:=wr) (s₀:=s₀)).en.km,show (ns.lookup x == some .local)=true from ae (aa (aa c2)),show (!(sc.names.any fun (n,k)=>n == x && (k == .local || k == .cell)))=true from aa (aa (aa c2)),show p.line=pos.line from f3 (ae (aa c2)),iN pos.line]
  rfl
 have cell:=F.cells B
 have hh:=oO (pos:=pos) (RR:=fun acc C=>compPost (model aab w) A Ec (some (assign (.Name x p) env)) (fun O s'=>Qc .next s') acc C) B.X (Et B.X B.hu mi) (cQ B.X B.hu elt) (Ot B cond) B.N F H d1 d2 d3 d5 d6 (ae ck) (ae (aa ck)) (aa (aa ck)) h (ke.ke B F) fun aj g' af s' D C j G' H' hv hq hC b0=>by
  obtain ⟨⟨o,mm,e,ho,hi⟩,nf,nT,nz⟩:=hC
  have Cc:=cell C b0
  refine mj ((B.N.go F G').put B H' (AF c1 (by rw [iN];rfl)) hv fun g2 s2 G2 F2 H2 o2=> ?_)
  have e2:g2 C=some o:=(o2 C Cc).trans e
  have S2:=B.N.at_ F2
  refine ⟨mm,ho.ns (S2.a5 _ _ e2),fun h' hs=> ?_⟩
  obtain ⟨S3,K3⟩:=S2.out e2 nT hs.extBut
  have B3:Bk (env::aac) s2 {s2 with heap:=h' }:=⟨K3,⟨rfl,rfl,rfl⟩⟩
  refine bc F2 fun ws Fs sl=> ?_;clear F2
  exact k aj (g2.hide C) _ af {s2 with heap:=h' } .next .next ((G'.gs.trans G2).off (I:=[C]) (Off.hide _ _).Dy (fun b hb=>dX.mp hb▸b0) (fun b hb=>dX.mp hb▸Cc))
   ⟨ws,Fs.back S3 B3,sl.apart fun ca oc vv ec dc=>Off.hide _ _ ca oc (fun q=>ho.elim fun es z=>z.elim fun ep z=>nomatch (aD Obj.data (cH ((q▸ec).symm.trans e2))).symm.trans dc |>.symm.trans z.1) ec⟩ (H2.apart (I:=[C]) (fun b hb=>dX.mp hb▸⟨nf,nz,o,e2,hi⟩) fun b hb=>aW fun q:b=C=>hb (q▸.head _)) .next hq
 rw [exec_Assign_Name_used _ _ _ _ hsw]
 refine aJ (rq (aJ ?_))
 show wpAny _ A (do let _ ←comprehension (.ListComp el [⟨t,it,f,0⟩] sc pos) sc env _ (newList []) false (eval it env) (some (assign (.Name x p) env))) _ _ s
 exact aJ (dW (OS (use:=some (assign (.Name x p) env)) (Q:=fun O s'=>Qc .next s') rfl (fun x=>jQ d4 x) hh.1 ok.kind (fun x hx hl=>aZ ok.nd (by rw [←hl];exact hx)) hh.2) (fun O s' hq=>bR (bR hq)) fun O O e=>e)
theorem TY (is:List Nat) (es:gr):rz aab w n A hT wr env aac ns s₀ L (.pK is es):=fun {γ g fr s σ st K E Qc Ec} ck F H h k ke=>eI ck fun t v p ck=>fM (P:=fun t=>wpAny (model aab w) A (exec (.Assign [t] v p) env) Qc Ec s) ck fun ts kk q ck=>
 fM (P:=fun v=>wpAny (model aab w) A (exec (.Assign [.Tuple ts kk q] v p) env) Qc Ec s) ck fun vs kk' q' ck=>by
 have c1:=ae ck
 obtain ⟨l1,hp⟩:=zF (wr:=wr) (ae (aa ck))
 refine Assign_Tuple_swapped (names:=du ns ts) (lH (ae (aa c1)) (IM B.X B.hu es B.N (aa (aa ck)) F H h (ke.ke B F) _ fun aj g' af s' xs Xs G H' bx h'=> ?_)) rfl (vY (B.N (wr:=wr) (s₀:=s₀)).en c1)
 have nl:(du ns ts).length=xs.length:=l1.symm.trans ((eq_of_beq (dG h')).trans bx.length.symm)
 refine jW (Go.tA (t:=s'.toks) G.at_ H' (dz xs 0) rfl) fun G2 H2 O O=> ?_
 refine nB ?_ (by show xs.toArray.size≤sizeLine;rw [iR,←nl];exact EE c1)
 rw [nl,←iR]
 refine unpackItems_tuple (s:={ s' with heap:=s'.heap.push (dz xs 0)}) B.X.hh ⟨_,nH _ rfl,rfl,0,rfl⟩ fun zl he=> ?_
 have G3:=(G.trans G2).trans (Go.keeps (t:=s'.toks) G2.at_ fun b o e=>he b o (eR (cA e)) e)
 refine uX (by rw [j7,j7,nl]) ?_
 exact (B.N.go F G3).DM (is:=is.reverse) (xs:=(du ns ts).reverse) B H2 (by rw [j7,j7,l1]) (hp.rev l1) bx.rev (by rw [j7,j7,nl]) fun g4 s4 G4 F4 H4 O=>k _ _ _ _ _ .next .next (G3.gs.trans G4) F4 H4 .next (dH h')
theorem TX (i:Nat) (m:ME):rz aab w n A hT wr env aac ns s₀ L (.uV i m):=fun {γ g fr s σ st K E Qc Ec} ck F H h k ke=>eI ck fun t v q ck=>bB (P:=fun t=>rg ns t v=true→wpAny (model aab w) A (exec (.Assign [t] v q) env) Qc Ec s) (ae ck) (fun x p c1 c2=>by
 have c1:=f3 c1
 have c3:=ae (aa (aa ck))
 cases m with
 | comp fv tg elt mi cond=>exact mP (P:=fun v=>rg ns (.Name x p) v=true→wpAny (model aab w) A (exec (.Assign [.Name x p] v q) env) Qc Ec s) (aa (aa (aa ck))) (fun el t it f sc pos ck c2=>y1 B c1 c2 ck F H h k ke) c2
 | _=>exact nomatch c3) (ae (aa ck))
end
section
variable {aab:Program} {w:World} {n:Nat} {A:Around} {hT:Heap} {wr:Bool} {env:Env} {aac:List Env} {ns:bJ} {s₀:Shared} {L:Addr} {γ:Ga} {g:GH} {fr:aO} {s:Shared} {R:Result→Shared→Prop}
theorem EU (X:Cx w hT A aac 5) (S:At hT aac g s.heap)
  (k:∀s' g' e da t,rL hT w.params g g' e (.str "wrong-type-argument" t) da→At hT aac g' s'.heap→Bk aac s s'→R (.ok (.ret (.ref e))) s') :
  codeAny (model aab w) A (.call (.ref 228) ⟨[nm,v],[]⟩) R s:=by
 refine qk X (m:=4) (bz _) (wM w).pf S rfl fun env L s₁ hE X F=> ?_
 dsimp only [wM,dh,List.map_nil,Ft,yI,List.replicate,Fu,ur] at F ⊢
 refine dg (pq (qj (by rfl) (gl F X.T ip (.tail _ (.tail _ (.head _))) (bp (V6 F fun t aG iU=>bp (vd (by rfl) (bp (ld iU .head (bp (ld iU (.tail .head) (mJ (So iU (by show 2≤sizeLine;decide) fun l bP hl Ar=>mJ ⟨kK oa Ar X.T,?_⟩))))))))))))
 refine sJ (IH (X.le (by decide)) Ar.S fun s' g' e G S' B=>Bv ?_)
 refine tM (E3 (Ar.back S' B) rfl fun a b=>k _ g' e (.ref l) t ⟨(GH.bS _ hl).trans G.le,(GH.bS _ hl).none G.new,G.nT,?_⟩ a b)
 refine gK G.ex fun t0 de t u h1 h2 h3 h4=> ?_
 exact ⟨t0,de,t,u,h1,h2,h3,(GH.bS _ hl).none h4⟩
theorem rL.gone (T:Tp (KK w) hT) (S1:At hT l g1 s1.heap) (Sg:rL hT w.params g1 g2 e2 sy da) (S2:At hT l g2 s2.heap) (B2:Bk l s1 s2) :
  GH.le g1 (g2.hide e2)∧Go hT l γ1 g1 s1 γ1 (g2.hide e2) s2:=by
 have vC:GH.le g1 (g2.hide e2):=fun b o q=>(aW fun z:b=e2=>nomatch (q.symm.trans (aD g1 z)).trans Sg.new).trans (Sg.le _ _ q)
 exact ⟨vC,⟨⟨fun b o q=>vC _ _ (S1.base _ _ q),fun b o q=>S2.a5 _ _ (He _ _ q),fun b hb=>Eq.trans (by unfold GH.hide;split;exact (S2.jx b hb).symm;rfl) (S2.jx b hb),S2.cO⟩,B2,Ga.Le.refl _,gb.of_le vC,kh.refl _ _⟩⟩
theorem I6 (B:Ac w hT A env aac ns L n) (i:Nat) (e:ME):rz aab w n A hT wr env aac ns s₀ L (.jT i e):=fun {γ g fr s σ st K E Qc Ec} ck F H h k ke=>Cs ck fun v p ck=>zw (P:=fun v=>wpAny (model aab w) A (exec (.Raise (some v) none p) env) Qc Ec s) ck fun p1 x kk q1 a r1 hg hp ck=>by
 have S:=B.N.at_ F
 refine x_raise (w:=w) B.X.hh (qj (show (aQ a && true)=true from hp.symm▸rfl) ((B.N (wr:=wr) (s₀:=s₀)).glob B.X.T S BS hg (bp (mI fun t t'=> ?_))))
 have G0:=Go.toks (γ:=γ) S t'
 refine bp (cQ B.X B.hu e B.N ck (B.N.go F G0) H h (fun γ1 g1 rC s1 v V G1 H1 Kc h1=>mJ ⟨RB CF (B.X.T.nL G1.at_.a8),?_⟩) ((ke.ke B F).at G0))
 refine sJ (EU (B.X.le (aN (by decide) B.rm)) G1.at_ fun s2 g2 e2 da t2 Sg S2 B2=>Bv ?_)
 obtain ⟨vC,G2⟩:=Sg.gone (γ1:=γ1) B.X.T G1.at_ S2 B2
 refine gK Sg.ex fun t0 de t1 u he n8 hd hdn=> ?_
 have Gt:=(G0.trans G1).trans G2
 exact ⟨e2,_,_,rfl,B.X.T.nL S2.a8,S2.a5 _ _ he,rfl,rfl,rfl,ke _ _ _ _ _ _ .raw t2 Gt.gs (B.N.go F Gt) (H1.mono vC) h1 ⟨bE rfl,_,_,de,da,t1,u,S2.a5 _ _ he,rfl,rfl,rfl,(aW hd).trans n8,rfl⟩ (by rintro _ ⟨⟩)⟩
end
section
variable {w:World} {aab:Program} {A:Around} {s:Shared} {E:Value→Shared→Prop} {e de:Addr} {oe:Obj}
theorem R0:findIn (KK w) (.ref 38) "__getattribute__"=some (some (.builtin "BaseException.__getattribute__")):=by kernel_rfl
theorem Ng:findIn (KK w) (.ref 38) "__getattr__"=some none:=by kernel_rfl
theorem tm:mroIn (KK w) 38 (.type "BaseException")=some true:=by kernel_rfl
theorem R1:hasDictIn (KK w) 38=true:=by kernel_rfl
theorem GW (X:(KK w).In s.heap) (he:s.heap.get? e=some oe) (hc:oe.cls= .ref 38) (hd:oe.dict=some de) (hf:oe.data= .fields vs) (hD:s.heap.get? de=some (q7 w.params sy da t u)) (hh:handedIn sy=true)
  (h:Q sy { s with toks:=s.toks+1 }):wpAny (model aab w) A (getAttr (.ref e) "symbol" ex) Q E s:=by
 have I:InstAt s.heap e oe 38 (some (q7 w.params sy da t u)):=⟨he,hc,by unfold notCls;rw [hf],by rw [hd];exact hD⟩
 have hl:lookIn "symbol" (q7 w.params sy da t u)=some (some sy):=by kernel_rfl
 have hfo:findObj (KK w) 38 (some (q7 w.params sy da t u)) "symbol"=some (.value sy):=findObj_own R1 (tw _ (.inl rfl)) rfl hl
 obtain ⟨hp,g,d,tk,os⟩:=s
 have L0:=I.type (M:=model aab w)
 have L1:=z6 (M:=model aab w) X R0
 have L2:=z6 (M:=model aab w) X Ng
 have L3:=looks_find (M:=model aab w) X I hfo
 have FB:=PySem.F.attr_ValueError
 unfold getAttr getAttrBy
 refine aJ (wpAny_mkText (hW (aJ (L0.at (aJ (L1.at ?_))))))
 have e1:(onTheHeap (Value.ref 38) && Value.builtin "BaseException.__getattribute__" == Value.builtin "object.__getattribute__")=false:=by
  rw [show (Value.builtin "BaseException.__getattribute__" == Value.builtin "object.__getattribute__")=false from by decide +kernel,Bool.and_false]
 dsimp only
 rw [e1]
 simp only [rv,ou]
 unfold getAttrByItsOwn hookBefore
 rw [bE (show onTheHeap (Value.ref 38)=true from rfl)]
 refine aJ (L2.at (aJ (wpAny_attempt (hW ?_))))
 unfold callGetattribute
 rw [show (ex && onTheHeap (Value.builtin "BaseException.__getattribute__"))=false from by cases ex <;> rfl]
 simp only [rv,ou]
 unfold boundAndCalled
 rw [FB.ga.bind]
 refine aJ (bR (wpAny_call (codeAny_call_builtin FB.ga.plain PySem.F.entry_bexc_ga ?_)))
 have hi:Looks (model aab w) hp (isInstance (.ref e) (.type "BaseException")) true:=L0.andThen (looks_mroIn X tm)
 refine @check_slot (model aab w) _ _ _ "BaseException.__getattribute__" "BaseException" "__getattribute__" (.ref e) [.str "symbol" tk] [] _ (by decide +kernel) (by decide +kernel) hi (PySem.F.args_bexc_ga _ _) ?_
 unfold Builtin.«object.__getattribute__»
 refine aJ (bR (aJ (bR (aJ (L0.at (aJ (L3.at (bR ?_))))))))
 show wpAny _ _ (handedOut sy) _ _ _
 rw [handedOut_of hh]
 exact bR h
theorem Mx (X:(KK w).In s.heap) (he:s.heap.get? e=some oe) (hc:oe.cls= .ref 38) (h:Q true s):wpAny (model aab w) A (excMatches (.ref e) (.ref 38)) Q E s:=by
 refine HX (w:=w) fun nm q N bs B0 sn sub ab col dd k0 k1 k2 k3 k5 hK=> ?_
 have hC:=X _ _ hK
 obtain ⟨oc,od,odt,rA⟩:=oe
 dsimp only at hc
 subst hc
 obtain ⟨hp,g,d,tk,os⟩:=s
 have Wk:(Value.ref 38::[Value.type "Exception",.type "BaseException",.type "object"]).contains (.type "BaseException")=true:=by decide
 have Wl:(Value.ref 38::[Value.type "Exception",.type "BaseException",.type "object"]).contains (.ref 38)=true:=by simp
 unfold excMatches
 refine aJ (wpAny_isInstance (T:= "type") (U:= "tuple") (b:=false) ⟨_,hC,rfl⟩ (by rw [isSubtype_type]; kernel_rfl) ?_)
 simp only [rv,ou]
 repeat (first | with_reducible refine wq he ?_ | with_reducible refine wq hC ?_ | (with_reducible refine OL hC ?_;first | rw [Wk] | rw [Wl]) | wp_step)
 exact h
end
section
variable {aab:Program} {w:World} {n:Nat} {A:Around} {hT:Heap} {wr:Bool} {env:Env} {aac:List Env} {ns:bJ} {s₀:Shared} {L:Addr} {γ aj:Ga} {g g':GH} {fr:aO} {s:Shared} {vs cR:List (Option Value)} {x:Str} {h₀:Heap} {M:Model}
theorem qH (hx:x≠y) (h:∀z,bF ns cR z=if z=x then u else bF ns vs z):∀z,bF ((y,k)::ns) (v::cR) z=if z=x then u else bF ((y,k)::ns) (v::vs) z:=fun z=>by
 show (if z=y then v else bF ns cR z)=if z=x then u else if z=y then v else bF ns vs z
 rw [h]
 by_cases hz:z=y
 ·rw [bE hz,bE hz,aW fun q=>hx (q.symm.trans hz)]
 ·rw [aW hz,aW hz]
theorem Sl.free (h:Sl w hT wr γ g env ns vs fr) (u:Option Value):∀ {i:Nat},ns[i]?=some (x,.local)→bq fr i=none→(ns.map (·.1)).Nodup→∃cR,(∀y,bF ns cR y=if y=x then u else bF ns vs y)∧Sl w hT wr γ g env ns cR fr:=by
 have ne:∀ {y:Str} {k:NameKind} {r:bJ} {i:Nat},(((y,k)::r).map (·.1)).Nodup→r[i]?=some (x,.local)→x≠y:=fun nd hi e=>(bV.mp nd).1 (e▸dC.mpr ⟨_,bL hi,rfl⟩)
 induction h with
 | nil=>exact fun hi=>nomatch hi
 | @loc y r v V vs fr a h ih=>
  intro i hi hf nd
  cases i with
  | zero=>
   have e:y=x:=aD Prod.fst (cH hi)
   have hf:V=none:=hf
   refine ⟨u::vs,fun z=> ?_,.loc (hf▸.none) h⟩
   show (if z=y then u else bF r vs z)=if z=x then u else if z=y then v else bF r vs z
   rw [e];split <;> rfl
  | succ i=>exact (ih hi hf (bV.mp nd).2).elim fun cR h=>⟨v::cR,qH (ne nd hi) h.1,.loc a h.2⟩
 | @gg y k r v v0 V vs fr hk a b h ih=>
  intro i hi hf nd
  cases i with
  | zero=>exact absurd (aD Prod.snd (cH hi)) (hk.elim (· ▸nofun) (· ▸nofun))
  | succ i=>exact (ih hi hf (bV.mp nd).2).elim fun cR h=>⟨v::cR,qH (ne nd hi) h.1,.gg hk a b h.2⟩
 | @lr y r v vs fr h ih=>
  intro i hi hf nd
  cases i with
  | zero=>exact nomatch hi
  | succ i=>exact (ih hi hf (bV.mp nd).2).elim fun cR h=>⟨v::cR,qH (ne nd hi) h.1,.lr h.2⟩
theorem NP (F:Fm hT env ns aac h₀ L vs g s.heap) (hm:(x,NameKind.local)∈ns)
  (h:∀h' t' u,(∀cR,(∀y,bF ns cR y=if y=x then u else bF ns vs y)→Fm hT env ns aac h₀ L cR g h')→Q () {s with heap:=h',toks:=t' }):wpAny M A (do bindName env x .none;unbindBehindTheSuite env x pos) Q E s:=by
 have hp:(env.scope.kind == .class || (env.scope.kind == .module && env.locals != env.globals))=false:=by rw [F.ok.sc.kind];rfl
 refine aJ (AG (Jq (F.kind hm) (m:=bF ns vs) (by rw [F.ok.lo];exact F.loc) (fun aA Rd kO=> ?_) hp))
 unfold unbindBehindTheSuite
 refine wpAny_onRaise (wpAny_unbindName_local (v:=.none) (F.kind hm) Rd (bE rfl) hp fun cE u J7 Ka=>h cE _ u fun cR hv=> ?_)
 rw [F.ok.lo] at J7 kO Ka
 refine iI F (kO.trans Ka) ?_
 have e:bF ns cR=fun y=>if y=x then u else if y=x then some Value.none else bF ns vs y:=funext fun y=>by
  rw [hv];split <;> rfl
 rw [e];exact J7
theorem GF {h:ExceptHandler} {f:Expr→Str→List Stmt→Bool} {P:ExceptHandler→Prop} (hh:JD h false f=true) (k:∀t n b p,f t n b=true→P (.ExceptHandler (some t) (some n) b p)):P h:=by
 cases h with
 | ExceptHandler t n b p=>cases t with
  | none=>exact nomatch hh
  | some t=>cases n with
   | none=>exact nomatch hh
   | some n=>exact k t n b p hh
@[elab_as_elim] theorem Ht {ns:bJ} {i:Nat} {st:Stmt} {f:Expr→Bool} {P:Stmt→Prop} (h:Km ns i st f=true)
  (k:∀v x p1 p2 sg p3 p4 p5 p6 p7 p8,fW sg (.str (sT 7))=true→Am ns "LispSignal"=true→ns[i]?=some (x,.local)→f v=true→P (.Try [.Return (some v) p1] [.ExceptHandler (some (.Name "LispSignal" p2)) (some x) [.Return (some (.List [sg,.Attribute (.Name x p3) "symbol" p4] p5)) p6] p7] [] [] p8)):P st:=
 (show st= .Try (sw st).a (sw st).hs [] [] (sw st).p from js (ae h)).symm▸gH (P:=fun a=>P (.Try a (sw st).hs [] [] (sw st).p)) (aa h) fun r h=>qz (P:=fun r=>P (.Try [r] (sw st).hs [] [] (sw st).p)) h fun v p1 h=>
  gH (P:=fun hs=>P (.Try _ hs [] [] _)) h fun hd h=>GF (P:=fun hd=>P (.Try _ [hd] [] [] _)) h fun t x b p7 h=>bB (P:=fun t=>P (.Try _ [.ExceptHandler (some t) (some x) b p7] [] [] _)) (ae h) fun y p2 hy=>(eq_of_beq hy).symm ▸
  gH (P:=fun b=>P (.Try _ [.ExceptHandler _ (some x) b p7] [] [] _)) (aa (aa (aa (aa h)))) fun r2 h2=>qz (P:=fun r2=>P (.Try _ [.ExceptHandler _ (some x) [r2] p7] [] [] _)) h2 fun l p6 h2=>xD (P:=fun l=>P (.Try _ [.ExceptHandler _ (some x) [.Return (some l) p6] p7] [] [] _)) h2 fun es p5 h2=>
  iK (P:=fun es=>P (.Try _ [.ExceptHandler _ (some x) [.Return (some (.List es p5)) p6] p7] [] [] _)) h2 fun q1 q2 r h2=>(fT.mp (ae h2)).symm▸jk (P:=fun q2=>P (.Try _ [.ExceptHandler _ (some x) [.Return (some (.List [q1,q2] p5)) p6] p7] [] [] _)) (aa (aa h2)) fun y z p4 h3=>(eq_of_beq (ae h3)).symm ▸
  bB (P:=fun y=>P (.Try _ [.ExceptHandler _ (some x) [.Return (some (.List [q1,.Attribute y "symbol" p4] p5)) p6] p7] [] [] _)) (aa h3) fun x' p3 hx=>(eq_of_beq hx).symm▸k v x p1 p2 q1 p3 p4 p5 p6 p7 _ (ae (aa h2)) (ae (aa h)) (f3 (ae (aa (aa h)))) (ae (aa (aa (aa h))))
theorem sT8:sT 8= "wrong-type-argument":=by kernel_rfl
theorem handled (hb:e≠byPass)
  (h:wpAny (model aab w) (A.mark (some e)) (eval t env) (fun c s₁=>wpAny (model aab w) (A.mark (some e)) (excMatches e c) (fun b' aG=>b'=true∧wpAny (model aab w) (A.mark (some e)) (setFlight e none) (fun O bP=>wpAny (model aab w) (A.mark (some e)) (storeName env x e) (fun O jV=>wpAny (model aab w) (A.mark (some e)) (execs (VJ::b) env)
   (fun f tS=>wpAny (model aab w) A (do bindName env x .none;unbindBehindTheSuite env x pos) (fun O Oz=>Q f Oz) E tS) (fun O O=>False) jV) (fun O O=>False) bP) (fun O O=>False) aG) (fun O O=>False) s₁) (fun O O=>False) s) :
  wpAny (model aab w) A (handleBy e env [.ExceptHandler (some t) (some x) (VJ::b) pos]) Q E s:=
 wpAny_handleBy_cons (codeAny_handlers_test (dW h (fun c s₁ h=>dW h (fun b aG h=>by
  cases h.1
  exact codeAny_handlers_suite_as (dW h.2 (fun O O h=>dW h (fun O O h=>dW h (fun O O h=>h) fun O O h=>h.elim) fun O O h=>h.elim) fun O O h=>h.elim)) fun O O h=>h.elim) fun O O h=>h.elim)) hb
noncomputable abbrev TK (tk t:Tok):Obj:=listOf [Value.str (sT 7) tk,.str "wrong-type-argument" t].toArray 0
theorem EK {a i:Nat} {sg:Expr} {p3 p4 p5 p6 p7:Pos} {t:Tok} {Q:Flow→Shared→Prop} {E:Value→Shared→Prop} (T:Tp (KK w) hT) (hg:fW sg (.str (sT 7))=true) (F:Fm hT env ns aac h₀ L vs g s.heap) (X:Ex w.params g a s.heap .fly (.str "wrong-type-argument" t)) (sl:Sl w hT wr γ g env ns vs fr) (hi:ns[i]?=some (x,.local)) (hf:bq fr i=none) (nd:(ns.map (·.1)).Nodup)
  (k:∀l h t' tk,g l=none→(l == sysModules)=false→(∃ER,Fm hT env ns aac h₀ L ER (g.set l (TK tk t)) h∧Sl w hT wr γ g env ns ER fr)→Q (.ret (.ref l)) {s with heap:=h,toks:=t' }) {A':Around} :
  wpAny (model aab w) A' (storeName env x (.ref a)) (fun O jV=>wpAny (model aab w) A' (execs [.Return (some (.List [sg,.Attribute (.Name x p3) "symbol" p4] p5)) p6] env)
   (fun f tS=>wpAny (model aab w) A (do bindName env x .none;unbindBehindTheSuite env x p7) (fun O Oz=>Q f Oz) E tS) (fun O O=>False) jV) (fun O O=>False) s:=by
 have hm:=bL hi
 refine X.k fun oe es de da t1 u Zy hc J4 hd n8 O=> ?_
 have Xd:=GH.bS (g:=g) oe X.ge
 have nfr:=jR F.at_.cO Zy hd
 have yT:Fm hT env ns aac h₀ L vs (g.set a oe) s.heap:=F.more Xd (fun b o q=>by
  by_cases hb:b=a
  ·rw [hb,GH.set_same] at q;exact hb▸q▸Zy
  ·rw [GH.au _ _ hb] at q;exact F.at_.a5 _ _ q) fun b hb=>(GH.au _ _ fun q:b=a=>nfr (q▸hb)).trans (F.at_.jx b hb)
 refine bc (sl.free (some (.ref a)) hi hf nd) fun YW Kc O=> ?_
 refine Jq (yT.kind hm) (m:=bF ns vs) (yT.ok.lo.symm▸yT.loc) (fun Cb J8 Kb=> ?_) (by rw [yT.ok.sc.kind];rfl)
 rw [yT.ok.lo] at J8 Kb
 have lT:Fm hT env ns aac h₀ L YW (g.set a oe) Cb:=iI yT Kb ((show bF ns YW=_ from funext Kc)▸J8)
 have hda:de≠a:=fun q=>nomatch (q▸n8).symm.trans X.ge
 refine dn (P:=fun sg=>wpAny (model aab w) A' (execs [.Return (some (.List [sg,.Attribute (.Name x p3) "symbol" p4] p5)) p6] env) _ _ _) hg fun kk pp=> ?_
 refine dg (pq (vd rfl (bp (mI fun tk1 tk2=>bp (Mq (t9 (Jp lT.ok.sc.kind (lT.kind hm) (m:=bF ns YW) (lT.ok.lo.symm▸lT.loc) (v:=.ref a) ((Kc x).trans (bE rfl)) ?_) (lT.uO hm)))))))
 refine GW (lT.X T) (lT.at_.a5 _ _ (GH.set_same _ _ _)) hc J4 hd (lT.at_.a5 _ _ ((GH.au _ _ hda).trans n8)) rfl (C9 (mJ ?_))
 refine nB ?_ (by size_fits)
 have n2:g Cb.objs.size=none:=Fd.mpr fun o q=>nomatch lT.fresh.symm.trans (Xd _ _ q)
 refine tM (NP (lT.push (TK tk1 t)) hm fun W8 YV u hF=>k _ _ _ tk1 n2 (e9 T lT.at_) ?_)
 refine bc (sl.free u hi hf nd) fun ER zu YF=>⟨ER,(hF ER fun y=>(zu y).trans ?_).less (fun b o q=> ?_) fun b o q=>GH.bS _ n2 _ _ (F.at_.base _ _ q),YF⟩
 ·rw [Kc];split <;> rfl
 ·by_cases hb:b=Cb.objs.size
  ·rw [hb,GH.set_same] at q ⊢;exact q
  ·rw [GH.au _ _ hb] at q ⊢;exact Xd _ _ q
theorem Jg {a i:Nat} {sg:Expr} {p2 p3 p4 p5 p6 p7:Pos} {t:Tok} {Q:Flow→Shared→Prop} {E:Value→Shared→Prop} {FR:Ga→GH→aO→Shared→Prop} (N:cZ w hT (env::aac) env ns FR) (X:Cx w hT A (env::aac) n) (hg:fW sg (.str (sT 7))=true) (hl:Am ns "LispSignal"=true) (F:Fm hT env ns aac h₀ L vs g s.heap) (Xe:Ex w.params g a s.heap .fly (.str "wrong-type-argument" t)) (sl:Sl w hT wr γ g env ns vs fr) (hi:ns[i]?=some (x,.local)) (hf:bq fr i=none) (nd:(ns.map (·.1)).Nodup)
  (k:∀l h t' tk,g l=none→(l == sysModules)=false→(∃ER,Fm hT env ns aac h₀ L ER (g.set l (TK tk t)) h∧Sl w hT wr γ g env ns ER fr)→Q (.ret (.ref l)) {s with heap:=h,toks:=t' }) :
  wpAny (model aab w) A (noteFrame (.ref a) env) (fun O aG=>wpAny (model aab w) A (setFlight (.ref a) none) (fun O bP=>wpAny (model aab w) A (handleBy (.ref a) env
   [.ExceptHandler (some (.Name "LispSignal" p2)) (some x) [.Return (some (.List [sg,.Attribute (.Name x p3) "symbol" p4] p5)) p6] p7]) Q E bP) E aG) E s:=
 note F X.fr Xe (fun O e=>nomatch e) fun aA rG yX=>qo (s:={s with heap:=aA}) rG yX nofun fun cE iU rO=>handled nofun (N.glob X.T iU.at_ ip hl (rO.k fun oe es de da t1 u he hc O O O O=>
  Mx (s:={s with heap:=cE}) (iU.X X.T) he hc ⟨rfl,qo (s:={s with heap:=cE}) iU rO nofun fun ji Ar VC=>EK (s:={s with heap:=ji}) X.T hg Ar VC sl hi hf nd k⟩))
theorem T9 (B:Ac w hT A env aac ns L n) (i:Nat) (e:ME):rz aab w n A hT wr env aac ns s₀ L (.Ul i e):=fun {γ g fr s σ st K E Qc Ec} ck F H h k ke=>Ht ck fun v x p1 p2 sg p3 p4 p5 p6 p7 p8 hs hg hi ck=>
 wpAny_Try_except (dg (pq (cQ B.X B.hu e (B.N (wr:=wr) (s₀:=s₀)) ck F H (eO h) (fun aj g' af s' v V G H' hv hq=>tM (k _ _ _ _ _ _ _ G.gs ((B.N (wr:=wr) (s₀:=s₀)).go F G) H' (.ret hv) hq)) fun aj g' af s2 x' s' G H' he er=>by
  refine Pq.k er.er fun a uP t vC S' kp Xe=> ?_
  have Gt:=G.trans ⟨S',⟨kp,er.same⟩,Ga.Le.refl _,gb.of_le vC,kh.refl _ _⟩
  have H2:=H'.mono vC
  refine bc ((B.N (wr:=wr) (s₀:=s₀)).go F Gt) fun vs Fs sl=>Jg (B.N (wr:=wr) (s₀:=s₀)) B.X hs hg Fs.f Xe sl hi (dD h) (B.ok.nm▸B.ok.sc.nd) fun l W8 YV tk n2 lo hF=>bc hF fun ER Vr YF=> ?_
  have tq:=gb.cw (o:=TK tk t) H2 n2
  have H3:=H2.cw (ob:=.lst [.str 7,.str 8]) (o:=TK tk t) n2 ⟨S'.og n2,lo⟩ (.lst (.cons (.str (by decide)) (.cons (sT8▸.str (by decide)) .nil)))
  refine k _ _ _ _ _ (.ret (.ref l)) (.ret (.ob af.objs.length)) (Gt.gs.trans ⟨aj.bf _,fun b o nb O q=>tq b o nb q,fun O O O h=>h,fun b O q nb=> ?_⟩) ⟨ER,⟨Vr,Fs.same.trans ⟨rfl,rfl,rfl⟩⟩,YF.up (aj.bf _) tq fun O O O O h=>h⟩ H3 (.ret (.ob ?_)) (jS he _ _ f6.mk')
  ·cases q':uP b with
   | none=>exact absurd q' q
   | some o=>exact ⟨fun q=>(nomatch (tq b o nb q').2.symm.trans q),(tq b o nb q').1⟩
  ·exact H'.len▸nD)))
end
end Mine
end
section
open PySem PySem.W
namespace Mine
noncomputable section
def cI (Q:PV) (fl:Fl) (fr:aO) (σ:St):Prop:=match fl with
 | .ret v=>Q v σ
 | .next=>Q .none σ
 | _=>False
@[reducible] noncomputable def Zp (vs:List V) (n:Nat):aO:=vs.map some++List.replicate n none
@[reducible] noncomputable def UO (l:List (Option Nat)) (vs:List V):aO:=l.map fun o=>o.bind fun i=>vs[i]?
@[irreducible] noncomputable def longest:Int:=1048576
@[irreducible] noncomputable def jO:Int:=8388608
structure Df where
 np:Nat
 nr:Nat
 mb:MB
structure Dc where
 np:Nat
 fr:List (Option Nat)
 mb:MB
section
local macro_rules | `(#[]) => `(.nil) | `(#[$x]) => `(.cons $x .nil) | `(#[$x, $xs,*]) => `(.cons $x #[$xs,*])
noncomputable def jA:MB:= #[.asg 2 (.loc 1),.n5 [3] (.Iv (.op .sub #[.op .len #[.loc 0],.k (.num 1)]) (.op .neg #[.k (.num 1)]) (.op .neg #[.k (.num 1)])) #[.asg 2 (.op .call #[.g (.fn 82),.op .aw #[.loc 0,.loc 3],.loc 2])],.ret (.loc 2)]
noncomputable def jb:MB:= #[.asg 1 (.op .lst #[]),.asg 2 (.loc 0),.asg 3 (.loc 0),.ju (.op .lu #[.loc 2,.g (.fn 82)]) #[.exp (.gG .app (.loc 1) #[.op .nJ #[.loc 2]]),.asg 2 (.op .fC #[.loc 2]),.ifs (.op .JT #[.op .mod #[.op .len #[.loc 1],.k (.num 2)],.k (.num 0)]) #[.asg 3 (.op .fC #[.loc 3]),.ifs (.op .isA #[.loc 2,.loc 3]) #[.dead] #[]] #[]],.ret (.op .tup #[.loc 1,.loc 2])]
noncomputable def lX:MB:= #[.LA [1,2] (.op .call #[.g (.fn 200),.loc 0]),.ret (.jK (.op .isA #[.loc 2,.g (.av #[])]) (.loc 1) (.k .none))]
noncomputable def lW:MB:= #[.ret (.and (.op .isInt #[.loc 0]) (.not (.op .isBool #[.loc 0])))]
noncomputable def oE:MB:= #[.ret (.or (.op .isA #[.loc 0,.g (.av #[])]) (.op .lu #[.loc 0,.g (.fn 82)]))]
noncomputable def kF:MB:= #[.ifs (.not (.op .call #[.g (.fn 221),.loc 0])) #[.jT 0 (.loc 0)] #[],.ret (.loc 0)]
noncomputable def kE:MB:= #[.ifs (.not (.op .lu #[.loc 0,.g (.fn 82)])) #[.jT 0 (.loc 0)] #[],.ret (.loc 0)]
noncomputable def i9:MB:= #[.ifs (.not (.op .call #[.g (.fn 214),.loc 0])) #[.dead] #[],.ret (.loc 0)]
noncomputable def kG:MB:= #[.exp (.op .call #[.g (.fn 235),.loc 0]),.LA [1,2] (.op .call #[.g (.fn 200),.loc 0]),.ifs (.op .uS #[.loc 2,.k .none]) #[.dead] #[],.ifs (.op .isnA #[.loc 2,.g (.av #[])]) #[.jT 0 (.loc 2)] #[],.ret (.loc 1)]
noncomputable def rJ:MB:= #[.ret (.jK (.op .lu #[.loc 0,.g (.fn 82)]) (.op .nJ #[.op .call #[.g (.fn 235),.loc 0]]) (.op .call #[.g (.fn 235),.loc 0]))]
noncomputable def rK:MB:= #[.ret (.jK (.op .lu #[.loc 0,.g (.fn 82)]) (.op .fC #[.op .call #[.g (.fn 235),.loc 0]]) (.op .call #[.g (.fn 235),.loc 0]))]
noncomputable def ma:MB:= #[.ret (.op .call #[.g (.fn 263),.op .aw #[.loc 1,.k (.num 0)]])]
noncomputable def mc:MB:= #[.ret (.op .call #[.g (.fn 270),.op .aw #[.loc 1,.k (.num 0)]])]
noncomputable def kr:MB:= #[.ret (.op .call #[.g (.fn 82),.op .aw #[.loc 1,.k (.num 0)],.op .aw #[.loc 1,.k (.num 1)]])]
noncomputable def kA:MB:= #[.ret (.op .call #[.g (.fn 193),.loc 1])]
noncomputable def ij:MB:= #[.D6 false (.op .call #[.g (.fn 242),.op .aw #[.loc 1,.k (.num 0)]]) (.op .aw #[.loc 1,.k (.num 1)]),.ret (.op .aw #[.loc 1,.k (.num 1)])]
noncomputable def ik:MB:= #[.D6 true (.op .call #[.g (.fn 242),.op .aw #[.loc 1,.k (.num 0)]]) (.op .aw #[.loc 1,.k (.num 1)]),.ret (.op .aw #[.loc 1,.k (.num 1)])]
noncomputable def dw:MB:= #[.asg 2 (.jK (.op .call #[.g (.fn 221),.op .aw #[.loc 1,.k (.num 0)]]) (.op .call #[.g (.fn 207),.op .aw #[.loc 1,.k (.num 0)]]) (.k .none)),.ret (.jK (.op .uS #[.loc 2,.k .none]) (.g (.av #[])) (.op .len #[.loc 2]))]
noncomputable def Pz:MB:= #[.ifs (.or (.op .call #[.g (.fn 214),.loc 0]) (.op .call #[.g (.fn 214),.loc 1])) #[.ret (.and (.op .call #[.g (.fn 214),.loc 0]) (.and (.op .call #[.g (.fn 214),.loc 1]) (.op .JT #[.loc 0,.loc 1])))] #[],.ret (.op .isA #[.loc 0,.loc 1])]
noncomputable def dZ:MB:= #[.n5 [2] (.tupI (.op .tup #[.g (.fn 82),.g (.fn 125),.g (.fn 146),.g (.fn 104),.g (.fn 181)])) #[.ifs (.op .lu #[.loc 0,.loc 2]) #[.ret (.op .lu #[.loc 1,.loc 2])] #[]],.ret (.k (.bool false))]
noncomputable def fU:MB:= #[.ret (.and (.op .gt #[.op (.tat 3) #[.loc 0],.k (.num 0)]) (.and (.op .isA #[.op (.tat 0) #[.loc 0],.op (.tat 4) #[.loc 0]]) (.op .isA #[.op (.tat 1) #[.loc 0],.op (.tat 5) #[.loc 0]])))]
noncomputable def dK:MB:= #[.ifs (.op .JT #[.op .mod #[.op (.tat 3) #[.loc 0],.k (.num 2)],.k (.num 1)]) #[.zY 4 (.loc 0) (.op .fC #[.op (.tat 4) #[.loc 0]]),.zY 5 (.loc 0) (.op .fC #[.op (.tat 5) #[.loc 0]])] #[],.zY 0 (.loc 0) (.op .fC #[.op (.tat 0) #[.loc 0]]),.zY 1 (.loc 0) (.op .fC #[.op (.tat 1) #[.loc 0]]),.zY 3 (.loc 0) (.op .add #[.op (.tat 3) #[.loc 0],.k (.num 1)])]
noncomputable def lV:MB:= #[.asg 3 (.op .lst #[.op .call #[.g (.fn 369),.loc 0,.loc 1,.k (.num 0)]]),.asg 4 (.k (.num 0)),.ju (.op .gt #[.op .len #[.loc 3],.k (.num 0)]) #[.asg 4 (.op .add #[.loc 4,.k (.num 1)]),.asg 5 (.gG .pop (.loc 3) #[]),.pK [6,7] #[.op (.tat 0) #[.loc 5],.op (.tat 1) #[.loc 5]],.ifs (.or (.op .gt #[.loc 4,.g (.num jO)]) (.tU false (.loc 5))) #[.dead] #[],.ifs (.op .gt #[.op (.tat 2) #[.loc 5],.g (.num 200)]) #[.dead] #[],.ifs (.op .call #[.g (.fn 326),.loc 6,.loc 7]) #[.cont] #[],.ifs (.not (.op .call #[.g (.fn 338),.loc 6,.loc 7])) #[.ret (.k (.bool false))] #[],.ifs (.op .lu #[.loc 6,.g (.fn 82)]) #[.exp (.tU true (.loc 5)),.exp (.gG .ext (.loc 3) #[.op .lst #[.loc 5,.op .call #[.g (.fn 369),.op .nJ #[.loc 6],.op .nJ #[.loc 7],.op .add #[.op (.tat 2) #[.loc 5],.k (.num 1)]]]]),.cont] #[],.dead,.dead,.dead],.ret (.k (.bool true))]
noncomputable def wN:MB:= #[.ret (.op .call #[.g (.fn 378),.loc 0,.loc 1,.g (.fn 385)])]
noncomputable def oG:MB:= #[.pK [1,2] #[.loc 0,.loc 0],.ju (.and (.op .lu #[.loc 2,.g (.fn 82)]) (.op .lu #[.op .fC #[.loc 2],.g (.fn 82)])) #[.pK [1,2] #[.op .fC #[.loc 1],.op .fC #[.op .fC #[.loc 2]]],.ifs (.op .isA #[.loc 1,.loc 2]) #[.dead,.dead,.dead,.dead,.dead] #[]],.ret (.k .none)]
noncomputable def oF:MB:= #[.asg 2 (.op .call #[.g (.fn 399),.loc 1]),.asg 3 (.loc 0),.ifs (.and (.op .isnN #[.loc 2,.k .none]) (.op .gt #[.loc 0,.op .idxT #[.loc 2,.k (.num 0)]])) #[.asg 3 (.op .add #[.op .idxT #[.loc 2,.k (.num 0)],.op .mod #[.op .sub #[.loc 0,.op .idxT #[.loc 2,.k (.num 0)]],.op .idxT #[.loc 2,.k (.num 1)]]])] #[],.asg 4 (.loc 1),.ju (.and (.op .gt #[.loc 3,.k (.num 0)]) (.op .isnA #[.loc 4,.g (.av #[])])) #[.asg 4 (.op .call #[.g (.fn 270),.loc 4]),.asg 3 (.op .sub #[.loc 3,.k (.num 1)])],.ret (.loc 4)]
noncomputable def ig:MB:= #[.ret (.op .call #[.g (.fn 406),.op .call #[.g (.fn 249),.op .aw #[.loc 1,.k (.num 0)]],.op .aw #[.loc 1,.k (.num 1)]])]
noncomputable def md:MB:= #[.ret (.op .call #[.g (.fn 263),.op .call #[.g (.fn 406),.op .call #[.g (.fn 249),.op .aw #[.loc 1,.k (.num 0)]],.op .aw #[.loc 1,.k (.num 1)]]])]
noncomputable def kD:MB:= #[.asg 2 (.op .call #[.g (.fn 249),.op .aw #[.loc 1,.k (.num 0)]]),.asg 3 (.op .lst #[]),.asg 4 (.op .call #[.g (.fn 235),.op .aw #[.loc 1,.k (.num 1)]]),.ju (.and (.op .lu #[.loc 4,.g (.fn 82)]) (.and (.op .lt #[.op .len #[.loc 3],.loc 2]) (.op .lt #[.op .len #[.loc 3],.g (.num longest)]))) #[.exp (.gG .app (.loc 3) #[.op .nJ #[.loc 4]]),.asg 4 (.op .fC #[.loc 4])],.ifs (.and (.op .lt #[.op .len #[.loc 3],.loc 2]) (.op .isnA #[.loc 4,.g (.av #[])])) #[.jT 0 (.loc 4)] #[],.ret (.op .call #[.g (.fn 193),.loc 3])]
noncomputable def kx:MB:= #[.asg 2 (.jK (.or (.op .lt #[.op .len #[.loc 1],.k (.num 2)]) (.op .isA #[.op .aw #[.loc 1,.k (.num 1)],.g (.av #[])])) (.k (.num 1)) (.op .call #[.g (.fn 249),.op .aw #[.loc 1,.k (.num 1)]])),.LA [3,4] (.op .call #[.g (.fn 200),.op .call #[.g (.fn 235),.op .aw #[.loc 1,.k (.num 0)]]]),.ifs (.op .uS #[.loc 4,.k .none]) #[.dead] #[],.ret (.jK (.op .gt #[.loc 2,.k (.num 0)]) (.op .call #[.g (.fn 406),.op .max #[.k (.num 0),.op .sub #[.op .len #[.loc 3],.op .max #[.k (.num 0),.loc 2]]],.op .aw #[.loc 1,.k (.num 0)]]) (.loc 4))]
noncomputable def gy:MB:= #[.asg 2 (.jK (.or (.op .lt #[.op .len #[.loc 1],.k (.num 2)]) (.op .isA #[.op .aw #[.loc 1,.k (.num 1)],.g (.av #[])])) (.k (.num 1)) (.op .call #[.g (.fn 249),.op .aw #[.loc 1,.k (.num 1)]])),.ifs (.op .le #[.loc 2,.k (.num 0)]) #[.ret (.op .aw #[.loc 1,.k (.num 0)])] #[],.asg 3 (.op .call #[.g (.fn 256),.op .aw #[.loc 1,.k (.num 0)]]),.ret (.op .call #[.g (.fn 193),.op .ng #[.loc 3,.op .max #[.k (.num 0),.op .sub #[.op .len #[.loc 3],.loc 2]]]])]
noncomputable def ki:MB:= #[.ifs (.op .isnN #[.op .call #[.g (.fn 399),.loc 0],.k .none]) #[.dead] #[],.asg 1 (.loc 0),.ju (.op .lu #[.op .fC #[.loc 1],.g (.fn 82)]) #[.asg 1 (.op .fC #[.loc 1])],.ret (.loc 1)]
noncomputable def i0:MB:= #[.asg 2 (.jK (.op .gt #[.op .len #[.loc 1],.k (.num 0)]) (.op .idxM #[.loc 1,.op .neg #[.k (.num 1)]]) (.g (.av #[]))),.n5 [3] (.Iv (.op .sub #[.op .len #[.loc 1],.k (.num 2)]) (.op .neg #[.k (.num 1)]) (.op .neg #[.k (.num 1)])) #[.ifs (.op .isnA #[.op .call #[.g (.fn 235),.op .aw #[.loc 1,.loc 3]],.g (.av #[])]) #[.D6 true (.op .call #[.g (.fn 448),.op .aw #[.loc 1,.loc 3]]) (.loc 2),.asg 2 (.op .aw #[.loc 1,.loc 3])] #[]],.ret (.loc 2)]
noncomputable def kB:MB:= #[.ret (.op .call #[.g (.fn 476),.op .aw #[.loc 1,.k (.num 0)],.op .aw #[.loc 1,.k (.num 1)],.g (.fn 326)])]
noncomputable def ie:MB:= #[.ret (.op .call #[.g (.fn 476),.op .aw #[.loc 1,.k (.num 0)],.op .aw #[.loc 1,.k (.num 1)],.g (.fn 392)])]
noncomputable def ja:MB:= #[.asg 2 (.op .call #[.g (.fn 235),.loc 0]),.asg 3 (.loc 2),.asg 4 (.k (.num 0)),.ju (.op .lu #[.loc 2,.g (.fn 82)]) #[.ifs (.op .call #[.loc 1,.op .nJ #[.loc 2]]) #[.ret (.loc 2)] #[],.asg 2 (.op .fC #[.loc 2]),.asg 4 (.op .add #[.loc 4,.k (.num 1)]),.ifs (.op .JT #[.op .mod #[.loc 4,.k (.num 2)],.k (.num 0)]) #[.asg 3 (.op .fC #[.loc 3]),.ifs (.and (.op .isA #[.loc 2,.loc 3]) (.op .lu #[.loc 2,.g (.fn 82)])) #[.dead] #[]] #[]],.ifs (.op .isnA #[.loc 2,.g (.av #[])]) #[.jT 0 (.loc 0)] #[],.ret (.g (.av #[]))]
noncomputable def ir:MB:= #[.exp (.op .call #[.g (.fn 256),.loc 1]),.asg 3 (.loc 1),.ju (.and (.op .lu #[.loc 3,.g (.fn 82)]) (.op .call #[.loc 2,.loc 0,.op .nJ #[.loc 3]])) #[.asg 3 (.op .fC #[.loc 3])],.asg 4 (.loc 3),.ju (.op .lu #[.loc 4,.g (.fn 82)]) #[.ifs (.and (.op .lu #[.op .fC #[.loc 4],.g (.fn 82)]) (.op .call #[.loc 2,.loc 0,.op .nJ #[.op .fC #[.loc 4]]])) #[.D6 true (.loc 4) (.op .fC #[.op .fC #[.loc 4]])] #[.asg 4 (.op .fC #[.loc 4])]],.ret (.loc 3)]
noncomputable def ku:MB:= #[.ret (.op .call #[.g (.fn 490),.op .aw #[.loc 1,.k (.num 0)],.op .aw #[.loc 1,.k (.num 1)],.g (.fn 326)])]
noncomputable def kC:MB:= #[.ret (.op .call #[.g (.fn 193),.comp [none,none,none,some 1] [1] (.loc 1) (.exp (.op .call #[.g (.fn 256),.op .aw #[.loc 1,.k (.num 1)]])) #[.not (.op .call #[.g (.fn 326),.op .aw #[.loc 3,.k (.num 0)],.loc 1])]])]
noncomputable def kq:MB:= #[.ret (.op .call #[.g (.fn 509),.op .aw #[.loc 1,.k (.num 0)],.op .aw #[.loc 1,.k (.num 1)],.g (.fn 326),.k (.bool false)])]
noncomputable def iZ:MB:= #[.ret (.op .call #[.g (.fn 509),.op .aw #[.loc 1,.k (.num 0)],.op .aw #[.loc 1,.k (.num 1)],.g (.fn 392),.k (.bool false)])]
noncomputable def i6:MB:= #[.ret (.op .call #[.g (.fn 509),.op .aw #[.loc 1,.k (.num 0)],.op .aw #[.loc 1,.k (.num 1)],.g (.fn 326),.k (.bool true)])]
noncomputable def eB:MB:= #[.uV 2 (.comp [none,none,none,none] [1] (.jK (.op .lu #[.loc 1,.g (.fn 82)]) (.op .call #[.g (.fn 82),.op .nJ #[.loc 1],.op .fC #[.loc 1]]) (.loc 1)) (.exp (.op .call #[.g (.fn 256),.op .aw #[.loc 1,.k (.num 0)]])) #[]),.ret (.op .call #[.g (.fn 193),.loc 2])]
noncomputable def l3:MB:= #[.ret (.op .lst #[.op .cat #[.comp [none,none,none] [1] (.op .mod #[.op .abs #[.loc 1],.k (.num 1000003)]) (.exp (.op .ng #[.loc 0,.k (.num 40)])) #[],.op .lst #[.op .add #[.op .len #[.loc 0],.k (.num 5)]]],.k (.num 0)])]
noncomputable def l5:MB:= #[.D7 (.loc 0) (.k (.num 1)) (.op .add #[.op .aw #[.loc 0,.k (.num 1)],.k (.num 1)]),.ifs (.op .lt #[.op .aw #[.loc 0,.k (.num 1)],.op .len #[.op .aw #[.loc 0,.k (.num 0)]]]) #[.ret (.op .mod #[.op .aw #[.op .aw #[.loc 0,.k (.num 0)],.op .sub #[.op .aw #[.loc 0,.k (.num 1)],.k (.num 1)]],.loc 1])] #[],.asg 2 (.op .mod #[.op .add #[.op .add #[.op .mul #[.op .aw #[.op .aw #[.loc 0,.k (.num 0)],.op .mod #[.op .aw #[.loc 0,.k (.num 1)],.op .len #[.op .aw #[.loc 0,.k (.num 0)]]]],.k (.num 69069)],.op .mul #[.op .aw #[.loc 0,.k (.num 1)],.k (.num 40503)]],.k (.num 12345)],.k (.num 4294967291)]),.ret (.op .mod #[.op .fdiv #[.op .mod #[.op .add #[.op .mul #[.loc 2,.op .add #[.op .mod #[.loc 2,.k (.num 65521)],.k (.num 1)]],.op .aw #[.loc 0,.k (.num 1)]],.k (.num 2147483629)],.k (.num 128)],.loc 1])]
noncomputable def lZ:MB:= #[.exp (.gG .app (.op .idxS #[.loc 0,.k (.str 3)]) #[.op .lst #[.loc 1,.loc 2]]),.ret (.op .tlv #[.k (.str 0),.op .sub #[.op .len #[.op .idxS #[.loc 0,.k (.str 3)]],.k (.num 1)]])]
noncomputable def kj:MB:= #[.pK [2,3] #[.op .lst #[],.op .lst #[]],.ju (.op .eqS #[.op .idxA #[.loc 1,.k (.num 0)],.k (.str 0)]) #[.exp (.gG .app (.loc 3) #[.loc 1]),.exp (.gG .app (.loc 2) #[.op .aw #[.op .aw #[.op .idxS #[.loc 0,.k (.str 3)],.op .idxB #[.loc 1,.k (.num 1)]],.k (.num 0)]]),.asg 1 (.op .aw #[.op .aw #[.op .idxS #[.loc 0,.k (.str 3)],.op .idxB #[.loc 1,.k (.num 1)]],.k (.num 1)])],.ret (.op .tup #[.loc 2,.loc 3,.loc 1])]
noncomputable def iX:MB:= #[.LA [2,3,4] (.op .call #[.g (.fn 561),.loc 0,.loc 1]),.ret (.jK (.op .eqV #[.loc 4,.op .tlv #[.k (.str 2)]]) (.loc 2) (.k .none))]
noncomputable def l8:MB:= #[.n5 [3] (.exp (.op .slRev #[.loc 1])) #[.asg 2 (.op .call #[.g (.fn 554),.loc 0,.loc 3,.loc 2])],.ret (.loc 2)]
noncomputable def l7:MB:= #[.ifs (.and (.op .eqS #[.op .idxA #[.loc 1,.k (.num 0)],.k (.str 0)]) (.and (.op .eqS #[.op .idxA #[.loc 2,.k (.num 0)],.k (.str 0)]) (.op .neV #[.loc 1,.loc 2]))) #[.pK [3,4] #[.op .aw #[.op .idxS #[.loc 0,.k (.str 3)],.op .idxB #[.loc 1,.k (.num 1)]],.op .aw #[.op .idxS #[.loc 0,.k (.str 3)],.op .idxB #[.loc 2,.k (.num 1)]]],.ret (.and (.op .call #[.g (.fn 582),.loc 0,.op .aw #[.loc 3,.k (.num 0)],.op .aw #[.loc 4,.k (.num 0)]]) (.op .call #[.g (.fn 582),.loc 0,.op .aw #[.loc 3,.k (.num 1)],.op .aw #[.loc 4,.k (.num 1)]]))] #[],.ret (.op .eqV #[.loc 1,.loc 2])]
noncomputable def l9:MB:= #[.ifs (.op .eqV #[.loc 1,.op .tlv #[.k (.str 2)]]) #[.ret (.loc 1)] #[],.ret (.jK (.op .eqS #[.op .idxA #[.loc 1,.k (.num 0)],.k (.str 0)]) (.op .aw #[.op .aw #[.op .idxS #[.loc 0,.k (.str 3)],.op .idxB #[.loc 1,.k (.num 1)]],.loc 2]) (.k .none))]
noncomputable def iW:MB:= #[.ju (.and (.op .gt #[.loc 1,.k (.num 0)]) (.and (.op .isnN #[.loc 2,.k .none]) (.op .neV #[.loc 2,.op .tlv #[.k (.str 2)]]))) #[.pK [2,1] #[.op .call #[.g (.fn 589),.loc 0,.loc 2,.k (.num 1)],.op .sub #[.loc 1,.k (.num 1)]]],.ret (.loc 2)]
noncomputable def iY:MB:= #[.ifs (.op .eqS #[.loc 1,.k (.str 9)]) #[.ret (.op .call #[.g (.fn 554),.loc 0,.op .aw #[.loc 2,.k (.num 0)],.op .aw #[.loc 2,.k (.num 1)]])] #[],.ifs (.op .eqS #[.loc 1,.k (.str 10)]) #[.ret (.op .call #[.g (.fn 575),.loc 0,.loc 2,.op .tlv #[.k (.str 2)]])] #[],.ifs (.op (.bH [22,23]) #[.loc 1]) #[.ret (.op .call #[.g (.fn 589),.loc 0,.op .aw #[.loc 2,.k (.num 0)],.op .intb #[.op .eqS #[.loc 1,.k (.str 23)]]])] #[],.ifs (.op (.bH [11,12]) #[.loc 1]) #[.ifs (.op .neS #[.op .idxA #[.op .aw #[.loc 2,.k (.num 0)],.k (.num 0)],.k (.str 0)]) #[.ret (.k .none)] #[],.D7 (.op .aw #[.op .idxS #[.loc 0,.k (.str 3)],.op .idxB #[.op .aw #[.loc 2,.k (.num 0)],.k (.num 1)]]) (.op .intb #[.op .eqS #[.loc 1,.k (.str 12)]]) (.op .aw #[.loc 2,.k (.num 1)]),.ret (.op .aw #[.loc 2,.k (.num 1)])] #[],.ifs (.op .eqS #[.loc 1,.k (.str 25)]) #[.ret (.op .call #[.g (.fn 596),.loc 0,.op .idxB #[.op .aw #[.loc 2,.k (.num 0)],.k (.num 1)],.op .aw #[.loc 2,.k (.num 1)]])] #[],.ifs (.op .eqS #[.loc 1,.k (.str 24)]) #[.asg 3 (.op .call #[.g (.fn 596),.loc 0,.op .idxB #[.op .aw #[.loc 2,.k (.num 0)],.k (.num 1)],.op .aw #[.loc 2,.k (.num 1)]]),.ret (.jK (.op .uS #[.loc 3,.k .none]) (.k .none) (.op .call #[.g (.fn 589),.loc 0,.loc 3,.k (.num 0)]))] #[],.ifs (.op .eqS #[.loc 1,.k (.str 29)]) #[.asg 4 (.op .call #[.g (.fn 568),.loc 0,.op .aw #[.loc 2,.k (.num 0)]]),.ret (.jK (.op .uS #[.loc 4,.k .none]) (.op .tlv #[.k (.str 2)]) (.op .tlv #[.k (.str 1),.op .len #[.loc 4]]))] #[],.LA [4,5,6] (.op .call #[.g (.fn 561),.loc 0,.op .idxM #[.loc 2,.op .neg #[.k (.num 1)]]]),.ifs (.op .eqS #[.loc 1,.k (.str 26)]) #[.ifs (.or (.op .eqS #[.op .idxA #[.op .aw #[.loc 2,.k (.num 1)],.k (.num 0)],.k (.str 1)]) (.and (.op .lt #[.op .len #[.loc 4],.op .idxB #[.op .aw #[.loc 2,.k (.num 0)],.k (.num 1)]]) (.op .neV #[.loc 6,.op .tlv #[.k (.str 2)]]))) #[.ret (.k .none)] #[],.ret (.op .call #[.g (.fn 575),.loc 0,.op .ng #[.loc 4,.op .idxB #[.op .aw #[.loc 2,.k (.num 0)],.k (.num 1)]],.op .tlv #[.k (.str 2)]])] #[],.ret (.op .call #[.g (.fn 610),.loc 0,.loc 1,.loc 2,.loc 4,.loc 5,.loc 6])]
noncomputable def l6:MB:= #[.ifs (.op .eqS #[.loc 1,.k (.str 27)]) #[.ifs (.op .eqS #[.op .idxA #[.op .aw #[.loc 2,.k (.num 0)],.k (.num 0)],.k (.str 1)]) #[.ret (.k .none)] #[],.ret (.jK (.op .neE #[.loc 4,.op .lst #[]]) (.op .idxM #[.loc 4,.op .neg #[.k (.num 1)]]) (.op .tlv #[.k (.str 2)]))] #[],.ifs (.op .eqS #[.loc 1,.k (.str 28)]) #[.ret (.jK (.op .neV #[.loc 5,.op .tlv #[.k (.str 2)]]) (.k .none) (.op .call #[.g (.fn 575),.loc 0,.op .slInit #[.loc 3],.op .tlv #[.k (.str 2)]]))] #[],.asg 6 (.op .aw #[.loc 2,.k (.num 1)]),.ifs (.op .eqS #[.op .idxA #[.op .aw #[.loc 2,.k (.num 0)],.k (.num 0)],.k (.str 1)]) #[.ret (.k .none)] #[],.asg 7 (.op .idxT #[.op .call #[.g (.fn 561),.loc 0,.op .aw #[.loc 2,.k (.num 0)]],.k (.num 1)]),.ifs (.op .eqE #[.loc 7,.op .lst #[]]) #[.ret (.loc 6)] #[],.D7 (.op .aw #[.op .idxS #[.loc 0,.k (.str 3)],.op .idxB #[.op .idxM #[.loc 7,.op .neg #[.k (.num 1)]],.k (.num 1)]]) (.k (.num 1)) (.loc 6),.ret (.op .aw #[.loc 2,.k (.num 0)])]
noncomputable def aY:MB:= #[.LA [3,4,5] (.op .call #[.g (.fn 561),.loc 0,.op .idxM #[.loc 2,.op .neg #[.k (.num 1)]]]),.uV 7 (.comp [none,none,none,some 2,some 0,some 1] [1] (.jK (.op .eqS #[.loc 5,.k (.str 17)]) (.op .call #[.g (.fn 582),.loc 4,.op .aw #[.loc 3,.k (.num 0)],.loc 1]) (.op .eqV #[.op .aw #[.loc 3,.k (.num 0)],.loc 1])) (.exp (.loc 3)) #[]),.ifs (.op (.bH [16,17]) #[.loc 1]) #[.ifs (.op .inB #[.k (.bool true),.loc 7]) #[.ret (.op .aw #[.loc 4,.gG .index (.loc 7) #[.k (.bool true)]])] #[],.ret (.jK (.op .eqV #[.loc 5,.op .tlv #[.k (.str 2)]]) (.op .tlv #[.k (.str 2)]) (.k .none))] #[],.ifs (.op (.bH [18,19,20]) #[.loc 1]) #[.asg 8 (.op .intb #[.op .eqS #[.loc 1,.k (.str 20)]]),.n5 [6] (.exp (.loc 3)) #[.ifs (.op .eqS #[.op .idxA #[.loc 6,.k (.num 0)],.k (.str 0)]) #[.asg 9 (.op .aw #[.op .aw #[.op .idxS #[.loc 0,.k (.str 3)],.op .idxB #[.loc 6,.k (.num 1)]],.loc 8]),.ifs (.or (.op .eqV #[.loc 9,.op .aw #[.loc 2,.k (.num 0)]]) (.and (.op .eqS #[.loc 1,.k (.str 19)]) (.op .call #[.g (.fn 582),.loc 0,.loc 9,.op .aw #[.loc 2,.k (.num 0)]]))) #[.ret (.loc 6)] #[]] #[]],.ret (.jK (.op .eqV #[.loc 5,.op .tlv #[.k (.str 2)]]) (.op .tlv #[.k (.str 2)]) (.k .none))] #[],.ifs (.op .neV #[.loc 5,.op .tlv #[.k (.str 2)]]) #[.ret (.k .none)] #[],.ifs (.op .eqS #[.loc 1,.k (.str 15)]) #[.ret (.op .call #[.g (.fn 575),.loc 0,.comp [none,none,some 2] [1] (.loc 1) (.exp (.loc 3)) #[.op .neV #[.loc 1,.op .aw #[.loc 2,.k (.num 0)]]],.op .tlv #[.k (.str 2)]])] #[],.ifs (.op .eqS #[.loc 1,.k (.str 21)]) #[.uV 10 (.comp [none,none,none,some 0] [1] (.jK (.op .eqS #[.op .idxA #[.loc 1,.k (.num 0)],.k (.str 0)]) (.op .call #[.g (.fn 554),.loc 3,.op .aw #[.op .aw #[.op .idxS #[.loc 3,.k (.str 3)],.op .idxB #[.loc 1,.k (.num 1)]],.k (.num 0)],.op .aw #[.op .aw #[.op .idxS #[.loc 3,.k (.str 3)],.op .idxB #[.loc 1,.k (.num 1)]],.k (.num 1)]]) (.loc 1)) (.exp (.loc 3)) #[]),.ret (.op .call #[.g (.fn 575),.loc 0,.loc 10,.op .tlv #[.k (.str 2)]])] #[],.uV 12 (.comp [none,none,none] [1,2] (.loc 1) (.zip (.loc 4) (.loc 7)) #[.not (.loc 2)]),.n5 [11,13] (.zip (.loc 12) (.op .cat #[.op .slDrop #[.loc 12,.k (.num 1)],.op .lst #[.op .tlv #[.k (.str 2)]]])) #[.D7 (.op .aw #[.op .idxS #[.loc 0,.k (.str 3)],.op .idxB #[.loc 11,.k (.num 1)]]) (.k (.num 1)) (.loc 13)],.ret (.jK (.op .neE #[.loc 12,.op .lst #[]]) (.op .aw #[.loc 12,.k (.num 0)]) (.op .tlv #[.k (.str 2)]))]
noncomputable def ic:MB:= #[.pK [3,4] #[.JQ [] #[],.op .lst #[.loc 1]],.ju (.op .neE #[.loc 4,.op .lst #[]]) #[.asg 5 (.gG .pop (.loc 4) #[]),.ifs (.and (.op .eqS #[.op .idxA #[.loc 5,.k (.num 0)],.k (.str 0)]) (.op .ninD #[.op .idxB #[.loc 5,.k (.num 1)],.loc 3])) #[.Oj (.loc 3) (.op .idxB #[.loc 5,.k (.num 1)]) (.k (.bool true)),.asg 4 (.op .cat #[.loc 4,.op .aw #[.op .idxS #[.loc 0,.k (.str 3)],.op .idxB #[.loc 5,.k (.num 1)]]])] #[]],.ret (.and (.op .eqS #[.op .idxA #[.loc 2,.k (.num 0)],.k (.str 0)]) (.op .inD #[.op .idxB #[.loc 2,.k (.num 1)],.loc 3]))]
noncomputable def hZ:MB:= #[.asg 3 (.op .lst #[.op .tup #[.loc 1,.loc 2]]),.ju (.op .neE #[.loc 3,.op .lst #[]]) #[.LA [4,5] (.gG .pop (.loc 3) #[]),.ifs (.op .eqS #[.op .idxA #[.loc 5,.k (.num 0)],.k (.str 0)]) #[.asg 6 (.gG .get (.op .idxS #[.loc 0,.k (.str 4)]) #[.op .idxB #[.loc 5,.k (.num 1)],.k .none]),.ifs (.or (.not (.op .lu #[.loc 4,.g (.fn 82)])) (.and (.op .isnN #[.loc 6,.k .none]) (.op .isnA #[.loc 6,.loc 4]))) #[.ret (.k (.bool false))] #[],.ifs (.op .uS #[.loc 6,.k .none]) #[.ifs (.op .neE #[.QN 4 (.op .idxS #[.loc 0,.k (.str 4)]),.op .lst #[]]) #[.ret (.k (.bool false))] #[],.Oj (.op .idxS #[.loc 0,.k (.str 4)]) (.op .idxB #[.loc 5,.k (.num 1)]) (.loc 4),.exp (.gG .app (.loc 3) #[.op .tup #[.op .nJ #[.loc 4],.op .aw #[.op .aw #[.op .idxS #[.loc 0,.k (.str 3)],.op .idxB #[.loc 5,.k (.num 1)]],.k (.num 0)]]]),.exp (.gG .app (.loc 3) #[.op .tup #[.op .fC #[.loc 4],.op .aw #[.op .aw #[.op .idxS #[.loc 0,.k (.str 3)],.op .idxB #[.loc 5,.k (.num 1)]],.k (.num 1)]]])] #[]] #[.ifs (.op .eqS #[.op .idxA #[.loc 5,.k (.num 0)],.k (.str 2)]) #[.ifs (.op .isnA #[.loc 4,.g (.av #[])]) #[.ret (.k (.bool false))] #[]] #[.ifs (.or (.op .isBool #[.loc 4]) (.or (.not (.op .isInt #[.loc 4])) (.op .neI #[.loc 4,.op .idxB #[.loc 5,.k (.num 1)]]))) #[.ret (.k (.bool false))] #[]]]],.ret (.k (.bool true))]
noncomputable def kl:MB:= #[.n5 [1] (.exp (.op .sortd #[.op .idxS #[.loc 0,.k (.str 4)]])) #[.asg 2 (.op .idxI #[.op .idxS #[.loc 0,.k (.str 4)],.loc 1]),.ifs (.not (.op .call #[.g (.fn 627),.loc 0,.op .nJ #[.loc 2],.op .aw #[.op .aw #[.op .idxS #[.loc 0,.k (.str 3)],.loc 1],.k (.num 0)]])) #[.ret (.k (.bool false))] #[],.ifs (.not (.op .call #[.g (.fn 627),.loc 0,.op .fC #[.loc 2],.op .aw #[.op .aw #[.op .idxS #[.loc 0,.k (.str 3)],.loc 1],.k (.num 1)]])) #[.ret (.k (.bool false))] #[]],.ret (.k (.bool true))]
noncomputable def kn:MB:= #[.ifs (.op .eqS #[.op .idxA #[.loc 1,.k (.num 0)],.k (.str 0)]) #[.ret (.op .idxI #[.op .idxS #[.loc 0,.k (.str 4)],.op .idxB #[.loc 1,.k (.num 1)]])] #[],.ret (.jK (.op .eqS #[.op .idxA #[.loc 1,.k (.num 0)],.k (.str 2)]) (.g (.av #[])) (.op .idxB #[.loc 1,.k (.num 1)]))]
noncomputable def l4:MB:= #[.asg 2 (.JQ [9,10,22,23,11,12,24,25,26,27,28,13,16,17,14,15,18,19,20,21,29] #[.g (.fn 291),.g (.fn 298),.g (.fn 277),.g (.fn 284),.g (.fn 305),.g (.fn 312),.g (.fn 420),.g (.fn 413),.g (.fn 427),.g (.fn 434),.g (.fn 441),.g (.fn 455),.g (.fn 462),.g (.fn 469),.g (.fn 497),.g (.fn 502),.g (.fn 516),.g (.fn 523),.g (.fn 530),.g (.fn 535),.g (.fn 319)]),.Ul 3 (.op .lst #[.k (.str 6),.op .call #[.op .idxS #[.loc 2,.loc 0],.k .none,.loc 1]])]
noncomputable def lY:MB:= #[.asg 3 (.op .idxS #[.loc 1,.k (.str 5)]),.pK [4,5] #[.op .aw #[.loc 3,.op .call #[.g (.fn 547),.loc 0,.op .len #[.loc 3]]],.op .aw #[.loc 3,.op .call #[.g (.fn 547),.loc 0,.op .len #[.loc 3]]]],.ifs (.op (.bH [22,23,27,28,21,29]) #[.loc 2]) #[.ret (.op .lst #[.loc 4])] #[],.ifs (.op (.bH [24,25,26]) #[.loc 2]) #[.ret (.op .lst #[.op .tlv #[.k (.str 1),.op .call #[.g (.fn 547),.loc 0,.k (.num 4)]],.loc 4])] #[],.ifs (.op .eqS #[.loc 2,.k (.str 10)]) #[.ret (.op .ng #[.op .lst #[.loc 4,.loc 5],.op .add #[.k (.num 1),.op .call #[.g (.fn 547),.loc 0,.k (.num 2)]]])] #[],.ifs (.and (.op (.bH [16,17,14,15,18,19,20]) #[.loc 2]) (.op .JT #[.op .call #[.g (.fn 547),.loc 0,.k (.num 2)],.k (.num 0)])) #[.ret (.op .lst #[.op .tlv #[.k (.str 1),.op .call #[.g (.fn 547),.loc 0,.k (.num 3)]],.loc 5])] #[],.ret (.op .lst #[.loc 4,.loc 5])]
noncomputable def aH:MB:= #[.asg 2 (.op .lst #[.k (.str 9),.k (.str 9),.k (.str 10),.k (.str 11),.k (.str 12),.k (.str 13),.k (.str 14),.k (.str 15),.k (.str 16),.k (.str 17),.k (.str 18),.k (.str 19),.k (.str 20),.k (.str 21),.k (.str 22),.k (.str 23),.k (.str 24),.k (.str 25),.k (.str 26),.k (.str 27),.k (.str 28),.k (.str 29)]),.asg 3 (.op .aw #[.loc 2,.op .call #[.g (.fn 547),.loc 0,.op .len #[.loc 2]]]),.ifs (.op .gt #[.op .len #[.op .idxS #[.loc 1,.k (.str 3)]],.k (.num 24)]) #[.asg 3 (.op .aw #[.op .lst #[.k (.str 22),.k (.str 23),.k (.str 16),.k (.str 17),.k (.str 14),.k (.str 27),.k (.str 24),.k (.str 29)],.op .call #[.g (.fn 547),.loc 0,.k (.num 8)]])] #[],.asg 4 (.op .call #[.g (.fn 655),.loc 0,.loc 1,.loc 3]),.ifs (.and (.op (.bH [11,12,13]) #[.loc 3]) (.op .call #[.g (.fn 622),.loc 1,.op .aw #[.loc 4,.k (.num 1)],.op .aw #[.loc 4,.k (.num 0)]])) #[.asg 3 (.k (.str 29)),.asg 4 (.op .ng #[.loc 4,.k (.num 1)])] #[],.ifs (.and (.op .eqS #[.loc 3,.k (.str 13)]) (.op .neE #[.comp [none,none,none,some 4,some 1] [1] (.k (.num 1)) (.exp (.op .idxT #[.op .call #[.g (.fn 561),.loc 1,.op .aw #[.loc 4,.k (.num 0)]],.k (.num 1)])) #[.op .call #[.g (.fn 622),.loc 4,.op .aw #[.loc 3,.k (.num 1)],.loc 1]],.op .lst #[]])) #[.asg 3 (.k (.str 29)),.asg 4 (.op .ng #[.loc 4,.k (.num 1)])] #[],.asg 5 (.op .call #[.g (.fn 648),.loc 3,.comp [none,none,none,some 1] [1] (.op .call #[.g (.fn 641),.loc 3,.loc 1]) (.exp (.loc 4)) #[]]),.asg 6 (.op .tup #[.k (.str 9),.k (.str 10),.k (.str 22),.k (.str 23),.k (.str 11),.k (.str 12),.k (.str 24),.k (.str 25),.k (.str 26),.k (.str 27),.k (.str 28),.k (.str 13),.k (.str 29)]),.asg 7 (.jK (.op .inT #[.loc 3,.loc 6]) (.op .call #[.g (.fn 603),.loc 1,.loc 3,.loc 4]) (.op .call #[.g (.fn 615),.loc 1,.loc 3,.loc 4])),.ifs (.op .uS #[.loc 7,.k .none]) #[.ret (.and (.op .eqL #[.loc 5,.op .lst #[.k (.str 7),.k (.str 8)]]) (.op .call #[.g (.fn 634),.loc 1]))] #[],.ifs (.or (.op .neS #[.op .aw #[.loc 5,.k (.num 0)],.k (.str 6)]) (.not (.op .call #[.g (.fn 627),.loc 1,.op .aw #[.loc 5,.k (.num 1)],.loc 7]))) #[.ret (.k (.bool false))] #[],.exp (.gG .app (.op .idxS #[.loc 1,.k (.str 5)]) #[.loc 7]),.ret (.op .call #[.g (.fn 634),.loc 1])]
noncomputable def Jt:MB:= #[.asg 1 (.op .call #[.g (.fn 540),.loc 0]),.asg 2 (.JQ [3,4,5] #[.op .lst #[],.JQ [] #[],.op .lst #[.op .tlv #[.k (.str 1),.k (.num 0)],.op .tlv #[.k (.str 1),.k (.num 1)],.op .tlv #[.k (.str 2)]]]),.n5 [3] (.Pn (.k (.num 3))) #[.asg 5 (.op .call #[.g (.fn 575),.loc 2,.comp [none,none,none,some 1] [1] (.op .tlv #[.k (.str 1),.op .call #[.g (.fn 547),.loc 3,.k (.num 3)]]) (.Pn (.op .add #[.k (.num 1),.op .call #[.g (.fn 547),.loc 1,.k (.num 3)]])) #[],.op .tlv #[.k (.str 2)]]),.uV 6 (.comp [none,none] [1] (.op .idxB #[.loc 1,.k (.num 1)]) (.exp (.op .idxT #[.op .call #[.g (.fn 561),.loc 2,.loc 5],.k (.num 0)])) #[]),.ifs (.not (.op .call #[.g (.fn 627),.loc 2,.op .call #[.g (.fn 298),.k .none,.loc 6],.loc 5])) #[.ret (.k (.bool false))] #[],.exp (.gG .app (.op .idxS #[.loc 2,.k (.str 5)]) #[.loc 5])],.n5 [4] (.Pn (.op .add #[.k (.num 4),.op .call #[.g (.fn 547),.loc 1,.k (.num 9)]])) #[.ifs (.not (.op .call #[.g (.fn 660),.loc 1,.loc 2])) #[.ret (.k (.bool false))] #[]],.ret (.k (.bool true))]
end
noncomputable def OD:List (Nat × Df):=[(200,⟨1,6,jb⟩),(207,⟨1,4,lX⟩),(214,⟨1,3,lW⟩),(221,⟨1,3,oE⟩),(235,⟨1,2,kF⟩),(242,⟨1,3,kE⟩),(249,⟨1,2,i9⟩),(256,⟨1,7,kG⟩),(263,⟨1,3,rJ⟩),(270,⟨1,3,rK⟩),(277,⟨2,1,ma⟩),(284,⟨2,1,mc⟩),(291,⟨2,1,kr⟩),(298,⟨2,1,kA⟩),(305,⟨2,1,ij⟩),(312,⟨2,1,ik⟩),(319,⟨2,5,dw⟩),(326,⟨2,1,Pz⟩),(338,⟨2,7,dZ⟩),(359,⟨1,0,fU⟩),(366,⟨1,0,dK⟩),(392,⟨2,2,wN⟩),(399,⟨1,7,oG⟩),(406,⟨2,6,oF⟩),(413,⟨2,2,ig⟩),(420,⟨2,3,md⟩),(427,⟨2,12,kD⟩),(434,⟨2,11,kx⟩),(441,⟨2,8,gy⟩),(448,⟨1,5,ki⟩),(455,⟨2,7,i0⟩),(462,⟨2,2,kB⟩),(469,⟨2,2,ie⟩),(483,⟨2,9,ja⟩),(490,⟨3,5,ir⟩),(497,⟨2,2,ku⟩),(516,⟨2,2,kq⟩),(523,⟨2,2,iZ⟩),(530,⟨2,2,i6⟩),(535,⟨2,3,eB⟩),(540,⟨1,1,l3⟩),(547,⟨2,2,l5⟩),(554,⟨3,1,lZ⟩),(561,⟨2,2,kj⟩),(568,⟨2,4,iX⟩),(575,⟨3,2,l8⟩),(582,⟨3,3,l7⟩),(589,⟨3,0,l9⟩),(596,⟨3,1,iW⟩),(603,⟨3,13,iY⟩),(610,⟨6,4,l6⟩),(622,⟨3,3,ic⟩),(634,⟨1,4,kl⟩),(641,⟨2,1,kn⟩),(648,⟨2,24,l4⟩),(655,⟨3,5,lY⟩)]
noncomputable def OC:List (Nat × Dc):=[(378,⟨3,[some 0,some 1,some 2,none,none,none,none,none,none,none,none,none,none,none,none,none,none,none,none,none],lV⟩),(502,⟨2,[some 0,some 1,none,none],kC⟩),(615,⟨3,[some 0,some 1,some 2,none,none,none,none,none,none,none,none,none,none,none,none,none,none,none,none],aY⟩),(627,⟨3,[some 0,some 1,some 2,none,none,none,none,none,none,none,none,none],hZ⟩),(660,⟨2,[some 0,some 1,none,none,none,none,none,none,none,none,none,none,none,none,none,none,none,none],aH⟩),(665,⟨1,[some 0,none,none,none,none,none,none,none,none,none,none,none,none,none,none],Jt⟩)]
structure Calls (C:Nat→CW):Prop where
 df:∀ {n f d vs Q E σ},OD.lookup f=some d→vs.length=d.np→qB (C n) d.mb (Zp vs d.nr) (cI Q) (fun O=>E) σ→C (n+1) (.fn f) vs Q E σ
 dc:∀ {n f d vs Q E σ},OC.lookup f=some d→vs.length=d.np→qB (C n) d.mb (UO d.fr vs) (cI Q) (fun O=>E) σ→C (n+1) (.fn f) vs Q E σ
 lo:∀ {n x Q E σ},qB (C n) jA [some x,some (.av .nil),none,none,none,none,none] (cI Q) (fun O=>E) σ→C (n+1) (.fn 193) [x] Q E σ
 co:∀ {n a b Q E σ},Q (.av (.cell σ.cells.length)) {σ with cells:=σ.cells++[(a,b)]}→C (n+1) (.fn 82) [.av a,.av b] Q E σ
 ta:∀ {n a b d Q E σ},(∀i af,f6 σ af i (.task ⟨a,b,d,0,a,b⟩)→Q (.tk i) af)→C (n+1) (.fn 369) [.av a,.av b,.num d] Q E σ
 r1:∀ {n x v f Q E σ},C n (.fn 483) [v,.ll x f] Q E σ→C (n+1) (.fn 476) [.av x,v,.fn f] Q E σ
 r2:∀ {n x v f b Q E σ},C n (.fn 483) [v,.lq x f b] (fun v af=>∃a,v= .av a∧((a= .nil∧Q (.av .nil) af)∨∃i ab,a= .cell i∧af.cells[i]?=some ab∧Q (.av ab.1) af)) E σ→C (n+1) (.fn 509) [.av x,v,.fn f,.bool b] Q E σ
 l1:∀ {n x y f Q E σ},C n (.fn f) [.av x,.av y] Q E σ→C (n+1) (.ll x f) [.av y] Q E σ
 l2:∀ {n x y f b Q E σ},(y.aE=false∧Q (.bool false) σ)∨(∃i ab,y= .cell i∧σ.cells[i]?=some ab∧C n (.fn f) [.av x,.av (if b then ab.2 else ab.1)] Q E σ)→C (n+1) (.lq x f b) [.av y] Q E σ
end
end Mine
end
section
open PySem PySem.W PySem.Calls PyProof.Rows
namespace Mine
section
variable {aab:Program} {w:World} {n:Nat} {A:Around} {hT:Heap} {wr:Bool} {env:Env} {aac:List Env} {ns:bJ} {s₀:Shared} {L:Addr} (B:Ac w hT A env aac ns L n)
include B
theorem Oq (m:MB):SB aab w n A hT wr env aac ns s₀ L m:=MB.rec (motive_1:=rz aab w n A hT wr env aac ns s₀ L) (motive_2:=SB aab w n A hT wr env aac ns s₀ L) (YM B) (TX B) (TY B) (YQ B) (T5 B) (Ua B) (T7 B) (T6 B) (YP B) (fun O O O a b=>YO B a b) (fun O O b=>Ub B b) (fun O O O b=>T4 B b) (YN B) (I6 B) (T9 B) (T3 B) (fun O O O h O O=>h.elim) (VH B) (fun O O a b=>PN B a b) m
end
section
variable {aab:Program} {w:World} {n m:Nat} {f:Addr} {dM:Value} {qual:Str} {ps:List Str} {rest:bJ} {body:List Stmt} {sc:Scope} {vs:List V} {Q:PV} {E:PE} {σ:St}
theorem wZ {hT:Heap} {env:Env} {aac:List Env} {ns:bJ} {L:Addr} {vs:List (Option Value)} {γ aj:Ga} {g BU g':GH} {s s':Shared} (UU:∀b∈eZ env,g b=none) (le:GH.le g BU) (G:Gs (eZ env) γ BU aj g') (F:Fs hT env ns aac s L vs g' s'):Go hT aac γ g s aj g' s':=
 ⟨F.f.done,F.bk,G.le,fun b o nb e=>G.tr b o nb (fun hb=>nomatch (UU b hb).symm.trans e) (le _ _ e),fun ca nf e hz=>G.fk ca nf (fun q=>by
  cases q':g ca with
  | none=>exact e q'
  | some o=>exact nomatch q.symm.trans (le _ _ q')) hz⟩
theorem m6 (B:Ac w hT A env aac ns L m) (UU:∀b∈eZ env,g b=none) (le:GH.le g BU)
  (ck:JF ns wr mb body=true) (F:jz w hT wr env ns aac s L γ BU fr s₁) (H:HP aab w hT γ σ BU) (h:qB (aB aab w m) mb fr (cI Q) (fun O=>E) σ)
  (k1:∀aj g' af s' v V,Go hT aac γ g s aj g' s'→HP aab w hT aj af g'→aq w aj v V→Q V af→R (.ok (.ret v)) s')
  (k2:∀aj g' af s₁ e s',Go hT aac γ g s aj g' s₁→HP aab w hT aj af g'→E af→Er hT w.params aac g' s₁ e s'→R (.error e) s'):wpAny (model aab w) A (execs body env) (pH R) (FJ (model aab w) A env R) s₁:=by
 refine Oq B mb ck F H h (fun aj g' d7 af s' fl Fl G F' H' hf hq=> ?_) fun aj g' d7 af s' e tb t G F' H' he Xe xy=>F'.elim fun vs Fs=>leaveX ⟨Fs.1.f.at_,Fs.1.f.ok,Fs.1.f.loc,Kp.refl _ _,Fs.1.f.out⟩ B.X.fr Xe xy (fun O O q=>q) fun h' er=>k2 _ _ _ s' _ _ (wZ UU le G Fs.1) H' he ⟨er,⟨rfl,rfl,rfl⟩⟩
 refine bc F' fun vs Fs O=> ?_;clear F'
 have Gx:=wZ UU le G Fs
 induction hf with
 | next=>exact k1 _ _ _ _ .none .none Gx H' .none hq
 | cont=>exact hq.elim
 | brk=>exact hq.elim
 | ret hv=>exact k1 _ _ _ _ _ _ Gx H' hv hq
noncomputable def restOk (rest:bJ):Bool:=rest.all fun p=>p.2 == .local || p.2 == .globalImplicit
noncomputable def MC (vs:List V) (rest:bJ):aO:=vs.map some++List.replicate rest.length none
theorem II (h:restOk rest=true):Sl w hT wr γ g env rest (List.replicate rest.length none) (List.replicate rest.length none):=by
 induction rest with
 | nil=>exact .nil
 | cons p r ih=>
  obtain ⟨x,k⟩:=p
  exact iD (ae h) (fun e=>(show NameKind.local=k from (eq_of_beq e).symm)▸.loc .none (ih (aa h))) fun e=>(show NameKind.globalImplicit=k from (eq_of_beq e).symm)▸.lr (ih (aa h))
theorem yf (hr:restOk rest=true) (hv:ao w γ vals vs):∀ {ps:List Str},vals.length=ps.length→Sl w hT wr γ g env (ps.map (fun p=>(p,NameKind.local))++rest) (vals.map some++List.replicate rest.length none) (MC vs rest):=by
 induction hv with
 | nil=>exact fun {ps} hl=>LJ hl.symm▸II hr
 | cons hv _ ih=>
  intro ps hl
  cases ps with
  | nil=>exact nomatch hl
  | cons p ps=>exact .loc (.some hv) (ih (lA hl))
theorem iB (h:aq w γ v (.fn f)):v= .ref f:=h.1
theorem sD (A:Around) (h:g7 A n) (hn:7≤n):A.units+64<cLine:=by
 have:=h.2
 have e:cLine=9900:=rfl
 lia
theorem aB.def (P:PF (KK w) f dM qual ps rest body sc) (hm:7≤m) (hn:m+1≤n) (hl:vs.length=ps.length) (hr:restOk rest=true) (ck:JF (ps.map (fun p=>(p,NameKind.local))++rest) false mb body=true)
  (h:qB (aB aab w m) mb (MC vs rest) (cI Q) (fun O=>E) σ):aB aab w n (.fn f) vs Q E σ:=fun {hT A aac γ g s R fv vals} X S H hv dR k1 k2=>by
 rw [iB hv]
 have zt:vals.length=ps.length:=dR.length.trans hl
 refine qk X hn P S zt fun env L s₁ hE X' F=> ?_
 have hc:env.cells=[]:=hE▸rfl
 have P8:∀b,b∉eZ env:=fun b hb=>by unfold eZ at hb;rw [hc] at hb;exact nomatch hb
 exact m6 ⟨X',sD _ X'.room hm,F.f.ok,hm,hc▸.nil,fun ca h=>absurd h (P8 ca)⟩ (fun b hb=>absurd hb (P8 b)) (fun O O q=>q) ck ⟨_,F,yf hr dR zt⟩ H h k1 k2
end
theorem Bh (names:bJ):∀(n:Nat) (acc:List (Str × Addr)),(acc.map (·.1)).Nodup→(∀p∈names,p.1∉acc.map (·.1))→(names.map (·.1)).Nodup→((cellsFrom n names acc).map (·.1)).Nodup∧∀p∈cellsFrom n names acc,p∈acc∨(p.1,NameKind.cell)∈names:=by
 induction names with
 | nil=>exact fun n acc h O O=>⟨h,fun p hp=>.inl hp⟩
 | cons q r ih=>
  intro n acc h hd nd
  obtain ⟨x,k⟩:=q
  have nd:=bV.mp nd
  unfold cellsFrom
  split
  ·rename_i hk
   have e:NameKind.cell=k:=(eq_of_beq hk).symm
   have z:=ih (n+1) ((x,n)::acc) (bV.mpr ⟨hd _ (.head _),h⟩) (fun p hp hm=>(cF.mp hm).elim (fun e=>nd.1 (dC.mpr ⟨p,hp,e⟩)) (hd p (.tail _ hp))) nd.2
   exact ⟨z.1,fun p hp=>(z.2 p hp).elim (fun hp=>(cF.mp hp).elim (fun q=>.inr (q▸e▸.head _)) .inl) fun hp=>.inr (.tail _ hp)⟩
  ·have z:=ih n acc h (fun p hp=>hd p (.tail _ hp)) nd.2
   exact ⟨z.1,fun p hp=>(z.2 p hp).imp id fun h=>.tail _ h⟩
theorem HQ {l:List (Str × Addr)} {x:Str} {a:Addr} (nd:(l.map (·.1)).Nodup) (h:(x,a)∈l):l.lookup x=some a:=by
 induction l with
 | nil=>exact nomatch h
 | cons p r ih=>
  have nd:=bV.mp nd
  rw [eU]
  refine (cF.mp h).elim (fun e=> ?_) fun h=> ?_
  ·rw [←e,iN]
  ·rw [show (x == p.1)=false from beq_eq_false_iff_ne.mpr fun e=>nd.1 (dC.mpr ⟨_,h,e⟩)]
   exact ih nd.2 h
noncomputable def UN (names:bJ) (ps:List Str) (vs:List V):aO:=names.map fun p=>if p.2 == .globalImplicit then none else (ps.zip vs).lookup p.1
noncomputable def qD (names:bJ):Bool:=names.all fun p=>p.2 == .local || p.2 == .cell || p.2 == .globalImplicit
section
variable {aab:Program} {w:World} {n m:Nat} {f:Addr} {dM:Value} {qual:Str} {ps:List Str} {rest:bJ} {body:List Stmt} {sc:Scope} {vs:List V} {Q:PV} {E:PE} {σ:St}
theorem DD (hv:ao w γ vals vs):∀ {ps:List Str},vals.length=ps.length→OV w γ ((ps.zip vals).lookup x) ((ps.zip vs).lookup x):=by
 induction hv with
 | nil=>exact fun {ps} hl=>LJ hl.symm▸.none
 | cons hv _ ih=>
  intro ps hl
  cases ps with
  | nil=>exact nomatch hl
  | cons p ps=>
   rw [uh,uh,eU,eU]
   split
   ·exact .some hv
   ·exact ih (lA hl)
theorem Ej (dR:ao w γ vals vs) (hl:vals.length=ps.length) (h:qD names=true):(∀x,(x,NameKind.cell)∈names→gv hT wr γ g env x ((ps.zip vals).lookup x)) →
  Sl w hT wr γ g env names (eP names (ps.zip vals)) (UN names ps vs):=by
 induction names with
 | nil=>exact fun O=>.nil
 | cons p r ih=>
  intro hc
  have ih:=ih (aa h) fun y hy=>hc y (.tail _ hy)
  obtain ⟨x,k⟩:=p
  exact iD (ae h) (fun e=>iD e (fun e=>(show NameKind.local=k from (eq_of_beq e).symm)▸.loc (DD dR hl) ih) fun e=>have e:NameKind.cell=k:=(eq_of_beq e).symm;e▸.gg (.inl rfl) (hc x (e▸.head _)) (DD dR hl) ih) fun e=>(show NameKind.globalImplicit=k from (eq_of_beq e).symm)▸.lr ih
theorem aB.VW (wr:Bool) (P:PA (KK w) f dM qual ps body sc) {mb:MB} {O4:aO} (hm:7≤m) (hn:m+1≤n) (hl:vs.length=ps.length) (hr:qD sc.names=true) (hf:UN sc.names ps vs=O4) (ck:JF sc.names wr mb body=true)
  (h:qB (aB aab w m) mb O4 (cI Q) (fun O=>E) σ):aB aab w n (.fn f) vs Q E σ:=fun {hT A aac γ g s R fv vals} X S H hv dR k1 k2=>by
 rw [iB hv]
 have zt:vals.length=ps.length:=dR.length.trans hl
 refine BD X hn P S zt fun env L s₁ g' hE X' le hc UH F=> ?_
 have ec:env.cells=cellsFrom (L+1) sc.names []:=hE▸rfl
 have nd:=P.mY.nd
 have c:=Bh sc.names (L+1) [] .nil (fun p O hm=>nomatch hm) nd
 rw [←ec] at c
 have cin:∀ca∈env.cells.map (·.2),∃(i:Nat) (x:Str),sc.names[i]?=some (x,NameKind.cell)∧env.cells.lookup x=some ca:=fun ca xx=>(dC.mp xx).elim fun p hp=>(uH.mp ((c.2 _ hp.1).resolve_left nofun)).elim fun i hi=>⟨i,_,hi,hp.2▸HQ c.1 hp.1⟩
 refine m6 ⟨X',sD _ X'.room hm,F.f.ok,hm,UH,cin⟩ (fun b hb=>(cin b hb).elim fun i z=>z.elim fun x z=>(hc x b z.2).1) le ck ⟨_,F,hf▸Ej dR zt hr fun x hx=> ?_⟩ (H.mono le) h k1 k2
 have lk:=aZ nd hx
 obtain ⟨ca,xx⟩:=yL.mp (Fi sc.names (L+1) [] (.inl lk))
 rw [←ec] at xx
 refine yq (hc x ca xx) fun h1 h2 ca' o h3 h4 h5=> ?_
 rw [aW (by rw [lk];exact nofun)] at h5
 exact ⟨ca,o,xx,(aD g' (cH (xx.symm.trans h3))).trans h4,h5,H.fresh h1,fun O=>⟨h2,fun q hq e=>nomatch h1.symm.trans ((aD g e).symm.trans (H.fz q hq).1)⟩⟩
theorem aB.VV (P:∀vals:List Value,vals.length=vs.length→∃yo,Vv (KK w) f dM qual ps rest body sc vals yo∧yo.length=ps.length∧∀γ,ao w γ vals vs→ao w γ yo us) (hm:7≤m) (hn:m+1≤n) (hr:restOk rest=true) (ck:JF (ps.map (fun p=>(p,NameKind.local))++rest) false mb body=true)
  (h:qB (aB aab w m) mb (MC us rest) (cI Q) (fun O=>E) σ):aB aab w n (.fn f) vs Q E σ:=fun {hT A aac γ g s R fv vals} X S H hv dR k1 k2=>by
 rw [iB hv]
 refine iL (P vals dR.length) fun yo P' zt WV=> ?_
 refine Mv X hn P' S zt fun env L s₁ hE X' F=> ?_
 have hc:env.cells=[]:=hE▸rfl
 have P8:∀b,b∉eZ env:=fun b hb=>by unfold eZ at hb;rw [hc] at hb;exact nomatch hb
 exact m6 ⟨X',sD _ X'.room hm,F.f.ok,hm,hc▸.nil,fun ca h=>absurd h (P8 ca)⟩ (fun b hb=>absurd hb (P8 b)) (fun O O q=>q) ck ⟨_,F,yf hr (WV γ dR) zt⟩ H h k1 k2
end
noncomputable def NI (x:Option α) (f:α→Bool):Bool:=Option.rec (motive:=fun O=>Bool) false f x
theorem DB {α:Type} {x:Option α} {f:α→Bool} {R:Prop} (h:NI x f=true) (k:∀a,x=some a→f a=true→R):R:=by
 cases x with
 | none=>exact nomatch h
 | some a=>exact k a rfl h
noncomputable def cT (K:Frag) (f:Addr) (d:Df):Bool:=NI (fdOf K f) fun fd=>okP K fd && ((iF fd).length == d.np && ((fd.scope.names.drop (iF fd).length).length == d.nr && (restOk (fd.scope.names.drop (iF fd).length) && JF fd.scope.names false d.mb (rQ fd.body))))
noncomputable def pick (ps:List Str) (names:bJ):List (Option Nat):=names.map fun p=>if p.2 == .globalImplicit then none else ps.findIdx? (· == p.1)
noncomputable def KW (K:Frag) (f:Addr) (d:Dc):Bool:=NI (fdOf K f) fun fd=>Su K fd && ((iF fd).length == d.np && (qD fd.scope.names && (d.fr == pick (iF fd) fd.scope.names && JF fd.scope.names true d.mb (rQ fd.body))))
theorem n3 (w:World):cT (KK w) 200 ⟨1,6,jb⟩=true∧az (cp (KK w) 200) 1:=⟨by kernel_rfl,fun O=>by show _=_;kernel_rfl⟩
theorem r8 (w:World):cT (KK w) 207 ⟨1,4,lX⟩=true∧az (cp (KK w) 207) 1:=⟨by kernel_rfl,fun O=>by show _=_;kernel_rfl⟩
theorem r7 (w:World):cT (KK w) 214 ⟨1,3,lW⟩=true∧az (cp (KK w) 214) 1:=⟨by kernel_rfl,fun O=>by show _=_;kernel_rfl⟩
theorem u4 (w:World):cT (KK w) 221 ⟨1,3,oE⟩=true∧az (cp (KK w) 221) 1:=⟨by kernel_rfl,fun O=>by show _=_;kernel_rfl⟩
theorem qc (w:World):cT (KK w) 235 ⟨1,2,kF⟩=true∧az (cp (KK w) 235) 1:=⟨by kernel_rfl,fun O=>by show _=_;kernel_rfl⟩
theorem qa (w:World):cT (KK w) 242 ⟨1,3,kE⟩=true∧az (cp (KK w) 242) 1:=⟨by kernel_rfl,fun O=>by show _=_;kernel_rfl⟩
theorem nY (w:World):cT (KK w) 249 ⟨1,2,i9⟩=true∧az (cp (KK w) 249) 1:=⟨by kernel_rfl,fun O=>by show _=_;kernel_rfl⟩
theorem qd (w:World):cT (KK w) 256 ⟨1,7,kG⟩=true∧az (cp (KK w) 256) 1:=⟨by kernel_rfl,fun O=>by show _=_;kernel_rfl⟩
theorem zb (w:World):cT (KK w) 263 ⟨1,3,rJ⟩=true∧az (cp (KK w) 263) 1:=⟨by kernel_rfl,fun O=>by show _=_;kernel_rfl⟩
theorem zc (w:World):cT (KK w) 270 ⟨1,3,rK⟩=true∧az (cp (KK w) 270) 1:=⟨by kernel_rfl,fun O=>by show _=_;kernel_rfl⟩
theorem sx (w:World):cT (KK w) 277 ⟨2,1,ma⟩=true∧az (cp (KK w) 277) 2:=⟨by kernel_rfl,fun O O=>by show _=_;kernel_rfl⟩
theorem sA (w:World):cT (KK w) 284 ⟨2,1,mc⟩=true∧az (cp (KK w) 284) 2:=⟨by kernel_rfl,fun O O=>by show _=_;kernel_rfl⟩
theorem pU (w:World):cT (KK w) 291 ⟨2,1,kr⟩=true∧az (cp (KK w) 291) 2:=⟨by kernel_rfl,fun O O=>by show _=_;kernel_rfl⟩
theorem pX (w:World):cT (KK w) 298 ⟨2,1,kA⟩=true∧az (cp (KK w) 298) 2:=⟨by kernel_rfl,fun O O=>by show _=_;kernel_rfl⟩
theorem mz (w:World):cT (KK w) 305 ⟨2,1,ij⟩=true∧az (cp (KK w) 305) 2:=⟨by kernel_rfl,fun O O=>by show _=_;kernel_rfl⟩
theorem mA (w:World):cT (KK w) 312 ⟨2,1,ik⟩=true∧az (cp (KK w) 312) 2:=⟨by kernel_rfl,fun O O=>by show _=_;kernel_rfl⟩
theorem gh (w:World):cT (KK w) 319 ⟨2,5,dw⟩=true∧az (cp (KK w) 319) 2:=⟨by kernel_rfl,fun O O=>by show _=_;kernel_rfl⟩
theorem P2 (w:World):cT (KK w) 326 ⟨2,1,Pz⟩=true∧az (cp (KK w) 326) 2:=⟨by kernel_rfl,fun O O=>by show _=_;kernel_rfl⟩
theorem g9 (w:World):cT (KK w) 338 ⟨2,7,dZ⟩=true∧az (cp (KK w) 338) 2:=⟨by kernel_rfl,fun O O=>by show _=_;kernel_rfl⟩
theorem jE (w:World):cT (KK w) 359 ⟨1,0,fU⟩=true∧az (cp (KK w) 359) 1:=⟨by kernel_rfl,fun O=>by show _=_;kernel_rfl⟩
theorem nP (w:World):cT (KK w) 366 ⟨1,0,dK⟩=true∧az (cp (KK w) 366) 1:=⟨by kernel_rfl,fun O=>by show _=_;kernel_rfl⟩
theorem Bp (w:World):cT (KK w) 392 ⟨2,2,wN⟩=true∧az (cp (KK w) 392) 2:=⟨by kernel_rfl,fun O O=>by show _=_;kernel_rfl⟩
theorem u7 (w:World):cT (KK w) 399 ⟨1,7,oG⟩=true∧az (cp (KK w) 399) 1:=⟨by kernel_rfl,fun O=>by show _=_;kernel_rfl⟩
theorem u6 (w:World):cT (KK w) 406 ⟨2,6,oF⟩=true∧az (cp (KK w) 406) 2:=⟨by kernel_rfl,fun O O=>by show _=_;kernel_rfl⟩
theorem my (w:World):cT (KK w) 413 ⟨2,2,ig⟩=true∧az (cp (KK w) 413) 2:=⟨by kernel_rfl,fun O O=>by show _=_;kernel_rfl⟩
theorem sC (w:World):cT (KK w) 420 ⟨2,3,md⟩=true∧az (cp (KK w) 420) 2:=⟨by kernel_rfl,fun O O=>by show _=_;kernel_rfl⟩
theorem p9 (w:World):cT (KK w) 427 ⟨2,12,kD⟩=true∧az (cp (KK w) 427) 2:=⟨by kernel_rfl,fun O O=>by show _=_;kernel_rfl⟩
theorem pW (w:World):cT (KK w) 434 ⟨2,11,kx⟩=true∧az (cp (KK w) 434) 2:=⟨by kernel_rfl,fun O O=>by show _=_;kernel_rfl⟩
theorem lj (w:World):cT (KK w) 441 ⟨2,8,gy⟩=true∧az (cp (KK w) 441) 2:=⟨by kernel_rfl,fun O O=>by show _=_;kernel_rfl⟩
theorem pP (w:World):cT (KK w) 448 ⟨1,5,ki⟩=true∧az (cp (KK w) 448) 1:=⟨by kernel_rfl,fun O=>by show _=_;kernel_rfl⟩
theorem nW (w:World):cT (KK w) 455 ⟨2,7,i0⟩=true∧az (cp (KK w) 455) 2:=⟨by kernel_rfl,fun O O=>by show _=_;kernel_rfl⟩
theorem pY (w:World):cT (KK w) 462 ⟨2,2,kB⟩=true∧az (cp (KK w) 462) 2:=⟨by kernel_rfl,fun O O=>by show _=_;kernel_rfl⟩
theorem mx (w:World):cT (KK w) 469 ⟨2,2,ie⟩=true∧az (cp (KK w) 469) 2:=⟨by kernel_rfl,fun O O=>by show _=_;kernel_rfl⟩
theorem nZ (w:World):cT (KK w) 483 ⟨2,9,ja⟩=true∧az (cp (KK w) 483) 2:=⟨by kernel_rfl,fun O O=>by show _=_;kernel_rfl⟩
theorem sv (w:World):cT (KK w) 490 ⟨3,5,ir⟩=true∧az (cp (KK w) 490) 3:=⟨by kernel_rfl,fun O O O=>by show _=_;kernel_rfl⟩
theorem pV (w:World):cT (KK w) 497 ⟨2,2,ku⟩=true∧az (cp (KK w) 497) 2:=⟨by kernel_rfl,fun O O=>by show _=_;kernel_rfl⟩
theorem pT (w:World):cT (KK w) 516 ⟨2,2,kq⟩=true∧az (cp (KK w) 516) 2:=⟨by kernel_rfl,fun O O=>by show _=_;kernel_rfl⟩
theorem nV (w:World):cT (KK w) 523 ⟨2,2,iZ⟩=true∧az (cp (KK w) 523) 2:=⟨by kernel_rfl,fun O O=>by show _=_;kernel_rfl⟩
theorem nX (w:World):cT (KK w) 530 ⟨2,2,i6⟩=true∧az (cp (KK w) 530) 2:=⟨by kernel_rfl,fun O O=>by show _=_;kernel_rfl⟩
theorem iw (w:World):cT (KK w) 535 ⟨2,3,eB⟩=true∧az (cp (KK w) 535) 2:=⟨by kernel_rfl,fun O O=>by show _=_;kernel_rfl⟩
theorem se (w:World):cT (KK w) 540 ⟨1,1,l3⟩=true∧az (cp (KK w) 540) 1:=⟨by kernel_rfl,fun O=>by show _=_;kernel_rfl⟩
theorem sj (w:World):cT (KK w) 547 ⟨2,2,l5⟩=true∧az (cp (KK w) 547) 2:=⟨by kernel_rfl,fun O O=>by show _=_;kernel_rfl⟩
theorem sb (w:World):cT (KK w) 554 ⟨3,1,lZ⟩=true∧az (cp (KK w) 554) 3:=⟨by kernel_rfl,fun O O O=>by show _=_;kernel_rfl⟩
theorem pQ (w:World):cT (KK w) 561 ⟨2,2,kj⟩=true∧az (cp (KK w) 561) 2:=⟨by kernel_rfl,fun O O=>by show _=_;kernel_rfl⟩
theorem nR (w:World):cT (KK w) 568 ⟨2,4,iX⟩=true∧az (cp (KK w) 568) 2:=⟨by kernel_rfl,fun O O=>by show _=_;kernel_rfl⟩
theorem sq (w:World):cT (KK w) 575 ⟨3,2,l8⟩=true∧az (cp (KK w) 575) 3:=⟨by kernel_rfl,fun O O O=>by show _=_;kernel_rfl⟩
theorem so (w:World):cT (KK w) 582 ⟨3,3,l7⟩=true∧az (cp (KK w) 582) 3:=⟨by kernel_rfl,fun O O O=>by show _=_;kernel_rfl⟩
theorem su (w:World):cT (KK w) 589 ⟨3,0,l9⟩=true∧az (cp (KK w) 589) 3:=⟨by kernel_rfl,fun O O O=>by show _=_;kernel_rfl⟩
theorem nQ (w:World):cT (KK w) 596 ⟨3,1,iW⟩=true∧az (cp (KK w) 596) 3:=⟨by kernel_rfl,fun O O O=>by show _=_;kernel_rfl⟩
theorem nS (w:World):cT (KK w) 603 ⟨3,13,iY⟩=true∧az (cp (KK w) 603) 3:=⟨by kernel_rfl,fun O O O=>by show _=_;kernel_rfl⟩
theorem sk (w:World):cT (KK w) 610 ⟨6,4,l6⟩=true∧az (cp (KK w) 610) 6:=⟨by kernel_rfl,fun O O O O O O=>by show _=_;kernel_rfl⟩
theorem mw (w:World):cT (KK w) 622 ⟨3,3,ic⟩=true∧az (cp (KK w) 622) 3:=⟨by kernel_rfl,fun O O O=>by show _=_;kernel_rfl⟩
theorem pR (w:World):cT (KK w) 634 ⟨1,4,kl⟩=true∧az (cp (KK w) 634) 1:=⟨by kernel_rfl,fun O=>by show _=_;kernel_rfl⟩
theorem pS (w:World):cT (KK w) 641 ⟨2,1,kn⟩=true∧az (cp (KK w) 641) 2:=⟨by kernel_rfl,fun O O=>by show _=_;kernel_rfl⟩
theorem sf (w:World):cT (KK w) 648 ⟨2,24,l4⟩=true∧az (cp (KK w) 648) 2:=⟨by kernel_rfl,fun O O=>by show _=_;kernel_rfl⟩
theorem r9 (w:World):cT (KK w) 655 ⟨3,5,lY⟩=true∧az (cp (KK w) 655) 3:=⟨by kernel_rfl,fun O O O=>by show _=_;kernel_rfl⟩
theorem r6 (w:World):KW (KK w) 378 ⟨3,[some 0,some 1,some 2,none,none,none,none,none,none,none,none,none,none,none,none,none,none,none,none,none],lV⟩=true∧az (cp (KK w) 378) 3:=⟨by kernel_rfl,fun O O O=>by show _=_;kernel_rfl⟩
theorem pZ (w:World):KW (KK w) 502 ⟨2,[some 0,some 1,none,none],kC⟩=true∧az (cp (KK w) 502) 2:=⟨by kernel_rfl,fun O O=>by show _=_;kernel_rfl⟩
theorem nU (w:World):KW (KK w) 615 ⟨3,[some 0,some 1,some 2,none,none,none,none,none,none,none,none,none,none,none,none,none,none,none,none],aY⟩=true∧az (cp (KK w) 615) 3:=⟨by kernel_rfl,fun O O O=>by show _=_;kernel_rfl⟩
theorem mv (w:World):KW (KK w) 627 ⟨3,[some 0,some 1,some 2,none,none,none,none,none,none,none,none,none],hZ⟩=true∧az (cp (KK w) 627) 3:=⟨by kernel_rfl,fun O O O=>by show _=_;kernel_rfl⟩
theorem lh (w:World):KW (KK w) 660 ⟨2,[some 0,some 1,none,none,none,none,none,none,none,none,none,none,none,none,none,none,none,none],aH⟩=true∧az (cp (KK w) 660) 2:=⟨by kernel_rfl,fun O O=>by show _=_;kernel_rfl⟩
theorem Mh (w:World):KW (KK w) 665 ⟨1,[some 0,none,none,none,none,none,none,none,none,none,none,none,none,none,none],Jt⟩=true∧az (cp (KK w) 665) 1:=⟨by kernel_rfl,fun O=>by show _=_;kernel_rfl⟩
theorem Ky {P:Nat→α→Prop} {f:Nat} {d:α} {l:List (Nat × α)} (a:∀p∈l,P p.1 p.2) (h:l.lookup f=some d):P f d:=by
 induction l with
 | nil=>exact nomatch h
 | cons p r ih=>
  rw [eU] at h
  split at h
  ·rename_i q;exact eq_of_beq q▸cH h▸a _ (.head _)
  ·exact ih (fun p hp=>a p (.tail _ hp)) h
theorem aU {P:α→Prop} {a:α} {l:List α} (h:P a) (k:∀p∈l,P p):∀p∈a::l,P p:=cc.mpr ⟨h,k⟩
theorem VF (w:World):∀p∈OD,cT (KK w) p.1 p.2=true∧az (cp (KK w) p.1) p.2.np:=aU (n3 w) <| aU (r8 w) <| aU (r7 w) <| aU (u4 w) <| aU (qc w) <| aU (qa w) <| aU (nY w) <| aU (qd w) <| aU (zb w) <| aU (zc w) <| aU (sx w) <| aU (sA w) <| aU (pU w) <| aU (pX w) <| aU (mz w) <| aU (mA w) <| aU (gh w) <| aU (P2 w) <| aU (g9 w) <| aU (jE w) <| aU (nP w) <| aU (Bp w) <| aU (u7 w) <| aU (u6 w) <| aU (my w) <| aU (sC w) <| aU (p9 w) <| aU (pW w) <| aU (lj w) <| aU (pP w) <| aU (nW w) <| aU (pY w) <| aU (mx w) <| aU (nZ w) <| aU (sv w) <| aU (pV w) <| aU (pT w) <| aU (nV w) <| aU (nX w) <| aU (iw w) <| aU (se w) <| aU (sj w) <| aU (sb w) <| aU (pQ w) <| aU (nR w) <| aU (sq w) <| aU (so w) <| aU (su w) <| aU (nQ w) <| aU (nS w) <| aU (sk w) <| aU (mw w) <| aU (pR w) <| aU (pS w) <| aU (sf w) <| aU (r9 w) <| fun O h=>nomatch h
theorem VE (w:World):∀p∈OC,KW (KK w) p.1 p.2=true∧az (cp (KK w) p.1) p.2.np:=aU (r6 w) <| aU (pZ w) <| aU (nU w) <| aU (mv w) <| aU (lh w) <| aU (Mh w) <| fun O h=>nomatch h
theorem Il {ps:List Str} {x:Str}:∀ {vs:List V},vs.length=ps.length→(ps.zip vs).lookup x=(ps.findIdx? (· == x)).bind fun i=>vs[i]?:=by
 induction ps with
 | nil=>exact fun O=>rfl
 | cons p r ih=>
  intro vs hl
  cases vs with
  | nil=>exact nomatch hl
  | cons v vs=>
   rw [uh,eU,List.findIdx?_cons,ih (lA hl),Bool.beq_comm (a:=x)]
   cases p == x with
   | true=>rfl
   | false=>cases List.findIdx? (fun y=>y == x) r <;> rfl
theorem BO {ps:List Str} {names:bJ} {vs:List V} (hl:vs.length=ps.length):UN names ps vs=UO (pick ps names) vs:=by
 unfold UN UO pick
 rw [dj]
 refine uu fun p O=> ?_
 simp only [Function.comp]
 split
 ·rfl
 ·exact Il hl
section
variable {aab:Program} {w:World}
theorem A6 {n:Nat} {f:Nat} {d:Df} {vs:List V} {Q:PV} {E:PE} {σ:St} (hd:OD.lookup f=some d) (hl:vs.length=d.np) (h:qB (aB aab w (n+7)) d.mb (Zp vs d.nr) (cI Q) (fun O=>E) σ):aB aab w (n+1+7) (.fn f) vs Q E σ:=
 have z:=Ky (P:=fun f d=>cT (KK w) f d=true∧az (cp (KK w) f) d.np) (VF w) hd
 DB z.1 fun fd hf h1=>by
 have h2:=eq_of_beq (ae (aa h1))
 have h3:=aa (aa h1)
 have P:=SA hf (ae h1) (by rw [h2,←BG hf];exact z.2)
 have h5:=aa (aa h3)
 rw [P.names] at h5
 rw [←eq_of_beq (ae h3)] at h
 exact aB.def (m:=n+7) P (cJ 7 n) (bT (j8 n 7 1)) (hl.trans h2.symm) (ae (aa h3)) h5 h
theorem A5 {n:Nat} {f:Nat} {d:Dc} {vs:List V} {Q:PV} {E:PE} {σ:St} (hd:OC.lookup f=some d) (hl:vs.length=d.np) (h:qB (aB aab w (n+7)) d.mb (UO d.fr vs) (cI Q) (fun O=>E) σ):aB aab w (n+1+7) (.fn f) vs Q E σ:=
 have z:=Ky (P:=fun f d=>KW (KK w) f d=true∧az (cp (KK w) f) d.np) (VE w) hd
 DB z.1 fun fd hf h1=>by
 have h2:=eq_of_beq (ae (aa h1))
 have h3:=aa (aa h1)
 have P:=NL hf (ae h1) (by rw [h2,←BG hf];exact z.2)
 rw [eq_of_beq (ae (aa h3))] at h
 exact aB.VW (m:=n+7) true P (cJ 7 n) (bT (j8 n 7 1)) (hl.trans h2.symm) (ae h3) (BO (hl.trans h2.symm)) (aa (aa h3)) h
end
noncomputable def Ga.nO (γ:Ga) (q:Addr × Addr):Ga:={γ with p:=γ.p++[q]}
theorem Ga.xN (γ:Ga) (q:Addr × Addr):γ.Le (γ.nO q):=⟨Pl.Le.app _ _,fun O O h=>h,fun O h=>h⟩
theorem Ga.xv {γ:Ga} {q:Addr × Addr} {b:Addr}:b∈(γ.nO q).fp↔b∈γ.fp∨b=q.2:=by
 simp only [Ga.fp,Ga.nO,cU,bY,dh,List.map_nil,dX]
 exact or_right_comm
section
variable {aab:Program} {w:World} {n:Nat} {hT:Heap} {l:List Env} {γ:Ga} {g g':GH} {s s':Shared} {σ:St}
theorem Nx (nd:(a++b).Nodup) (nf:x∉a++b):(a++[x]++b).Nodup:=by
 rw [fA,hY] at *
 exact ⟨nd.1,bV.mpr ⟨fun h=>nf (cB _ h),nd.2.1⟩,fun y hy z hz=>(cF.mp hz).elim (fun e q=>nf (dF _ ((q.trans e)▸hy))) (nd.2.2 y hy z)⟩
theorem HP.Gi (H:HP aab w hT γ σ g) {q:Addr × Addr} {c:Cells} (le:GH.le g g') (n:g q.2=none) (C:CS hT w.params g' (γ.p++[q]) c):HP aab w hT (γ.nO q) {σ with cells:=c} g':=by
 have nf:=H.fresh n
 have l:=γ.xN q
 refine ⟨C,H.len,fun i b ob hb hc=>(H.obj i b ob hb hc).imp fun c z=>⟨le _ _ z.1,z.2.up l⟩,H.new,fun x hx=> ?_,?_,⟨H.tb.1.up l fun o e=>le _ _ e,H.tb.2.up l fun o e=>le _ _ e⟩,H.tn⟩
 ·have z:=H.fz x hx
  exact ⟨le _ _ z.1,fun hm=>(Ga.xv.mp hm).elim z.2.1 (fun h=>nomatch n.symm.trans ((aD g h).symm.trans z.1)),z.2.2⟩
 ·have e:(γ.nO q).fp=γ.p.map (·.2)++[q.2]++(γ.o++tabs):=by unfold Ga.fp Ga.nO;rw [List.map_append];rfl
  rw [e]
  exact Nx H.nd nf
@[elab_as_elim] theorem ao.Lz {xs:List Value} {a b:V} (h:ao w γ xs [a,b]) {P:List Value→Prop} (k:∀x y,aq w γ x a→aq w γ y b→P [x,y]):P xs:=
 h.cons_inv.elim fun x h=>h.elim fun r h=>h.1▸h.2.2.x9 (P:=fun r=>P (x::r)) fun y hy=>k x y h.2.1 hy
theorem A4 {a b:AV} {Q:PV} {E:PE} (h:Q (.av (.cell σ.cells.length)) {σ with cells:=σ.cells++[(a,b)]}):aB aab w (n+1+7) (.fn 82) [.av a,.av b] Q E σ:=fun {hT A aac γ g s R fv vals} X S H hv dR k1 k2=>by
 rw [iB hv]
 refine dR.Lz fun u v h1 h2=> ?_
 refine zf (X.le (cJ 3 (n+5))) S H.cs h1 h2 fun s' g' q le n1 n2 C S' B'=> ?_
 have H':=H.Gi le n2 C
 exact k1 (γ.nO q) g' _ s' _ (.av (.cell σ.cells.length)) ⟨S',B',γ.xN q,fun b o nb e=>⟨fun hm=>(Ga.xv.mp hm).elim nb (fun hm=>nomatch n2.symm.trans ((aD g hm).symm.trans e)),le _ _ e⟩,fun ca O O hz=>hz⟩ H' (.av (.cell (q:=q) (by rw [←H.cs.len];exact nD))) h
theorem u5 (w:World) (x:Value):JF ((gO w x).ps.map (fun p=>(p,NameKind.local))++(gO w x).rest) false jA (gO w x).body=true:=by kernel_rfl
theorem A9 (h:qB (aB aab w (n+7)) jA [some x,some (.av .nil),none,none,none,none,none] (cI Q) (fun O=>E) σ):aB aab w (n+1+7) (.fn 193) [x] Q E σ:=
 aB.VV (m:=n+7) (us:=[x,.av .nil]) (fun vals hl=>by
  obtain ⟨v,e⟩:=List.length_eq_one_iff.mp hl
  rw [e]
  exact ⟨[v,.ref 64],(gO w v).pf,rfl,fun γ h=>h.cons_inv.elim fun x h=>h.elim fun r h=>.cons ((lC h.1).1▸h.2.1) (.cons (.av .nil) .nil)⟩) (cJ 7 n) (bT (j8 n 7 1)) (by kernel_rfl) (u5 w .none) h
end
end Mine
end
section
open PySem PySem.W PySem.Calls PyProof.Rows Builtin.ObjectAttr
namespace Mine
theorem putL_new (h:es.any (·.key.isStr name)=false):putL name k key v es=es++[⟨k,key,v⟩]:=by
 induction es with
 | nil=>rfl
 | cons e r ih=>
  have h:=Bool.or_eq_false_iff.mp h
  rw [putL,aW fun q=>rx (h.1.symm.trans q),ih h.2];rfl
theorem G7 (a1:es.any (·.key.isStr name)=false) (a2:es.any (·.refKey)=false):getL name es=some none:=by
 unfold getL
 rw [show es.find? (·.key.isStr name)=none from List.find?_eq_none.mpr fun e he=>List.any_eq_false.mp a1 e he,a2];rfl
noncomputable def Lv (P:Params) (a:Str) (t:Tok) (v:Value):DictEntry:=⟨PyData.keyHash P a,.str a t,v⟩
section
variable {w:World} {aab:Program} {A:Around} {R:Result→Shared→Prop} {s s₀:Shared} {hT:Heap} {aac:List Env} {g hJ:GH} {n:Nat} {x d:Addr} {env:Env} {ns:bJ} {L:Addr} {vs:List (Option Value)} {E:Value→Shared→Prop} {Qf:Flow→Shared→Prop}
structure LU (w:World) (hT:Heap) (hJ:GH) (x d:Addr) (es:List DictEntry) (g:GH):Prop where
 hx:g x=some (instObj 369 d)
 hd:g d=some (dictOf es es.length)
 eq:∀b,b≠d→g b=hJ b
theorem yn (F:Fs hT env ns aac s₀ L vs g s) (T:Tp (KK w) hT) (K:LU w hT hJ x d es g) (hn:hT.get? d=none) (hf:findIn (KK w) (.ref 369) a=some none) (hz:es.length≤1000) (a1:es.any (·.key.isStr a)=false) (a2:es.any (·.refKey)=false)
  (h:∀s' g' t,LU w hT hJ x d (es++[Lv w.params a t v]) g'→Fs hT env ns aac s₀ L vs g' s'→Q () s'):wpAny (model aab w) A (setAttr (.ref x) a v) Q E s:=
 have Hh:x≠d:=fun q=>nomatch cH ((K.hx.symm.trans (aD g q)).trans K.hd)
 m7 F T rb hf K.hx K.hd hn (by rw [G7 a1 a2];rfl) hz fun s' t F'=>h s' _ t ⟨(GH.au _ _ Hh).trans K.hx,(GH.set_same _ _ _).trans (by
  rw [putL_new a1]
  unfold putN
  rw [a1,bK];rfl),fun b hb=>(GH.au _ _ hb).trans (K.eq b hb)⟩ F'
theorem nj (F:Fs hT env ns aac s₀ L vs g s) (T:Tp (KK w) hT) (K:LU w hT hJ x d es g) (hn:hT.get? d=none) (hs:Loc ns vs "self" .local (.ref x)) (hy:Loc ns vs y .local v) (hf:findIn (KK w) (.ref 369) a=some none) (hz:es.length≤1000) (a1:es.any (·.key.isStr a)=false) (a2:es.any (·.refKey)=false)
  (h:∀s' g' t,LU w hT hJ x d (es++[Lv w.params a t v]) g'→Fs hT env ns aac s₀ L vs g' s'→wpAny (model aab w) A (execs rest env) Qf E s'):wpAny (model aab w) A (execs (.Assign [.Attribute (.Name "self" p1) a p2] (.Name y p3) p4::rest) env) Qf E s:=
 dg (ny (ld F hy (ld F hs (yn F T K hn hf hz a1 a2 fun s' g' t K' F'=>iG (h s' g' t K' F')))))
theorem ni (X:Cx w hT A aac 1) (S:At hT aac g s.heap) (hx:g x=some (instObj 369 d)) (hd:g d=some emptyDict) (hn:hT.get? d=none)
  (k:∀s' g' t1 t2 t3 t4 t5 t6 u,LU w hT g x d [Lv w.params "left" t1 l,Lv w.params "right" t2 r,Lv w.params "deep" t3 dp,Lv w.params "turn" t4 (.int 0 u),Lv w.params "slow_left" t5 l,Lv w.params "slow_right" t6 r] g'→At hT aac g' s'.heap→Bk aac s s'→R (.ok (.ret .none)) s') :
  codeAny (model aab w) A (.call (.ref 352) ⟨[.ref x,l,r,dp],[]⟩) R s:=by
 refine qk X (bz _) (kf w).pf S rfl fun env L s₁ hE X F=> ?_
 dsimp only [kf,dh,List.map_nil,Ft,yI,List.replicate,Fu,ur] at F ⊢
 refine nj F X.T (es:=[]) ⟨hx,hd,fun O O=>rfl⟩ hn .head (.tail .head) (by kernel_rfl) (dY rfl) rfl rfl fun s1 g1 t1 K1 F1=> ?_
 refine nj F1 X.T K1 hn .head (.tail (.tail .head)) (by kernel_rfl) (dY rfl) (by kernel_rfl) rfl fun s2 g2 t2 K2 F2=> ?_
 refine nj F2 X.T K2 hn .head (.tail (.tail (.tail .head))) (by kernel_rfl) (dY rfl) (by kernel_rfl) rfl fun s3 g3 t3 K3 F3=> ?_
 refine dg (ny (V4 F3 fun u s3' Y6=>ld Y6 .head (yn Y6 X.T K3 hn (by kernel_rfl) (dY rfl) (by kernel_rfl) rfl fun s4 g4 t4 K4 F4=>iG ?_)))
 refine nj F4 X.T K4 hn .head (.tail .head) (by kernel_rfl) (dY rfl) (by kernel_rfl) rfl fun s5 g5 t5 K5 F5=> ?_
 refine nj F5 X.T K5 hn .head (.tail (.tail .head)) (by kernel_rfl) (dY rfl) (by kernel_rfl) rfl fun s6 g6 t6 K6 F6=>yw ?_
 exact E3 (v:=.none) F6 rfl fun a b=>k s6 g6 t1 t2 t3 t4 t5 t6 u K6 a b
end
section
variable {aab:Program} {w:World} {n:Nat} {hT:Heap} {σ:St}
@[elab_as_elim] theorem ao.jt {γ:Ga} {xs:List Value} {a b c:V} (h:ao w γ xs [a,b,c]) {P:List Value→Prop} (k:∀x y z,aq w γ x a→aq w γ y b→aq w γ z c→P [x,y,z]):P xs:=
 h.cons_inv.elim fun x h=>h.elim fun r h=>h.1▸h.2.2.Lz (P:=fun r=>P (x::r)) fun y z hy hz=>k x y z h.2.1 hy hz
theorem Bc {a b:AV} {dp:Int} {Q:PV} {E:PE} (h:∀i af,f6 σ af i (.task ⟨a,b,dp,0,a,b⟩)→Q (.tk i) af):aB aab w (n+1+7) (.fn 369) [.av a,.av b,.num dp] Q E σ:=fun {hT A aac γ g s R fv vals} X S H hv dR k1 k2=>by
 rw [iB hv]
 refine dR.jt fun v1 v2 v3 h1 h2 h3=>h3.Sr fun td=> ?_
 refine o5 (n:=1) (X.le (cJ 3 (n+5))) S vZ zW Jb fun A' s' d x X' hm nd nx S' B=> ?_
 have Hh:x≠d:=fun q=>nomatch nx.symm.trans ((aD (g.set d emptyDict) q).trans (GH.set_same _ _ _))
 have gx:g x=none:=(GH.bS emptyDict nd).none nx
 have FV:=S.og nd
 refine ni X' S' (GH.set_same _ _ _) ((GH.au _ _ Hh.symm).trans (GH.set_same _ _ _)) FV fun vQ g' t1 t2 t3 t4 t5 t6 u K VA B'=>⟨rfl,?_⟩
 have le:∀c o,c≠d→g c=some o→g' c=some o:=fun c o hc e=>(K.eq c hc).trans ((GH.au _ _ fun q:c=x=>nomatch gx.symm.trans ((aD g q).symm.trans e)).trans ((GH.au _ _ hc).trans e))
 have hle:GH.le g g':=fun c o e=>le c o (fun q=>nomatch nd.symm.trans ((aD g q).symm.trans e)) e
 have lex:GH.le (g.set d (F8 w.params v1 v2 v1 v2 dp 0 ⟨t1,t2,t3,t4,t5,t6,td,u⟩)) g':=fun c o e=>by
  by_cases hc:c=d
  ·rw [hc,GH.set_same] at e;rw [hc,←e];exact K.hd
  ·rw [GH.au _ _ hc] at e;exact le c o hc e
 have H1:=(H.cw (ob:=.task ⟨a,b,dp,0,a,b⟩) nd ⟨FV,hm⟩ (.task h1 h2 h1 h2)).mono lex
 have H2:=H1.nN K.hx (fun q=>(Ga.eG.mp q).elim (H.fresh gx) Hh) (fun z=>z.1.elim fun t e=>nomatch e.1)
 exact k1 _ g' _ vQ (.ref x) (.tk σ.objs.length) ⟨VA,B.trans B',(γ.bf d).trans (Ga.gV _ _ _),fun c o nb e=>⟨fun q=>(Ga.eG.mp (show c∈(γ.cw d).fp from q)).elim nb (fun q=>nomatch nd.symm.trans ((aD g q).symm.trans e)),hle _ _ e⟩,fun ca O e hz q hq=>(cF.mp hq).elim (fun r z=>e (by rw [←z,r];exact gx)) (hz q)⟩ H2
  (.tk (d:=d) (show (γ.o++[d])[σ.objs.length]?=_ by rw [←H.len];exact nD) (.head _)) (h _ _ f6.mk')
end
end Mine
end
section
open PySem PySem.W PySem.Calls PyProof.Rows
namespace Mine
structure oD (D:iV):Prop where
 bind:∀(v:Value) cl pm cd ct,bindArgs (kla_fn "<lambda>" D.qual D.params D.body D.scope cl pm cd ct) ⟨[v],[]⟩=pure [(("own":Str),v)]
 ok:yW D.scope
 cell:∀x∈D.scope.names,x.2≠ .cell
 own:D.scope.names.lookup ("own":Str)=some .local
theorem oD.fr (L:oD D) (v:Value):(fun x=>([(("own":Str),v)]:List (Str × Value)).reverse.lookup x)=bF D.scope.names (eP D.scope.names [(("own":Str),v)]):=funext fun x=>by
 rw [kR L.ok.nd]
 by_cases hx:x= "own"
 ·rw [hx,L.own];rfl
 ·have:([(("own":Str),v)]:List (Str × Value)).lookup x=none:=by
   rw [eU,beq_eq_false_iff_ne.mpr hx];rfl
  show List.lookup x ([(("own":Str),v)]:List (Str × Value)).reverse=_
  rw [List.reverse_singleton,this];split <;> rfl
section
variable {w:World} {aab:Program} {A:Around} {R:Result→Shared→Prop} {s:Shared} {hT:Heap} {aac:List Env} {g:GH} {n m:Nat} {a c':Addr} {D:iV} {cl:List (Str × Addr)} {pm xl v:Value}
theorem Mw (X:Cx w hT A aac n) (hn:m+1≤n) (S:At hT aac g s.heap) (L:oD D) (ho:g a=some (kla_obj "<lambda>" D.qual D.params D.body D.scope cl pm c' xl)) (hcd:s.heap.CodeRec (.ref c') D.qual)
  (h:∀env L s₁,env.cells=cl→Cx w hT (A.deeper env) (env::aac) m→kg env L D.scope.names→Fs hT env D.scope.names aac s L (eP D.scope.names [(("own":Str),v)]) g s₁ →
   wpAny (model aab w) (A.deeper env) (eval D.body env) (fun u s'=>R (.ok (.ret u)) s') (FJ (model aab w) (A.deeper env) env R) s₁) :
  codeAny (model aab w) A (.call (.ref a) ⟨[v],[]⟩) R s:=by
 refine kla_callFunE X.room.lt (S.a5 _ _ ho) rfl L.ok.co L.ok.gen rfl hcd ?_
 rw [L.bind]
 refine bR (OQ L.cell (fun x hx=>dX.mp hx▸L.own) (fun aA vu ZS=>⟨(X.T.nolimit S.a8).fresh _ ZS,?_⟩) L.ok.kind)
 have Q6:∀b o,s.heap.get? b=some o→aA.get? b=some o:=fun b o e=>ZS.extBut b o (eR (cA e)) (bG _ e)
 have JS:kg (envX D.qual D.scope s.heap.objs.size a (.ref c') cl) s.heap.objs.size D.scope.names:=⟨rfl,rfl,rfl,rfl,rfl,L.ok⟩
 rw [L.fr v] at vu
 exact kla_codeExpr (h _ _ _ rfl (X.in hn) JS ⟨qp S JS rfl vu Q6,rfl,rfl,rfl⟩)
end
theorem qF (w:World):(jL w).scope.names=[(("own":Str),NameKind.local),("is_same",.free),("thing",.free)]:=by kernel_rfl
theorem qG (w:World):(jM w).scope.names=[(("own":Str),NameKind.local),("is_by_cdr",.free),("is_same",.free),("key",.free),("isinstance",.globalImplicit),("Cons",.globalImplicit)]:=by kernel_rfl
theorem HC (w:World):oD (jL w):=⟨fun O O O O O=>by kernel_rfl,bM (by kernel_rfl),by rw [qF];decide,by rw [qF];rfl⟩
theorem HE (w:World):oD (jM w):=⟨fun O O O O O=>by kernel_rfl,bM (by kernel_rfl),by rw [qG];decide,by rw [qG];rfl⟩
noncomputable def mL1:ME:=.op .call (.cons (.loc 1) (.cons (.loc 2) (.cons (.loc 0) .nil)))
noncomputable def mL2:ME:=.and (.op .lu (.cons (.loc 0) (.cons (.g (.fn 82)) .nil))) (.op .call (.cons (.loc 2) (.cons (.loc 3) (.cons (.jK (.loc 1) (.op .fC (.cons (.loc 0) .nil)) (.op .nJ (.cons (.loc 0) .nil))) .nil))))
theorem HB (w:World):g8 (jL w).scope.names mL1 (jL w).body=true:=by kernel_rfl
theorem HD (w:World):g8 (jM w).scope.names mL2 (jM w).body=true:=by kernel_rfl
section
variable {aab:Program} {w:World} {n:Nat} {σ:St} {D:iV} {hT:Heap} {γ:Ga} {g:GH}
theorem sZ (L:oD D) (ck:g8 D.scope.names m D.body=true) (X:Cx w hT A aac (n+1+7)) (S:At hT aac g s.heap) (H:HP aab w hT γ σ g) (hc:eW γ a D caps)
  (sl:∀env:Env,(∀p∈caps,gv hT false γ g env p.1 (some p.2))→Sl w hT false γ g env D.scope.names (eP D.scope.names [(("own":Str),v)]) fr) (h:qE (aB aab w (n+7)) m fr Q E σ)
  (k1:∀aj g' af s' v V,Go hT aac γ g s aj g' s'→HP aab w hT aj af g'→aq w aj v V→Q V af→R (.ok (.ret v)) s')
  (k2:∀aj g' af s₁ e s',Go hT aac γ g s aj g' s₁→HP aab w hT aj af g'→E af→Er hT w.params aac g' s₁ e s'→R (.error e) s'):codeAny (model aab w) A (.call (.ref a) ⟨[v],[]⟩) R s:=by
 refine ro hc fun cl pm c' xl oc vs t h1 h2 h3 h4 h5=> ?_;clear hc
 refine Mw (m:=n+7) X (bT (j8 n 7 1)) S L (H.fz _ h1).1 ⟨c',oc,vs,t,rfl,S.a5 _ _ (H.fz _ h2).1,h3,h4⟩ fun env Lf s₁ jg X' JS F=> ?_
 have F0:jz w hT false env D.scope.names aac s Lf γ g fr s₁:=⟨_,F,sl env fun p hp=>(h5 p hp).imp fun ca z=>z.imp fun o q=>⟨jg▸q.1,(H.fz _ q.2.1).1,q.2.2,(H.fz _ q.2.1).2.1,nofun⟩⟩
 have N:=jz.nm (w:=w) (hT:=hT) (wr:=false) (aac:=aac) (s₀:=s) JS
 have back:∀ {aj g' s'},Go hT (env::aac) γ g s₁ aj g' s'→∃vs,Fs hT env D.scope.names aac s Lf vs g' s'∧Go hT aac γ g s aj g' s':=fun G=>(N.go F0 G).imp fun vs z=>⟨z.1,z.1.f.done,z.1.bk,G.le,G.tr,G.fk⟩
 refine cQ X' (sD _ X'.room (cJ 7 n)) m N ck F0 H h (fun aj g' af s' v V G H' hv hq=>(back G).elim fun O z=>k1 _ _ _ _ _ _ z.2 H' hv hq) fun aj g' af s2 x s' G H' he er=> ?_
 obtain ⟨a,uP,sy,t,rfl,q9,le,S',kp,Xe⟩:=er.er.ex
 refine bc (back (G.trans ⟨S',⟨kp,er.same⟩,Ga.Le.refl _,gb.of_le le,kh.refl _ _⟩)) fun vs Fs G'=> ?_
 exact leaveX ⟨Fs.f.at_,Fs.f.ok,Fs.f.loc,Kp.refl _ _,Fs.f.out⟩ X'.fr (q9▸Xe) (by rintro _ ⟨⟩) (fun O O q=>q) fun h' er=>k2 _ _ _ s' _ _ G' (H'.mono le) he ⟨er,rfl,rfl,rfl⟩
theorem A7 (h:aB aab w (n+7) (.fn f) [.av x,.av y] Q E σ):aB aab w (n+1+7) (.ll x f) [.av y] Q E σ:=fun {hT A aac γ g s R fv vals} X S H hv dR k1 k2=>
 dR.x9 fun v hy=>hv.elim fun a z=>z.elim fun u z=>by
 rw [z.1]
 refine sZ (fr:=[some (.av y),some (.fn f),some (.av x)]) (HC w) (HB w) X S H z.2.1 (fun env hc=> ?_) (ah trivial h) k1 k2
 rw [qF]
 exact .loc (.some hy) (.gg (.inr rfl) (hc _ (.head _)) (.some (.fn z.2.2.2)) (.gg (.inr rfl) (hc _ (.tail _ (.head _))) (.some (.av z.2.2.1)) .nil))
theorem A8 (h:(y.aE=false∧Q (.bool false) σ)∨(∃i ab,y= .cell i∧σ.cells[i]?=some ab∧aB aab w (n+7) (.fn f) [.av x,.av (if b then ab.2 else ab.1)] Q E σ)):aB aab w (n+1+7) (.lq x f b) [.av y] Q E σ:=fun {hT A aac γ g s R fv vals} X S H hv dR k1 k2=>
 dR.x9 fun v hy=>hv.elim fun a z=>z.elim fun u z=>by
 rw [z.1]
 refine sZ (fr:=[some (.av y),some (.bool b),some (.fn f),some (.av x),none,none]) (HE w) (HD w) X S H z.2.1 (fun env hc=> ?_) (E:=E) (Q:=Q) ?_ k1 k2
 ·rw [qG]
  exact .loc (.some hy) (.gg (.inr rfl) (hc _ (.tail _ (.tail _ (.head _)))) (.some .bool) (.gg (.inr rfl) (hc _ (.head _)) (.some (.fn z.2.2.2)) (.gg (.inr rfl) (hc _ (.tail _ (.head _))) (.some (.av z.2.2.1)) (.lr (.lr .nil)))))
 ·exact h.elim (fun h=>by
   cases y with
   | cell=>exact nomatch h.1
   | _=>exact h.2) fun h=>h.elim fun i h=>h.elim fun ab h=>h.1▸(by
   cases b with
   | true=>exact aK h.2.1 (ah trivial h.2.2)
   | false=>exact aK h.2.1 (ah trivial h.2.2))
end
section
variable {M:Model} {A:Around} {E:Value→Shared→Prop} {s:Shared} {name qual:Str} {params:Arguments} {body:Expr} {scope:Scope} {env:Env} {c P:Addr} {ps:Array Value} {pos:Pos} {mg:Str→Option Value} {Q:Value→Shared→Prop}
theorem HF (jg:closureFor scope env=pure (q::r)) (FT:env.globals=mainGlobals) (hg:s.heap.Ns mainGlobals mg) (BZ:env.code= .ref c) (C:CodeHd s.heap c P) (hP:s.heap.get? P=some (tabObj ps)) (ht:TriplesOk ps.toList)
  (Pb:codeAmong pos ps.toList=none) (Wy:mainGlobals≠P) (hb:s.heap.BuiltinsAt mg P)
  (h:∀c' oc vs t xl h' tk,Heap.ExtBut P s.heap h'→s.heap.objs.size≤c'→h'.get? c'=some oc→oc.cls= .type "code"→oc.data= .fields vs→vs[1]?=some (.str qual t)→h'.get? P=some (tabObj (ps++ #[rawInt pos.line,rawInt pos.col,.ref c'])) →
   Q (.ref h'.objs.size) { s with heap:=h'.push (kla_obj name qual params body scope (q::r) ((mg "__name__").getD .none) c' xl),toks:=tk }) :
  wpAny M A (makeFunction name qual params (.expr body) scope env [] [] [] pos pos.line) Q E s:=by
 refine wh hb fun bm ob hbm Hg O WN hbo BY QV QU=> ?_;clear hb
 rw [makeFunction_eq]
 simp only [List.zip_nil_right,List.filterMap_nil,List.isEmpty_nil,if_true,pure_bind]
 unfold makeTail
 rw [jg,FT]
 simp only [pure_bind,List.isEmpty_cons,rv,ou]
 refine aJ (wpAny_newTextTuple ?_)
 have kp:∀ {x:Obj} b o,s.heap.get? b=some o→(s.heap.push x).get? b=some o:=fun b o e=>bG _ e
 refine aJ (wpAny_functionCodeX BZ ((C.keeps kp).code (kp _ _ hP) ht) ((C.keeps kp).tab (kp _ _ hP)) Pb fun c' h' tk hx FT cu O Rg xy WO=> ?_)
 have sP:Heap.ExtBut P s.heap h':=fun b o hb e=>hx b o hb (kp _ _ e)
 have hg':=hg.extBut sP Wy
 refine gK Rg fun c2 oc vs t e2 MR hd hv=> ?_;clear Rg
 rw [←Value.ref.inj e2] at MR
 obtain ⟨_,_,_,⟨o2,ER,ho2,MK,_⟩,_⟩:=WO
 rw [←cH (MR.symm.trans ho2)] at MK
 refine aJ (wpAny_builtinsFor hg' hbm Hg (sP _ _ WN hbo) BY QV QU ?_)
 refine aJ (wpAny_nsGet hg' ?_)
 refine nB ?_ ?_
 ·exact h c' oc vs t _ h' tk sP (aN (by rw [wD];exact hX _) FT) MR MK hd hv xy.2
 ·size_fits
end
noncomputable def Ga.mn (γ:Ga) (F:List (Addr × Obj)):Ga:={γ with fz:=F++γ.fz}
section
variable {M:Model} {aab:Program} {w:World} {n:Nat} {A:Around} {σ:St} {D:iV} {hT:Heap} {l:List Env} {γ:Ga} {g:GH} {s:Shared} {E:Value→Shared→Prop} {env:Env} {c P:Addr}
theorem Ga.jm (γ:Ga) (F:List (Addr × Obj)):γ.Le (γ.mn F):=⟨Pl.Le.refl _,fun O O h=>h,fun O h=>cB _ h⟩
theorem HP.mn (H:HP aab w hT γ σ g) (hF:∀x∈F,g x.1=some x.2∧x.1∉γ.fp∧¬ wO x.2):HP aab w hT (γ.mn F) σ g:=
 have l:=γ.jm F
 ⟨H.cs,H.len,fun i b ob hb hc=>let ⟨c,x,r⟩:=H.obj i b ob hb hc;⟨c,x,r.up l⟩,H.new,fun x hx=>(cU.mp hx).elim (hF x) (H.fz x),H.nd,⟨H.tb.1.up l fun O e=>e,H.tb.2.up l fun O e=>e⟩,H.tn⟩
theorem HP.tab (H:HP aab w hT γ σ g) (G9:(P=471∧D=jL w)∨(P=504∧D=jM w)):P∈tabs∧hT.get? P=none∧kH γ g P D:=
 G9.elim (fun h=>h.1▸h.2▸⟨.head _,H.tn.1,H.tb.1⟩) fun h=>h.1▸h.2▸⟨.tail _ (.head _),H.tn.2,H.tb.2⟩
theorem HP.YE (H:HP aab w hT γ σ g) (G9:(P=471∧D=jL w)∨(P=504∧D=jM w)) (t:kH γ (g.set P o) P D):HP aab w hT γ σ (g.set P o):=by
 have nd:=H.nd
 unfold Ga.fp at nd
 rw [hY,hY] at nd
 have ht:=H.tab G9
 refine bc ht.2.2 fun ps J9 O=> ?_
 have hP:=ht.1
 refine ⟨⟨H.cs.len,H.cs.nd,H.cs.Ny,H.cs.new,fun i q ab hp hc=>(H.cs.at_ i q ab hp hc).imp ?_ (cD fun x=>cD fun y=>cD fun t=>cD fun u=>And.imp (fun e=>(GH.au _ _ fun e'=>nd.2.2 q.2 (dC.mpr ⟨q,bL hp,rfl⟩) P (cB _ hP) e').trans e) id)⟩,H.len,fun i a ob ha hb=>(H.obj i a ob ha hb).imp fun c z=>⟨(GH.au _ _ (nd.2.1.2.2 a (bL ha) P hP)).trans z.1,z.2⟩,H.new,fun x hx=> ?_,H.nd,G9.elim ?_ ?_,H.tn⟩
 ·exact fun a=>(GH.au _ _ fun e=>nomatch cH (J9.symm.trans ((aD g e).symm.trans a))).trans a
 ·have z:=H.fz x hx
  exact ⟨(GH.au _ _ fun e:x.1=P=>z.2.1 (e▸cB _ (cB _ hP))).trans z.1,z.2⟩
 ·exact fun h=>⟨h.1▸h.2▸t,H.tb.2.up (Ga.Le.refl _) fun o e=>(GH.au _ _ (h.1▸by decide)).trans e⟩
 ·exact fun h=>⟨H.tb.1.up (Ga.Le.refl _) fun o e=>(GH.au _ _ (h.1▸by decide)).trans e,h.1▸h.2▸t⟩
theorem tE (h:o.cls= .type "code"):¬ wO o:=fun z=>z.1.elim fun t z=>(show "code"∉IC by decide) ((Value.type.inj (h.symm.trans z.1)).symm▸z.2)
theorem zC:¬ wO { cls:=cl,data:=.func fd}:=fun z=>z.2.elim fun f h=>nomatch h
theorem At.TL (S:At hT l g h) (n:g c=none) (e:h.get? c=some o) (nf:c∉lJ l):At hT l (g.set c o) h:=⟨fun b x q=>GH.bS o n _ _ (S.base b x q),fun b x q=>by
 by_cases hb:b=c
 ·rw [hb,GH.set_same] at q;exact hb▸q▸e
 ·rw [GH.au _ _ hb] at q;exact S.a5 _ _ q,fun b hb=>(GH.au _ _ fun q:b=c=>nf (q▸hb)).trans (S.jx b hb),S.cO⟩
theorem xM {γ1:Ga} {g1:GH} {s1:Shared} {c':Addr} {oc:Obj} {vs:Array Value} {t:Tok} {cl:List (Str × Addr)} {pm xl:Value} {tk:Nat} {caps:List (Str × Value)} {Q:Value→Shared→Prop} (G:Go hT l γ g s γ1 g1 s1) (H:HP aab w hT γ1 σ g1) (hm:(c',oc)∈γ1.fz) (hd:oc.data= .fields vs) (hv:vs[1]?=some (.str D.qual t))
  (hc:∀p∈caps,∃ca o,cl.lookup p.1=some ca∧(ca,o)∈γ.fz∧o.data= .cell (some p.2)) (k:∀aj g' s' a,Go hT l γ g s aj g' s'→HP aab w hT aj σ g'→eW aj a D caps→Q (.ref a) s') :
  Q (.ref s1.heap.objs.size) { s1 with heap:=s1.heap.push (kla_obj "<lambda>" D.qual D.params D.body D.scope cl pm c' xl),toks:=tk }:=
 have z:=Go.Sm (t:=tk) G.at_ H (kla_obj "<lambda>" D.qual D.params D.body D.scope cl pm c' xl) rfl zC
 k _ _ _ _ (G.trans z.1) z.2 ⟨cl,pm,c',xl,oc,vs,t,.head _,.tail _ hm,hd,hv,fun p hp=>(hc p hp).imp fun ca=>cD fun o q=>⟨q.1,.tail _ (G.le.fz _ q.2.1),q.2.2⟩⟩
theorem CH (S:At hT l g s.heap) (H:HP aab w hT γ σ g) (G9:(P=471∧D=jL w)∨(P=504∧D=jM w)) (J9:g P=some (tabObj ps)) (Pc:TriplesOk ps.toList) (Pb:codeAmong D.pos ps.toList=none)
  (hx:Heap.ExtBut P s.heap h') (FT:s.heap.objs.size≤c') (MR:h'.get? c'=some oc) (BY:oc.cls= .type "code") (hd:oc.data= .fields vs) (hv:vs[1]?=some (.str D.qual t)) (We:h'.get? P=some (tabObj (ps++ #[rawInt D.pos.line,rawInt D.pos.col,.ref c']))) :
  Go hT l γ g s (γ.nN c' oc) ((g.set c' oc).set P (tabObj (ps++ #[rawInt D.pos.line,rawInt D.pos.col,.ref c']))) {s with heap:=h',toks:=tk}∧HP aab w hT (γ.nN c' oc) σ ((g.set c' oc).set P (tabObj (ps++ #[rawInt D.pos.line,rawInt D.pos.col,.ref c']))):=by
 have ht:=H.tab G9
 have nc:g c'=none:=by
  cases e:g c' with
  | none=>rfl
  | some o=>exact absurd (cA (S.a5 _ _ e)) (rr.mpr FT)
 have Zu:c'≠P:=fun e=>nomatch nc.symm.trans ((aD g e).trans J9)
 have le:=GH.bS oc nc
 have H1:=(H.mono le).nN (GH.set_same _ _ _) (H.fresh nc) (tE BY)
 have tu:=S.turn (I:=[P]) (g':=g.set P (tabObj (ps++ #[rawInt D.pos.line,rawInt D.pos.col,.ref c']))) (fun b hb=>dX.mp hb▸⟨⟨_,J9⟩,ht.2.1⟩) (fun b o hb e=>hx b o (fun q=>hb (q▸.head _)) e) (fun b hb=>GH.au _ _ fun q:b=P=>hb (q▸.head _)) fun b hb o e=>by
  rw [dX.mp hb,GH.set_same] at e
  rw [dX.mp hb]
  exact e▸We
 have S1:=tu.1.TL ((GH.au _ _ Zu).trans nc) MR fun hb=>rr.mpr FT (S.QA _ hb)
 rw [←GH.set_comm _ _ _ Zu] at S1
 exact ⟨⟨S1,⟨tu.2,rfl,rfl,rfl⟩,γ.gV _ _,fun b o nb e=>⟨nb,(GH.au _ _ fun q:b=P=>nb (q▸cB _ (cB _ ht.1))).trans (le _ _ e)⟩,fun ca O e hz q hq=>(cF.mp hq).elim (fun r z=>e (by rw [←z,r];exact nc)) (hz q)⟩,
  H1.YE G9 ⟨_,GH.set_same _ _ _,by rw [E7];exact TriplesOk_snoc _ _ _ _ Pc,.inr ⟨c',oc,vs,t,by rw [E7];exact codeAmong_snoc _ Pc Pb,.head _,hd,hv⟩⟩⟩
structure LO (w:World) (γ:Ga) (env:Env) (c P:Addr) (D:iV) (caps:List (Str × Value)):Prop where
 tab:(P=471∧D=jL w)∨(P=504∧D=jM w)
 qual:env.qual++ "<lambda>"=D.qual
 code:env.code= .ref c
 head:codeHdIn (KK w) c P=true
 defs:defaultsOf D.params env=([],[])
 free:∀x,(x,NameKind.free)∈D.scope.names→∃ca,env.cells.lookup x=some ca
 ne:fK env.cells D.scope.names []≠[]
 caps:∀p∈caps,(p.1,NameKind.free)∈D.scope.names∧∃ca o,env.cells.lookup p.1=some ca∧(ca,o)∈γ.fz∧o.data= .cell (some p.2)
theorem CJ {caps:List (Str × Value)} {Q:Value→Shared→Prop} (X:Cx w hT A l n) (S:At hT l g s.heap) (H:HP aab w hT γ σ g) (C:LO w γ env c P D caps) (ZA:env.globals=mainGlobals)
  (k:∀aj g' s' a,Go hT l γ g s aj g' s'→HP aab w hT aj σ g'→eW aj a D caps→Q (.ref a) s'):wpAny M A (eval (.Lambda D.params D.body D.scope D.pos) env) Q E s:=by
 have ht:=H.tab C.tab
 refine iL ht.2.2 fun ps J9 Pc hcd=> ?_
 have jg:=iy (sc:=D.scope) (env:=env) C.free
 refine nv X.T.bi fun mg bm ob b0 b1 b2 b3 b4 b5 b6=> ?_
 have kT:=S.a8
 have Wy:mainGlobals≠P:=fun e=>b0.elim fun o z=>z.elim fun O z=>z.elim fun O z=>nomatch ht.2.1.symm.trans ((aD hT.get? e).symm.trans z.1)
 have hbg:bm≠mainGlobals:=fun e=>b0.elim fun o z=>z.elim fun O z=>z.elim fun O z=>nomatch b6.symm.trans ((aD Obj.data (cH (b3.symm.trans ((aD hT.get? e).trans z.1)))).trans z.2.1)
 have hbp:bm≠P:=fun e=>nomatch ht.2.1.symm.trans ((aD hT.get? e).symm.trans b3)
 have Zv:s.heap.BuiltinsAt mg P:=⟨bm,ob,b1,b2,hbg,hbp,kT _ _ b3,b4,b5,b6⟩
 have hC:=codeHd_of_K (X.T.nL kT) C.head
 have ML:∀p∈caps,∃ca o,(fK env.cells D.scope.names []).lookup p.1=some ca∧(ca,o)∈γ.fz∧o.data= .cell (some p.2):=fun p hp=>(C.caps p hp).2.imp fun ca=>cD fun o z=>⟨gB z.1 (C.caps p hp).1,z.2⟩
 refine kla_eval C.defs ?_
 rw [C.qual]
 refine hcd.elim (fun Pb=> ?_) fun z=>z.elim fun c' z=>z.elim fun oc z=>z.elim fun vs z=>z.elim fun t z=> ?_
 ·cases UT:fK env.cells D.scope.names [] with
  | nil=>exact absurd UT C.ne
  | cons q r=>
   rw [UT] at jg ML
   refine HF jg ZA (b0.keeps kT) C.code hC (S.a5 _ _ J9) Pc Pb Wy Zv fun c' oc vs t xl h' tk hx FT MR BY hd hv We=> ?_
   have z:=CH (tk:=tk) S H C.tab J9 Pc Pb hx FT MR BY hd hv We
   exact xM z.1 z.2 (.head _) hd hv ML k
 ·exact kla_makeFunctionHit jg ZA (b0.keeps kT) C.code hC (S.a5 _ _ J9) Pc z.1 Zv fun xl h' tk hk hsz=>xM (s1:={s with heap:=h' }) (tk:=tk) (Go.keeps S (t:=s.toks) hk) H z.2.1 z.2.2.1 z.2.2.2 ML k
end
section
variable {aab:Program} {w:World} {n m:Nat} {A:Around} {σ:St} {D:iV} {hT:Heap} {aac:List Env} {γ aj:Ga} {g g1 g':GH} {s s₁ s':Shared} {E:PE} {env:Env} {ns:bJ} {L f:Addr} {vs:List (Option Value)} {Fl:List (Addr × Obj)} {R:Result→Shared→Prop}
 {dM:Value} {qual:Str} {ps:List Str} {body:List Stmt} {sc:Scope} {vals:List Value} {caps:List (Str × Value)}
theorem GL:(∀p∈caps,∃ca o,env.cells.lookup p.1=some ca∧g ca=none∧g1 ca=some o∧o.data= .cell (some p.2)) →
  ∃F:List (Addr × Obj),(∀x∈F,g1 x.1=some x.2∧g x.1=none∧¬ wO x.2)∧∀p∈caps,∃ca o,env.cells.lookup p.1=some ca∧(ca,o)∈F∧o.data= .cell (some p.2):=by
 induction caps with
 | nil=>exact fun O=>⟨[],(fun O h=>nomatch h),fun O h=>nomatch h⟩
 | cons p r ih=>
  intro h
  have h:=cc.mp h
  exact (ih h.2).elim fun F z=>h.1.elim fun ca e=>e.elim fun o e=>⟨(ca,o)::F,cc.mpr ⟨⟨e.2.2.1,e.2.1,fun q=>q.2.elim fun z hz=>nomatch e.2.2.2.symm.trans hz⟩,z.1⟩,cc.mpr ⟨⟨ca,o,e.1,.head _,e.2.2.2⟩,fun q hq=>(z.2 q hq).imp fun O=>cD fun O z=>⟨z.1,.tail _ z.2.1,z.2.2⟩⟩⟩
theorem BE (X:Cx w hT A aac n) (hn:m+1≤n) (Pf:PA (KK w) f dM qual ps body sc) (S:At hT aac g s.heap) (H:HP aab w hT γ σ g) (hlen:vals.length=ps.length) (QP:∀p∈caps,sc.names.lookup p.1=some .cell∧(ps.zip vals).lookup p.1=some p.2)
  (h:∀env L s₁ g1 F,env.qual=qual++ ".<locals>."→env.globals=mainGlobals→env.code=dM→kg env L sc.names→Cx w hT (A.deeper env) (env::aac) m→GH.le g g1→(∀x∈F,g x.1=none)→HP aab w hT (γ.mn F) σ g1 →
   (∀p∈caps,∃ca o,env.cells.lookup p.1=some ca∧(ca,o)∈(γ.mn F).fz∧o.data= .cell (some p.2))→Fs hT env sc.names aac s L (eP sc.names (ps.zip vals)) g1 s₁ →
   wpAny (model aab w) (A.deeper env) (execs body env) (pH R) (FJ (model aab w) (A.deeper env) env R) s₁) :
  codeAny (model aab w) A (.call (.ref f) ⟨vals,[]⟩) R s:=by
 refine BD X hn Pf S hlen fun env L s₁ g1 hE X' le hc UH F=> ?_
 obtain ⟨Fl,h1,h2⟩:=GL (g:=g) (g1:=g1) (env:=env) (caps:=caps) fun p hp=>by
  have q:=QP p hp
  obtain ⟨ca,xx⟩:=yL.mp (Fi sc.names (L+1) [] (.inl q.1))
  rw [show cellsFrom (L+1) sc.names []=env.cells from hE▸rfl] at xx
  refine yq (hc _ _ xx) fun q1 q2 ca' o q3 q4 q5=> ?_
  rw [aW (by rw [q.1];exact nofun),q.2] at q5
  exact ⟨ca,o,xx,q1,(aD g1 (cH (xx.symm.trans q3))).trans q4,q5⟩
 exact h env L s₁ g1 Fl (hE▸rfl) (hE▸rfl) (hE▸rfl) F.f.ok X' le (fun x hx=>(h1 x hx).2.1) ((H.mono le).mn fun x hx=>⟨(h1 x hx).1,H.fresh (h1 x hx).2.1,(h1 x hx).2.2⟩) (fun p hp=>(h2 p hp).imp fun ca=>cD fun o z=>⟨z.1,dF _ z.2.1,z.2.2⟩) F
structure Gk (γ:Ga) (g:GH) (aj:Ga) (g':GH):Prop where
 le:γ.Le aj
 tr:gb γ g aj g'
 fk:kh γ g aj
theorem Gk.of (G:Go hT l γ g s aj g' s'):Gk γ g aj g':=⟨G.le,G.tr,G.fk⟩
theorem Gk.trans (x:Gk γ g aj g') (y:Gk aj g' uM uP):Gk γ g uM uP:=⟨x.le.trans y.le,x.tr.trans y.tr,x.fk.trans x.tr y.fk⟩
theorem Gk.enter (le:GH.le g g1) (hF:∀x∈Fl,g x.1=none):Gk γ g (γ.mn Fl) g1:=⟨γ.jm Fl,fun b o nb e=>⟨nb,le _ _ e⟩,fun ca nf e hz q hq=>(cU.mp hq).elim (fun h z=>e (((z)▸(hF q h)))) (hz q)⟩
theorem Gk.out (G:Gk γ g aj g') (F:Fs hT env ns aac s L vs g' s'):Go hT aac γ g s aj g' s':=⟨F.f.done,F.bk,G.le,G.tr,G.fk⟩
theorem RC (hA:A'.frames=some (env::aac)) (F:Fs hT env ns aac s L vs g1 s₁) (K:Gk γ g γ1 g1) (G:Go hT (env::aac) γ1 g1 s₁ aj g' s2) (H':HP aab w hT aj af g') (he:E af) (er:Er hT w.params (env::aac) g' s2 x s')
  (k2:∀aj g' af s₁ e s',Go hT aac γ g s aj g' s₁→HP aab w hT aj af g'→E af→Er hT w.params aac g' s₁ e s'→R (.error e) s'):FJ (model aab w) A' env R x s':=by
 obtain ⟨a,uP,sy,t,rfl,rfl,vC,S',kp,Xe⟩:=er.er.ex
 have G2:=G.trans ⟨S',⟨kp,er.same⟩,Ga.Le.refl _,gb.of_le vC,kh.refl _ _⟩
 have Fs:=F.back G2.at_ G2.bk
 exact leaveX ⟨Fs.f.at_,Fs.f.ok,Fs.f.loc,Kp.refl _ _,Fs.f.out⟩ hA Xe (by rintro _ ⟨⟩) (fun O O q=>q) fun h' er=>k2 _ _ _ s' _ _ ((K.trans (.of G2)).out Fs) (H'.mono vC) he ⟨er,rfl,rfl,rfl⟩
theorem xK (G9:(P=471∧D=jL w)∨(P=504∧D=jM w)) (hq:env.qual++ "<lambda>"=D.qual) (BZ:env.code= .ref c) (hC:codeHdIn (KK w) c P=true) (Wu:defaultsOf D.params env=([],[])) (hf:D.scope.names.all (fun p=>p.2 != .free || (caps.map (·.1)).contains p.1)=true) (hc:caps.all (fun p=>D.scope.names.contains (p.1,.free))=true) (h0:p0∈caps)
  (jg:∀p∈caps,∃ca o,env.cells.lookup p.1=some ca∧(ca,o)∈γ.fz∧o.data= .cell (some p.2)):LO w γ env c P D caps:=
 have cf:∀p∈caps,(p.1,NameKind.free)∈D.scope.names:=fun p hp=>yG.mp (iQ.mp hc p hp)
 ⟨G9,hq,BZ,hC,Wu,fun x hx=>(dC.mp (yG.mp (iQ.mp hf _ hx))).elim fun p z=>(jg p z.1).imp fun ca q=>q.elim fun o q=>(show p.1=x from z.2)▸q.1,(fun z=>(jg p0 h0).elim fun ca q=>q.elim fun o q=>nomatch (aD (List.lookup p0.1) z).symm.trans (gB (acc:=[]) q.1 (cf p0 h0))),fun p hp=>⟨cf p hp,jg p hp⟩⟩
end
section
variable {w:World}
theorem n7:nsIn (KK w) mainGlobals "rest_where"=some (some (.ref 483)):=by kernel_rfl
theorem iq:keepIn (KK w) (.ref 483)=true:=by kernel_rfl
theorem K7:(eA w).sc.names=[(("thing":Str),NameKind.cell),("value",.local),("is_same",.cell),("rest_where",.globalImplicit)]:=by kernel_rfl
theorem K0:(dv w).sc.names=[(("key":Str),NameKind.cell),("value",.local),("is_same",.cell),("is_by_cdr",.cell),("found",.local),("rest_where",.globalImplicit),("NIL",.globalImplicit)]:=by kernel_rfl
noncomputable def M6 (D:iV):Expr:=.Lambda D.params D.body D.scope D.pos
theorem Iu:∃p1 p2 p3 p4,(eA w).body=[.Return (some (.Call (.Name "rest_where" p1) [.Name "value" p2,M6 (jL w)] [] p3)) p4]:=⟨_,_,_,_,rfl⟩
theorem It:∃p1 p2 p3 p4 p5 e p6,(dv w).body=[.Assign [.Name "found" p1] (.Call (.Name "rest_where" p2) [.Name "value" p3,M6 (jM w)] [] p4) p5,.Return (some e) p6]∧g8 (dv w).sc.names (.jK (.op .isA (.cons (.loc 4) (.cons (.g (.av .nil)) .nil))) (.g (.av .nil)) (.op .nJ (.cons (.loc 4) .nil))) e=true:=⟨_,_,_,_,_,_,_,rfl,by kernel_rfl⟩
end
section
variable {aab:Program} {w:World} {n:Nat} {σ:St}
theorem yc {A:Around} {hT:Heap} {γ:Ga} {g:GH} {s:Shared} {env:Env} {D:iV} {c P L:Addr} {ns:bJ} {caps:List (Str × Value)} {v:Value} {V Zj:Mine.V} {p1 p2 p3:Pos} {Q:PV} {E:PE} {Qc Ec:Value→Shared→Prop} {aac:List Env} {s₀:Shared} {vs:List (Option Value)}
  (X:Cx w hT A (env::aac) (n+7)) (F:Fs hT env ns aac s₀ L vs g s) (H:HP aab w hT γ σ g) (C:LO w γ env c P D caps)
  (hv:Loc ns vs "value" .local v) (hg:(("rest_where":Str),NameKind.globalImplicit)∈ns) (hV:aq w γ v V) (Wn:∀aj a,γ.Le aj→eW aj a D caps→aq w aj (.ref a) Zj) (h:aB aab w (n+7) (.fn 483) [V,Zj] Q E σ)
  (k:∀aj g' af s' v V,Go hT (env::aac) γ g s aj g' s'→HP aab w hT aj af g'→aq w aj v V→Q V af→Qc v s')
  (ke:∀aj g' af s₁ e s',Go hT (env::aac) γ g s aj g' s₁→HP aab w hT aj af g'→E af→Er hT w.params (env::aac) g' s₁ e s'→Ec e s') :
  wpAny (model aab w) A (eval (.Call (.Name "rest_where" p1) [.Name "value" p2,M6 D] [] p3) env) Qc Ec s:=by
 refine qj rfl (gl F X.T n7 hg (bp (ld F hv (bp ?_))))
 refine CJ X F.S H C F.f.ok.gl fun aj g' s' a G H' hc=>mJ ⟨RB iq (X.T.nL G.at_.a8),sJ ?_⟩
 exact h X G.at_ H' (.fn iq) (.cons (hV.up G.le) (.cons (Wn _ _ G.le hc) .nil)) (fun gN g2 eg s2 v V G2 H2 hv hq=>Bv (k _ _ _ _ _ _ (G.trans G2) H2 hv hq)) fun gN g2 eg s2 e s3 G2 H2 he er=>Bu (ke _ _ _ _ _ _ (G.trans G2) H2 he er)
theorem Ba (h:aB aab w (n+7) (.fn 483) [v,.ll x f] Q E σ):aB aab w (n+1+7) (.fn 476) [.av x,v,.fn f] Q E σ:=fun {hT A aac γ g s R fv vals} X S H hv dR k1 k2=>
 dR.jt fun vx vv vf h1 h2 h3=>by
 rw [iB hv,h3.1]
 refine BE (m:=n+7) (caps:=[("is_same",.ref f),("thing",vx)]) X (bT (j8 n 7 1)) (eA w).pf S H rfl (by rw [K7]; exact cc.mpr ⟨⟨rfl,rfl⟩,j9.mpr ⟨rfl,rfl⟩⟩) fun env L s₁ g1 Fl eq egl V0 JS X' le hF H1 jg F=> ?_
 refine yt (Iu (w:=w)) fun p1 p2 p3 p4 e=> ?_
 rw [e]
 rw [K7] at F
 have l1:=γ.jm Fl
 exact dg (pq (yc (c:=475) (P:=471) X' F H1 (xK (.inl ⟨rfl,rfl⟩) (by rw [eq];kernel_rfl) V0 (by kernel_rfl) (by kernel_rfl) (by kernel_rfl) (by kernel_rfl) (.head _) jg) (.tail .head) (.tail _ (.tail _ (.tail _ (.head _)))) (h2.up l1) (fun aj a l hc=>.ll hc (h1.up (l1.trans l)) h3.2) h (fun aj g' af s' v V G H' hv hq=>tM (k1 _ _ _ _ _ _ (((Gk.enter le hF).trans (.of G)).out (F.back G.at_ G.bk)) H' hv hq)) fun aj g' af s2 e s' G H' he er=>RC X'.fr F (.enter le hF) G H' he er k2))
@[elab_as_elim] theorem ao.MA {γ:Ga} {xs:List Value} {a b c d:V} (h:ao w γ xs [a,b,c,d]) {P:List Value→Prop} (k:∀x y z u,aq w γ x a→aq w γ y b→aq w γ z c→aq w γ u d→P [x,y,z,u]):P xs:=
 h.cons_inv.elim fun x h=>h.elim fun r h=>h.1▸h.2.2.jt (P:=fun r=>P (x::r)) fun y z u hy hz hu=>k x y z u h.2.1 hy hz hu
theorem Bb {x:AV} {v:V} {f:Addr} {b:Bool} {Q:PV} {E:PE} (h:aB aab w (n+7) (.fn 483) [v,.lq x f b] (fun v af=>∃a,v= .av a∧((a= .nil∧Q (.av .nil) af)∨∃i ab,a= .cell i∧af.cells[i]?=some ab∧Q (.av ab.1) af)) E σ):aB aab w (n+1+7) (.fn 509) [.av x,v,.fn f,.bool b] Q E σ:=fun {hT A aac γ g s R fv vals} X S H hv dR k1 k2=>
 dR.MA fun vx vv vf vb h1 h2 h3 h4=>by
 rw [iB hv,h3.1,h4]
 refine BE (m:=n+7) (caps:=[("is_same",.ref f),("key",vx),("is_by_cdr",.bool b)]) X (bT (j8 n 7 1)) (dv w).pf S H rfl (by rw [K0]; exact cc.mpr ⟨⟨rfl,rfl⟩,cc.mpr ⟨⟨rfl,rfl⟩,j9.mpr ⟨rfl,rfl⟩⟩⟩) fun env L s₁ g1 Fl eq egl V0 JS X' le hF H1 jg F=> ?_
 refine z5 (It (w:=w)) fun p1 p2 p3 p4 p5 e p6 eb ce=> ?_
 rw [eb]
 rw [K0] at F JS ce
 have l1:=γ.jm Fl
 refine dg (LF (yc (c:=508) (P:=504) X' F H1 (xK (.inr ⟨rfl,rfl⟩) (by rw [eq];kernel_rfl) V0 (by kernel_rfl) (by kernel_rfl) (by kernel_rfl) (by kernel_rfl) (.head _) jg) (.tail .head) (.tail _ (.tail _ (.tail _ (.tail _ (.tail _ (.head _)))))) (h2.up l1) (fun aj a l hc=>.lq hc (h1.up (l1.trans l)) h3.2) h (fun aj g' af s' u V G H' hv hq=> ?_) fun aj g' af s2 e s' G H' he er=>RC X'.fr F (.enter le hF) G H' he er k2))
 refine bc hq fun a hV hq=> ?_
 rw [hV] at hv
 have K1:=(Gk.enter le hF (γ:=γ)).trans (.of G)
 have gg:∀p∈[(("is_same":Str),Value.ref f),("key",vx),("is_by_cdr",.bool b)],gv hT false aj g' env p.1 (some p.2):=fun p hp=>(jg p hp).imp fun ca=>cD fun o z=>have q:=H'.fz _ (G.le.fz _ z.2.1); ⟨z.1,q.1,z.2.2,q.2.1,nofun⟩
 have lg:=l1.trans G.le
 refine st (F.back G.at_ G.bk) (.tail (.tail (.tail (.tail .head)))) fun s2 F2=>iG (dg (pq ?_))
 refine cQ X' (sD _ X'.room (cJ 7 n)) _ (jz.nm JS) ce ⟨_,F2,.gg (.inl rfl) (gg _ (.tail _ (.head _))) (.some (h1.up lg)) (.loc (.some (h2.up lg)) (.gg (.inl rfl) (gg _ (.head _)) (.some (.fn h3.2)) (.gg (.inl rfl) (gg _ (.tail _ (.tail _ (.head _)))) (.some .bool) (.loc (.some hv) (.lr (.lr .nil))))))⟩ H' (E:=fun O=>False) (Q:=Q) ?_ (fun LK g3 k6 s3 v V G3 H3 hv hq=>tM (k1 _ _ _ _ _ _ ((K1.trans (.of G3)).out (F2.back G3.at_ G3.bk)) H3 hv hq)) fun O O O O O O O O he O=>he.elim
 exact hq.elim (fun q=>q.1.symm▸ah (.inr rfl) q.2) fun q=>q.elim fun i q=>q.elim fun ab q=>q.1.symm▸ah (.inr rfl) (aK q.2.1 q.2.2)
end
end Mine
end
section
open PySem PySem.W
namespace Mine
structure Xt (c:Cells) (σ af:St):Prop where
 c:af.cells=c
 o:∀ {i:Nat} {x},σ.objs[i]?=some x→af.objs[i]?=some x
theorem Xt.refl (σ:St):Xt σ.cells σ σ:=⟨rfl,id⟩
theorem Xt.trans {c c' σ af bh} (a:Xt c σ af) (b:Xt c' af bh):Xt c' σ bh:=⟨b.c,fun h=>b.o (a.o h)⟩
theorem Xt.to {c σ af bh} (a:Xt c σ af) (b:Xt af.cells af bh):Xt c σ bh:=⟨b.c.trans a.c,fun h=>b.o (a.o h)⟩
theorem Xt.fr {c σ af} {i:Nat} (a:Xt c σ af) (h:af.objs[i]?=none):σ.objs[i]?=none:=by
 cases e:σ.objs[i]? with
 | none=>rfl
 | some x=>exact (fg (a.o e) h).elim
theorem f6.xt {σ af i o} (h:f6 σ af i o):Xt σ.cells σ af:=⟨h.c,fun e=>by rw [h.o,ow (bl.mp e).1];exact e⟩
theorem f6.at_ {σ af i o} (h:f6 σ af i o):af.objs[i]?=some o:=h.o▸h.i▸nD
theorem f6.gj {σ af i o} (h:f6 σ af i o):σ.objs[i]?=none:=h.i▸Fv (bz _)
theorem aI {σ:St} {i x o} (h:σ.objs[i]?=some x):(σ.aV i o).objs[i]?=some o:=px (bl.mp h).1
theorem aF {σ:St} {i j o} (h:i≠j):(σ.aV i o).objs[j]?=σ.objs[j]?:=uI h
theorem Xt.set {c σ af i o} (a:Xt c σ af) (h:σ.objs[i]?=none):Xt c σ (af.aV i o):=⟨a.c,fun {j x} e=>(aF fun q:i=j=>fg e (q▸h)).trans (a.o e)⟩
theorem Bg {P:AV→Prop} {v:AV} (h:v.aE=true) (k:∀i,P (.cell i)):P v:=by
 cases v with
 | cell i=>exact k i
 | _=>cases h
theorem rP {P:AV→Prop} {v:AV} (h:v.aE=false→P v) (k:∀i,P (.cell i)):P v:=by
 cases v with
 | cell i=>exact k i
 | _=>exact h rfl
theorem ml {α β:Type} {f:α→β} {l:List α} (h:l.length<900000):(l.map f).length<1000000:=(cL ..).symm▸cV h (by decide)
theorem Pk {α β γ:Type} {f:α→β} {g:β→γ} {l:List α} (h:l.length<900000):((l.map f).map g).length<1000000:=ml ((cL ..).symm▸h)
theorem add_r {a b n:Nat} (h:a+b<n):b<n:=cY (cJ _ _) h
@[reducible] noncomputable def hd (l:List (Nat × AV)) (e:AV):AV:=match l with | []=>e | x::_=>.cell x.1
theorem Chain.fV {v l e} (h:Chain c v l e):v=hd l e:=by induction h <;> rfl
theorem Chain.FP {v l e} (h:Chain c v l e):Chain c (hd l e) l e:=h.fV▸h
theorem Chain.tl {c:Cells} {v y l e} (h:Chain c v (y::l) e):Chain c (hd l e) l e:=by
 obtain ⟨d,_,_,h⟩:=h.jH;exact h.FP
theorem Chain.at_ {c:Cells} {v y l e} (h:Chain c v (y::l) e):c[y.1]?=some (y.2,hd l e):=by
 obtain ⟨d,_,h1,h2⟩:=h.jH;rw [h1,h2.fV]
theorem Chain.Xv {l l' e} (h:Chain c (hd l e) l e) (h':Chain c (hd l' e) l' e) (hl:l.length<l'.length):hd l e≠hd l' e:=h.apart h' (eR hl)
section
variable {T:aO→(Bool→St→Prop)→PE→St→Prop} {B:aO→(Fl→aO→St→Prop)→(aO→St→Prop)→St→Prop} {K:Fl→aO→St→Prop} {E:aO→St→Prop} {σ:St}
theorem rN {β:Type} (F:β→aO) (I:β→St→Prop) (μ:β→Nat) {z:β} (h:I z σ)
  (s1:∀z σ (K':Fl→aO→St→Prop),I z σ→(∀z' af,μ z'<μ z→I z' af→K' .next (F z') af∧K' .cont (F z') af)→(∀v fr σ,K (.ret v) fr σ→K' (.ret v) fr σ) →
   T (F z) (fun t af=>ey t (B (F z) K' E af) (K .next (F z) af)) (E (F z)) σ):Jw T B (F z) K E σ:=
 PH (fun m fr s=>∃z,F z=fr∧μ z=m∧I z s) (μ z) ⟨z,rfl,rfl,h⟩ fun m fr s h=>h.elim fun z h=>h.1▸s1 z s _ h.2.2 (fun z' af hm h'=>⟨⟨_,h.2.1▸hm,z',rfl,rfl,h'⟩,⟨_,h.2.1▸hm,z',rfl,rfl,h'⟩⟩) fun v fr σ h=>h
theorem LW {β δ:Type} (F:β→δ→aO) (I:β→δ→St→Prop) (μ:β→Nat) {z:β} {j:δ} (h:I z j σ)
  (s1:∀z j σ (K':Fl→aO→St→Prop),I z j σ→(∀z' j' af,μ z'<μ z→I z' j' af→K' .next (F z' j') af∧K' .cont (F z' j') af)→(∀v fr σ,K (.ret v) fr σ→K' (.ret v) fr σ) →
   T (F z j) (fun t af=>ey t (B (F z j) K' E af) (K .next (F z j) af)) (E (F z j)) σ):Jw T B (F z j) K E σ:=
 rN (β:=β × δ) (z:=(z,j)) (fun z=>F z.1 z.2) (fun z=>I z.1 z.2) (fun z=>μ z.1) h fun z s K' H hN=>s1 z.1 z.2 s K' H fun z' j' af=>hN (z',j') af
theorem pI {β γ δ:Type} (F:β→γ→δ→aO) (I:β→γ→δ→St→Prop) (μ:β→γ→Nat) {z:β} {y:γ} {j:δ} (h:I z y j σ)
  (s1:∀z y j σ (K':Fl→aO→St→Prop),I z y j σ→(∀z' y' j' af,μ z' y'<μ z y→I z' y' j' af→K' .next (F z' y' j') af∧K' .cont (F z' y' j') af)→(∀v fr σ,K (.ret v) fr σ→K' (.ret v) fr σ) →
   T (F z y j) (fun t af=>ey t (B (F z y j) K' E af) (K .next (F z y j) af)) (E (F z y j)) σ):Jw T B (F z y j) K E σ:=
 rN (β:=β × γ × δ) (z:=(z,y,j)) (fun z=>F z.1 z.2.1 z.2.2) (fun z=>I z.1 z.2.1 z.2.2) (fun z=>μ z.1 z.2.1) h fun z s K' H hN=>s1 z.1 z.2.1 z.2.2 s K' H fun z' y' j' af=>hN (z',y',j') af
@[elab_as_elim] theorem xp {P:AV→Prop} {v u:AV} (h:v=u) (k:P u):P v:=h.symm▸k
theorem mS {α:Type} {P:List α→Prop} (l:List α) (h0:P []) (h1:∀y ys,P (y::ys)):P l:=by
 cases l with
 | nil=>exact h0
 | cons y ys=>exact h1 y ys
theorem rM {α β:Type} (F:List α→β→aO) (I:List α→β→St→Prop) {l:List α} {z:β} (h:I l z σ)
  (s0:∀z σ (B':St→Prop),I [] z σ→T (F [] z) (fun t af=>ey t (B' af) (K .next (F [] z) af)) (E (F [] z)) σ)
  (s1:∀y ys z σ (K':Fl→aO→St→Prop),I (y::ys) z σ→(∀z' af,I ys z' af→K' .next (F ys z') af)→(∀v fr σ,K (.ret v) fr σ→K' (.ret v) fr σ) →
   T (F (y::ys) z) (fun t af=>ey t (B (F (y::ys) z) K' E af) (K .next (F (y::ys) z) af)) (E (F (y::ys) z)) σ):Jw T B (F l z) K E σ:=
 rN (β:=List α × β) (z:=(l,z)) (fun z=>F z.1 z.2) (fun z=>I z.1 z.2) (fun z=>z.1.length) h fun z s K'=>
  mS (P:=fun l=>I l z.2 s→(∀(z':List α × β) af,z'.1.length<l.length→I z'.1 z'.2 af→K' .next (F z'.1 z'.2) af∧K' .cont (F z'.1 z'.2) af)→(∀v fr σ,K (.ret v) fr σ→K' (.ret v) fr σ)→T (F l z.2) (fun t af=>ey t (B (F l z.2) K' E af) (K .next (F l z.2) af)) (E (F l z.2)) s) z.1
   (fun hI O O=>s0 z.2 s _ hI) fun y ys hI hN=>s1 y ys z.2 s K' hI fun z' af h'=>(hN (ys,z') af (iO _) h').1
theorem Ay {α β γ:Type} (F:List α→β→γ→aO) (I:List α→β→γ→St→Prop) {l:List α} {z:β} {y:γ} (h:I l z y σ)
  (s0:∀z y σ (B':St→Prop),I [] z y σ→T (F [] z y) (fun t af=>ey t (B' af) (K .next (F [] z y) af)) (E (F [] z y)) σ)
  (s1:∀x xs z y σ (K':Fl→aO→St→Prop),I (x::xs) z y σ→(∀z' y' af,I xs z' y' af→K' .next (F xs z' y') af)→(∀v fr σ,K (.ret v) fr σ→K' (.ret v) fr σ) →
   T (F (x::xs) z y) (fun t af=>ey t (B (F (x::xs) z y) K' E af) (K .next (F (x::xs) z y) af)) (E (F (x::xs) z y)) σ):Jw T B (F l z y) K E σ:=
 rM (β:=β × γ) (z:=(z,y)) (fun l z=>F l z.1 z.2) (fun l z=>I l z.1 z.2) h (fun z s B' H=>s0 z.1 z.2 s B' H) fun x xs z s K' H hN=>s1 x xs z.1 z.2 s K' H fun z' y' af=>hN (z',y') af
end
theorem Lb {a b:Nat} {t:Int} (ht:0<t) (h:2*(a:Int)+t≤2*(b:Int)):a<b:=ud fun q=>Int.not_le.mpr ht (Int.le_of_add_le_add_left (a:=2*(a:Int)) (uJ h (uJ (Int.mul_le_mul_of_nonneg_left (ry.mpr q) (by decide)) (pB (yM _).symm))))
theorem K9 {a b t:Int} (h:2*(a+1)+t≤2*(b+1)) (hp:(t+1) % 2=0):2*a+(t+1)≤2*b:=by omega
theorem La {a b t:Int} (h:2*(a+1)+t≤b):2*a+(t+1)≤b:=by
 rw [Int.mul_add,Int.add_right_comm,yJ _ t] at h
 exact uJ (Fx (Fx (by decide) t) _) h
theorem SV {α β:Type} {t:Int} (ht:0≤t) {ys:List α} {ws:List β} (h:2*(ys.length:Int)+(t+1)≤2*(ws.length:Int)):ys.length<ws.length:=Lb (Int.lt_add_one_of_le ht) h
theorem NY {α β:Type} {t:Int} {y:α} {ys:List α} {w:β} {ws:List β} (h:2*((y::ys).length:Int)+t≤2*((w::ws).length:Int)) (hp:(t+1) % 2=0):2*(ys.length:Int)+(t+1)≤2*(ws.length:Int):=K9 h hp
theorem NZ {α β:Type} {t:Int} {y:α} {ys:List α} {ws:List β} (h:2*((y::ys).length:Int)+t≤2*(ws.length:Int)):2*(ys.length:Int)+(t+1)≤2*(ws.length:Int):=La h
theorem XJ {α:Type} {t:Int} (ht:0≤t) {y:α} {ys:List α} (h:2*((y::ys).length:Int)+t≤2*(([]:List α).length:Int)):False:=yN _ (SV ht (NZ h))
theorem YG {α β:Type} {T:List V} {v:V} {y:α} {ys:List α} {w:β} {ws:List β} (h:2*(y::ys).length+T.length≤2*(w::ws).length) (hp:(((T++[v]).length:Nat):Int) % 2=0):2*ys.length+(T++[v]).length≤2*ws.length:=by
 rw [bK] at hp ⊢
 exact ry.mp (K9 (a:=(ys.length:Int)) (b:=(ws.length:Int)) (t:=(T.length:Int)) (ry.mpr h) hp)
theorem YH {α β:Type} {T:List V} {v:V} {y:α} {ys:List α} {ws:List β} (h:2*(y::ys).length+T.length≤2*ws.length):2*ys.length+(T++[v]).length≤2*ws.length:=by
 rw [bK]
 exact ry.mp (La (a:=(ys.length:Int)) (b:=((2*ws.length:Nat):Int)) (t:=(T.length:Int)) (ry.mpr h))
theorem TM {α β:Type} {T:List V} {v:V} {ys:List α} {ws:List β} (h:2*ys.length+(T++[v]).length≤2*ws.length):ys.length<ws.length:=
 Nat.lt_of_mul_lt_mul_left (fu (ue (bK▸pC _)) h)
@[reducible] noncomputable def cv (x:Nat × AV):V:=.av x.2
theorem wQ (h:T++(y::ys).map f=L):(T++[f y])++ys.map f=L:=(fA T [f y] _).trans h
theorem Jy {T R L:List V} {N:Nat} (hl:L.length<N) (h:T++R=L):T.length<N:=by rw [←h,bK] at hl;exact cY (b9 _ _) hl
theorem qr {l l':List (Nat × AV)} {e:AV} (h:l.length<l'.length):(hd l' e).isNum=false:=by
 induction l' with
 | nil=>exact absurd h (yN _)
 | cons=>rfl
theorem jJ {α β:Type} {G:St→Prop} {B:List V→aO→(Fl→aO→St→Prop)→St→Prop} {K:Fl→aO→St→Prop} (g:α→List V) (F:β→aO) (I:List α→β→St→Prop) (hg:∀l z σ,I l z σ→G σ) (s0:∀z σ,I [] z σ→K .next (F z) σ)
  (s1:∀y ys z σ (K':Fl→aO→St→Prop),I (y::ys) z σ→(∀z' af,I ys z' af→K' .next (F z') af)→(∀v fr σ,K (.ret v) fr σ→K' (.ret v) fr σ)→B (g y) (F z) K' σ) :
  ∀ {l:List α} {items:List (List V)} {z:β} {σ:St},items=l.map g→I l z σ→forL G B items (F z) K σ:=by
 rintro l _ z σ rfl
 induction l generalizing z σ with
 | nil=>intro h;exact ⟨hg _ _ _ h,s0 _ _ h⟩
 | cons y ys ih=>intro h;exact ⟨hg _ _ _ h,s1 y ys z σ _ h (fun z' af h'=>ih h') fun v fr σ h=>h⟩
theorem Mz {β:Type} {G:St→Prop} {B:List V→aO→(Fl→aO→St→Prop)→St→Prop} {K:Fl→aO→St→Prop} (F:β→aO) (I:Nat→β→St→Prop) (hg:∀l z σ,I l z σ→G σ) (s0:∀z σ,I 0 z σ→K .next (F z) σ)
  (s1:∀n z σ (K':Fl→aO→St→Prop),I (n+1) z σ→(∀z' af,I n z' af→K' .next (F z') af)→(∀v fr σ,K (.ret v) fr σ→K' (.ret v) fr σ)→B [.num n] (F z) K' σ) :
  ∀ {n:Nat} {z:β} {σ:St},I n z σ→forL G B (sH n) (F z) K σ:=by
 intro n
 induction n with
 | zero=>intro z σ h;exact ⟨hg _ _ _ h,s0 _ _ h⟩
 | succ n ih=>intro z σ h;exact ⟨hg _ _ _ h,s1 n z σ _ h (fun z' af h'=>ih h') fun v fr σ h=>h⟩
theorem cC {α:Type} {G:St→Prop} {B:List V→(Option V→St→Prop)→St→Prop} {K:List V→St→Prop} (g:α→List V) (I:List α→List V→St→Prop) (hg:∀l z σ,I l z σ→G σ) (s0:∀z σ,I [] z σ→K z σ)
  (s1:∀y ys z σ (K':Option V→St→Prop),I (y::ys) z σ→(∀v af,I ys (z++[v]) af→K' (some v) af)→(∀af,I ys z af→K' none af)→B (g y) K' σ) :
  ∀ {l:List α} {items:List (List V)} {z:List V} {σ:St},items=l.map g→I l z σ→mF G B items z K σ:=by
 rintro l _ z σ rfl
 induction l generalizing z σ with
 | nil=>intro h;exact ⟨hg _ _ _ h,s0 _ _ h⟩
 | cons y ys ih=>intro h;exact ⟨hg _ _ _ h,s1 y ys z σ _ h (fun v af h'=>ih h') fun af h'=>ih h'⟩
noncomputable def made (c:Cells):List AV→AV→Cells × AV
 | [],e=>(c,e)
 | a::as,e=>((made c as e).1++[(a,(made c as e).2)],.cell (made c as e).1.length)
noncomputable def cP (c:Cells):Nat→AV→Option AV
 | 0,v=>some v
 | n+1,v=>if v= .nil then some .nil else (gf c v).bind (cP c n)
theorem Chain.Sn {c:Cells} {a:AV} {l:List (Nat × AV)} {e:AV} (h:Chain c a l e):a= .nil→l=[]:=by
 induction h with
 | cell=>exact fun q=>nomatch q
 | _=>exact fun O=>rfl
theorem Chain.Sq {a l e} (h:Chain c a l e) (q:a.isNum=true):e≠ .nil:=by
 induction h with
 | num=>intro h;cases h
 | nil=>cases q
 | cell=>cases q
theorem Chain.nm {a l e} (h:Chain c a l e) (q:a.isNum=true):l=[]∧e=a:=by
 induction h with
 | num=>exact ⟨rfl,rfl⟩
 | nil=>cases q
 | cell=>cases q
theorem mH {α:Type} {l:List α} {k:Nat} {y:α} (h:l[k]?=some y):l.drop k=y::l.drop (k+1):=by
 obtain ⟨hk,rfl⟩:=bl.mp h
 exact wH hk
theorem Xt.cl {c σ af} (h:Xt c σ af) {i:Nat} {x:AV × AV} (e:c[i]?=some x):af.cells[i]?=some x:=by rw [h.c];exact e
theorem jq (h:b≠ .nil) (k:Nat):cP c (k+1) b=(gf c b).bind (cP c k):=aW h
theorem zX {z:Int} (h:z>0):z.toNat=(z - 1).toNat+1:=(Int.eq_succ_of_zero_lt h).elim fun n e=>e▸(aD (fun z:Int=>z.toNat+1) (uv (n:Int) 1)).symm
theorem Ui {z:Int} (h:¬z>0):z.toNat=0:=Int.toNat_of_nonpos (Int.not_lt.mp h)
theorem Lx {z:Int} (h:z>0):(z - 1).toNat<z.toNat:=zX h▸iO _
theorem Chain.PZ {b l e} (h:Chain c b l e) (hn:b.isNum=false):(gf c b).isSome=true:=by
 induction h with
 | nil=>rfl
 | num=>cases hn
 | cell h=>exact (aD (fun o:Option (AV × AV)=>(o.map (·.2)).isSome) h)
theorem Chain.PY {b l e} (h:Chain c b l e) (hn:b.isNum=false):(iu c b).isSome=true:=by
 induction h with
 | nil=>rfl
 | num=>cases hn
 | cell h=>simp [iu,h]
theorem Chain.Bf (h:∃l e,Chain c b l e) (hx:gf c b=some x):∃l e,Chain c x l e:=by
 obtain ⟨l,e,h⟩:=h
 induction h with
 | nil=>cases hx;exact ⟨_,_,.nil⟩
 | num=>cases hx
 | cell h h'=>simp [gf,h] at hx;subst hx;exact ⟨_,_,h'⟩
section
variable {σ:St} {i:Nat} {a b:V} {k:V→Prop}
theorem ly (h:σ.objs[i]?=some (.lst [a])) (q:k a):vD σ i 0 k:=ba h (dY rfl) (lB 0) rfl q
theorem bg (h:σ.objs[i]?=some (.lst [a,b])) (q:k a):vD σ i 0 k:=ba h (dY rfl) (lB 0) rfl q
theorem bO (h:σ.objs[i]?=some (.lst [a,b])) (q:k b):vD σ i 1 k:=ba h (dY rfl) (by decide) rfl q
end
theorem fO:∀ {a b},(∃l e,Chain c a l e)→cP c k a=some b→∃l e,Chain c b l e:=by
 induction k with
 | zero=>exact fun h e=>cH e▸h
 | succ k ih=>exact fun {a b} h e=>if q:a= .nil then cH ((bE q).symm.trans e)▸⟨_,_,.nil⟩ else bc (Fe.mp ((jq q k).symm.trans e)) fun x hx e=>ih (Chain.Bf h hx) e
noncomputable def kQ (l:List (Nat × AV)):AV:=match l.getLast? with | some x=>.cell x.1 | none=>.nil
noncomputable def d9 (c:Cells) (l:List (Nat × AV)) (b:AV):Cells:=match l.getLast? with | some x=>c.set x.1 (x.2,b) | none=>c
theorem zE {c:Cells} {e:AV} {l:List (Nat × AV)}:∀ {a:AV},Chain c a l e→a.isNum=false→cP c (l.length - 1) a=some (kQ l):=by
 induction l with
 | nil=>
  intro a h hn
  have h:=h.Ib
  rw [←h.1] at h
  induction a with
  | nil=>rfl
  | num=>cases hn
  | cell=>cases h.2
 | cons x l ih=>cases l with
  | nil=>exact fun h O=>aD some h.fV
  | cons y r=>
   intro a h _
   have e:gf c (.cell x.1)=some (.cell y.1):=aD (Option.map fun x:AV × AV=>x.2) h.at_
   rw [h.fV]
   exact (jq (k:=r.length) (nofun:AV.cell x.1≠ .nil)).trans ((aD (·.bind (cP c r.length)) e).trans (ih h.tl rfl))
theorem jN {l:List V}:(Max.max 0 ((l.length:Int) - 1))=((l.length - 1:Nat):Int):=by
 cases l with
 | nil=>rfl
 | cons _ l=>exact (aD (Max.max 0) (uv (l.length:Int) 1)).trans (Int.max_eq_right (dB _))
theorem CL {l:List V}:(Max.max 0 ((l.length:Int) - Max.max 0 1))=((l.length - 1:Nat):Int):=jN
theorem Chain.jf {c:Cells} {e:AV} {x:Nat × AV} {l:List (Nat × AV)}:∀ {a:AV},Chain c a l e→l.getLast? =some x→c[x.1]?=some (x.2,e):=by
 induction l with
 | nil=>exact fun O hx=>nomatch hx
 | cons y l ih=>cases l with
  | nil=>exact fun h hx=>cH hx▸h.at_
  | cons z r=>exact fun h hx=>ih h.tl ((List.getLast?_cons_cons).symm.trans hx)
theorem Chain.RF (h:Chain c a l e) (hn:a.isNum=false) (hz:a≠ .nil):∃x,l.getLast? =some x∧∃y r,l=y::r∧a= .cell y.1:=by
 induction h with
 | nil=>exact (hz rfl).elim
 | num=>cases hn
 | @cell i b d l e _ _=>exact ⟨_,List.getLast?_eq_some_getLast (Fy _ _),_,_,rfl,rfl⟩
theorem qn (h:r=(y::ys).find? p):(p y=true→r=some y)∧(p y=false→r=ys.find? p):=by
 exact ⟨fun q=>h.trans (yF q),fun q=>h.trans (Fn (wI.mp q))⟩
noncomputable def cM (o:Option (Nat × AV)):AV:=match o with | some x=>.cell x.1 | none=>.nil
noncomputable def aT (c:Cells):List (Nat × AV)→Cells
 | []=>c
 | h::r=>aT (c.set h.1 (h.2,hd r .nil)) r
theorem DS {c:Cells} {h y:Nat × AV} {r:List (Nat × AV)}:aT c (h::y::r)=aT (c.set h.1 (h.2,.cell y.1)) (y::r):=rfl
theorem tQ {c:Cells} {i:Nat} {x:AV × AV} (h:c[i]?=some x):c.set i x=c:=by
 obtain ⟨hi,rfl⟩:=bl.mp h
 exact List.set_getElem_self hi
theorem vP:aT (c.set h.1 (h.2,x)) (h::r)=aT c (h::r):=aD (aT · r) (List.set_set ..)
theorem Chain.nodup (h:Chain c v l e):(l.map (·.1)).Nodup:=by
 induction h with
 | nil=>exact .nil
 | num=>exact .nil
 | @cell i a d l e hc hd ih=>
  rw [dh,bV]
  refine ⟨fun hm=> ?_,ih⟩
  refine bc (dC.mp hm) fun x hx hxi=> ?_
  obtain ⟨k,hk,hkx⟩:=List.getElem_of_mem hx
  obtain ⟨u,hu⟩:=hd.suffix k (eu hk)
  have WX:=hu
  rw [wH hk] at hu
  refine iL hu.jH fun d' ZT O O=> ?_
  rw [hkx,hxi] at ZT
  subst ZT
  exact absurd (wK.symm.trans (aD List.length (WX.det (Chain.cell hc hd)).1)) (eR (E9 (nE _ _)))
theorem Chain.IE (h:Chain c v l e) (hi:i∉l.map (·.1)):Chain (c.set i x) v l e:=by
 induction h with
 | nil=>exact .nil
 | num=>exact .num _
 | @cell j a d l e hc hd ih=>
  rw [dh,cF,not_or] at hi
  exact .cell (by rw [uI hi.1];exact hc) (ih hi.2)
theorem AB (h:T++R=L) (hk:T.length=k∨R=[]∧T.length≤k):T=L.take k:=by
 subst h
 rcases hk with rfl | ⟨rfl,hk⟩
 ·simp
 ·rw [gq,List.take_of_length_le hk]
theorem R2 {T:List AV} {k:Nat} (h:(((T.map V.av).length:Nat):Int)<(k:Int)):T.length<k:=nC.mp (cL (f:=V.av)▸h)
theorem R3 {T:List AV} {k:Nat} (h:¬(((T.map V.av).length:Nat):Int)<(k:Int)):k≤T.length:=uc fun q=>h (nC.mpr ((cL (f:=V.av)).symm▸q))
theorem PI (h:T++(y::ys).map f=L):(T++[f y])++ys.map f=L:=(fA T [f y] _).trans h
theorem fF {T R L:List AV} {N:Nat} (hl:L.length<N) (h:T++R=L):(T.map V.av).length<N:=by rw [cL];rw [←h,bK] at hl;exact cY (b9 _ _) hl
theorem AA:T.map V.av++[V.av a]=(T++[a]).map V.av:=(bY (f:=V.av) (l₁:=T) (l₂:=[a])).symm
theorem Jz (h:T++R=L) (hk:T.length≤k) (h0:R=[]):L.length=T.length:=h▸h0▸aD List.length (gq T)
noncomputable def iC (o:Option (Nat × AV)):AV:=match o with | some x=>x.2 | none=>.nil
noncomputable def cg (c:Cells) (b:Bool) (q:AV→Bool) (y:AV):Bool:=match y with | .cell i=>(match c[i]? with | some ab=>q (if b then ab.2 else ab.1) | none=>false) | _=>false
theorem xg (h:c[i]?=some ab):cg c b q (.cell i)=q (if b then ab.2 else ab.1):=by
 show (match c[i]? with | some ab=>q (if b then ab.2 else ab.1) | none=>false)=_
 rw [h]
theorem Chain.mem {v l e} (h:Chain c v l e):∀x∈l,∃d,c[x.1]?=some (x.2,d):=by
 induction h with
 | nil=>intro x h;cases h
 | num=>intro x h;cases h
 | cell hc _ ih=>
  intro x h
  rcases cF.mp h with rfl | h
  ·exact ⟨_,hc⟩
  ·exact ih x h
theorem Xm {m:Nat} (h:m<1000000):(m:Int)<longest:=Int.lt_trans (Int.ofNat_lt.mpr h) (by unfold longest;decide)
noncomputable def MB.drop:Nat→MB→MB
 | 0,m=>m
 | _,.nil=>.nil
 | n+1,.cons _ r=>r.drop n
theorem R6 {l:List (Nat × AV)}:(l.map cv).map (fun x=>[x])=l.map fun x=>[cv x]:=by rw [dj];rfl
noncomputable def dT (b:AV) (x:Nat × AV):Bool:= !decide (b=x.2)
theorem x6 {b:AV} {x:Nat × AV} (h:¬b=x.2):dT b x=true:=by unfold dT;rw [decide_eq_false h];rfl
theorem x5 (h:b=x.2):¬dT b x=true:=by unfold dT;rw [decide_eq_true h];decide
def Au (b:AV) (R:Cells) (c:Cells):List (Nat × AV)→Prop
 | []=>c=R
 | h::rs=>Chain c (.cell h.1) (h::rs) .nil∧aT c (h::rs.filter (dT b))=R
theorem Au.last {b R c h} (H:Au b R c [h]):Au b R c []:=by
 have:=H.2
 exact (this)▸((tQ H.1.at_).symm)
theorem Au.skip {b R c h y r} (H:Au b R c (h::y::r)) (hb:¬b=y.2):Au b R c (y::r):=by
 refine ⟨H.1.tl,?_⟩
 rw [←H.2,oA,bE (x6 hb),DS,tQ]
 exact H.1.at_
theorem Au.del {b R c h y r} (H:Au b R c (h::y::r)) (hb:b=y.2):Au b R (c.set h.1 (h.2,hd r .nil)) (h::r):=by
 have nd:=H.1.nodup
 simp only [dh,bV,cF,not_or] at nd
 refine ⟨.cell (by rw [px (bl.mp H.1.at_).1]) (H.1.tl.tl.IE nd.1.2),?_⟩
 rw [vP,←H.2,oA,aW (x5 hb)]
noncomputable def ay (c:Cells):List AV→Cells × List AV
 | []=>(c,[])
 | .cell i::as=>((ay (c++[(c[i]?).getD (.nil,.nil)]) as).1,.cell c.length::(ay (c++[(c[i]?).getD (.nil,.nil)]) as).2)
 | a::as=>((ay c as).1,a::(ay c as).2)
theorem xj (h:c[i]?=some ab):ay c (.cell i::as)=((ay (c++[ab]) as).1,.cell c.length::(ay (c++[ab]) as).2):=aD (fun o:Option (AV × AV)=>((ay (c++[o.getD (.nil,.nil)]) as).1,AV.cell c.length::(ay (c++[o.getD (.nil,.nil)]) as).2)) h
theorem lG (h:a.aE=false):ay c (a::as)=((ay c as).1,a::(ay c as).2):=by cases a <;> first | rfl | cases h
theorem qL {l:List (Nat × AV)}:l.map cv=(l.map (·.2)).map V.av:=by rw [dj];rfl
theorem Qz (h:z++((y::ys).filter (dT b)).map cv=R) (hb:¬b=y.2):z++[cv y]++(ys.filter (dT b)).map cv=R:=by
 rw [oA,bE (x6 hb)] at h;exact (fA z [cv y] _).trans h
theorem Qy (h:z++((y::ys).filter (dT b)).map cv=R) (hb:b=y.2):z++(ys.filter (dT b)).map cv=R:=by
 rwa [oA,aW (x5 hb)] at h
theorem Br (h:R=((ay c1 (.cell i::as)).1,z++(ay c1 (.cell i::as)).2)) (e:c1[i]?=some ab):R=((ay (c1++[ab]) as).1,(z++[.cell c1.length])++(ay (c1++[ab]) as).2):=by
 exact h.trans ((aD (fun o:Option (AV × AV)=>((ay (c1++[o.getD (.nil,.nil)]) as).1,z++ .cell c1.length::(ay (c1++[o.getD (.nil,.nil)]) as).2)) e).trans (aD (Prod.mk _) (fA z [.cell c1.length] _).symm))
theorem Bs (h:R=((ay c1 (a::as)).1,z++(ay c1 (a::as)).2)) (e:a.aE=false):R=((ay c1 as).1,(z++[a])++(ay c1 as).2):=by
 rw [h,lG e];exact aD (Prod.mk _) (fA z [a] _).symm
theorem eY:∀ {c:Cells} {as:List AV},(ay c as).2.length=as.length
 | c,[]=>rfl
 | c,.cell i::as=>aD Nat.succ eY
 | c,.nil::as=>aD Nat.succ eY
 | c,.num k::as=>aD Nat.succ eY
inductive Lk (c:Cells):Nat→AV→AV→Bool→Nat→Prop
 | eq (d a):Lk c d a a true 1
 | ne {d a b}:a≠b→(a.aE && b.aE)=false→Lk c d a b false 1
 | tr {d i j x y r n m}:i≠j→c[i]?=some x→c[j]?=some y→Lk c d x.1 y.1 true n→Lk c d x.2 y.2 r m→Lk c (d+1) (.cell i) (.cell j) r (1+(n+m))
 | fa {d i j x y n}:i≠j→c[i]?=some x→c[j]?=some y→Lk c d x.1 y.1 false n→Lk c (d+1) (.cell i) (.cell j) false (1+n)
structure Sk where
 id:Nat
 t:f9
 d:Nat
 r:Bool
 n:Nat
@[reducible] noncomputable def gJ:List Sk→Nat
 | []=>0
 | x::s=>x.n+bif x.r then gJ s else 0
def Aq (c:Cells) (a s:AV) (t:Int):Prop:=∃L S e,Chain c a L e∧Chain c s S e∧2*(L.length:Int)+t≤2*(S.length:Int)
structure OZ (c:Cells) (x:Sk):Prop where
 lk:Lk c x.d x.t.left x.t.right x.r x.n
 dp:0≤x.t.deep∧x.t.deep+x.d≤200
 tn:0≤x.t.turn
 cl:Aq c x.t.left x.t.sl x.t.turn
 cr:Aq c x.t.right x.t.sr x.t.turn
theorem Chain.JY (h:Chain c (.cell i) l e) (hx:c[i]?=some x):∃l',l=(i,x.1)::l'∧Chain c x.2 l' e:=by
 generalize ha:AV.cell i=a at h
 induction h with
 | nil=>cases ha
 | num=>cases ha
 | @cell j b d l e hc h1=>
  have e1:=AV.cell.inj ha
  have e2:=cH (hx.symm.trans ((aD (c[·]?) e1).trans hc))
  exact ⟨l,by rw [e1,e2],e2▸h1⟩
theorem lP (ht:t>0) (h:Aq c a s t):a≠s∧s.isNum=false∧∃i x,s= .cell i∧c[i]?=some x:=
 nu h fun L S e h1 h2 h3=>by
 have hl:=Lb ht h3
 refine ⟨h1.apart h2 (eR hl),?_⟩
 induction S with
 | nil=>exact absurd hl (yN _)
 | cons y r=>exact (h2.fV)▸(⟨rfl,_,_,rfl,h2.at_⟩)
theorem ym (hx:c[i]?=some x) (h:Aq c (.cell i) s t) :
  ((t+1) % 2=0→∀j y,s= .cell j→c[j]?=some y→Aq c x.2 y.2 (t+1))∧Aq c x.2 s (t+1):=
 nu h fun L S e h1 h2 h3=>bc (Chain.JY h1 hx) fun L' eL h1=>by
  rw [eL] at h3
  exact ⟨fun hp j y hs hy=>bc (Chain.JY (hs▸h2) hy) fun S' eS h2=>⟨_,_,_,h1,h2,NY (eS▸h3) hp⟩,_,_,_,h1,h2,NZ h3⟩
noncomputable def f9.go (t:f9) (x y:AV) (u v:AV):f9:=⟨x,y,t.deep,t.turn+1,if t.turn % 2=1 then u else t.sl,if t.turn % 2=1 then v else t.sr⟩
theorem dU {σ:St} {i o o'}:(σ.aV i o).aV i o'=σ.aV i o':=aD (St.mk σ.cells) (List.set_set ..)
theorem Lk.pos {c d a b r n} (h:Lk c d a b r n):0<n:=by
 induction h with
 | eq=>exact Nat.one_pos
 | ne=>exact Nat.one_pos
 | tr=>exact E8 Nat.one_pos _
 | fa=>exact E8 Nat.one_pos _
theorem Lk.Lg {c d a b r n} (h:Lk c d a b r n):a=b→r=true∧n=1:=by
 induction h with
 | eq=>exact fun O=>⟨rfl,rfl⟩
 | ne h=>exact fun e=>absurd e h
 | tr h=>exact fun e=>absurd (AV.cell.inj e) h
 | fa h=>exact fun e=>absurd (AV.cell.inj e) h
theorem Lk.same {c d a r n} (h:Lk c d a a r n):r=true∧n=1:=h.Lg rfl
theorem Lk.Xx {c d a b r n} (h:Lk c d a b r n) (hn:a≠b) (hc:(a.aE && b.aE)=false):r=false:=by
 induction h with
 | eq=>exact absurd rfl hn
 | ne=>rfl
 | tr=>cases hc
 | fa=>rfl
theorem Lk.Rv {c d a b r n} {R:Prop} (h:Lk c d a b r n) (hn:a≠b) (hc:(a.aE && b.aE)=true)
  (k:∀ {d' i j x y r1 n1 r2 n2},d=d'+1→a= .cell i→b= .cell j→c[i]?=some x→c[j]?=some y→Lk c d' x.1 y.1 r1 n1→(r1=true→Lk c d' x.2 y.2 r2 n2)→r=(r1 && r2)→n=1+(n1+bif r1 then n2 else 0)→R):R:=by
 induction h with
 | eq=>exact (hn rfl).elim
 | ne _ h=>exact tf (hc.symm.trans h)
 | tr _ hx hy h1 h2=>exact k rfl rfl rfl hx hy h1 (fun O=>h2) rfl rfl
 | fa _ hx hy h1=>exact k (r2:=false) (n2:=0) rfl rfl rfl hx hy h1 (fun h=>nomatch h) rfl rfl
theorem VY (h:0≤dp∧dp+((d+1:Nat):Int)≤200):0≤dp+1∧dp+1+(d:Int)≤200:=⟨uy h.1,uJ (pB ((yJ dp 1 d).trans (aD (dp+ ·) (Int.add_comm 1 d)))) h.2⟩
theorem KU {t:Int} (h:t % 2=1):(t+1) % 2=0:=(Int.add_emod t 1 2).trans (aD (fun z=>(z+1 % 2) % 2) h)
theorem KV {t:Int} (h:0≤t) (hp:t % 2=1):0<t:=Int.lt_iff_le_and_ne.mpr ⟨h,fun e=>absurd ((aD (· % 2) e).trans hp) (by decide)⟩
theorem OZ.next {c:Cells} {id d n i j d':Nat} {t:f9} {r:Bool} {x y:AV × AV} (H:OZ c ⟨id,t,d,r,n⟩) (hl:t.left= .cell i) (hr:t.right= .cell j) (hx:c[i]?=some x) (hy:c[j]?=some y) (hd:d=d'+1) :
  ∃u v,(t.turn % 2=1→∃j k,t.sl= .cell j∧c[j]?=some u∧t.sr= .cell k∧c[k]?=some v)∧∀ {r2 n2},Lk c d' x.2 y.2 r2 n2→OZ c ⟨id,t.go x.2 y.2 u.2 v.2,d',r2,n2⟩:=
 have k1:=ym hx (hl▸H.cl)
 have k2:=ym hy (hr▸H.cr)
 have h3:0≤t.deep∧t.deep+(d':Int)≤200:=⟨H.dp.1,uJ (Fx (ry.mpr (aN (hX d') (bT hd.symm))) _) H.dp.2⟩
 have h4:0≤t.turn+1:=uy H.tn
 if hp:t.turn % 2=1 then
  EY (lP (KV H.tn hp) H.cl) fun O O i1 u e1 e2=>EY (lP (KV H.tn hp) H.cr) fun O O i2 v e3 e4=>⟨u,v,fun O=>⟨i1,i2,e1,e2,e3,e4⟩,fun hk=>
   ⟨hk,h3,h4,(aD (fun z=>Aq c x.2 z (t.turn+1)) (bE hp)).mpr (k1.1 (KU hp) _ _ e1 e2),(aD (fun z=>Aq c y.2 z (t.turn+1)) (bE hp)).mpr (k2.1 (KU hp) _ _ e3 e4)⟩⟩
 else ⟨(.nil,.nil),(.nil,.nil),fun h=>absurd h hp,fun hk=>⟨hk,h3,h4,(aD (fun z=>Aq c x.2 z (t.turn+1)) (aW hp)).mpr k1.2,(aD (fun z=>Aq c y.2 z (t.turn+1)) (aW hp)).mpr k2.2⟩⟩
def mY (c:Cells):List Sk→Prop
 | []=>True
 | x::s=>OZ c x∧(x.r=true→mY c s)
def dS:List Sk→Prop
 | []=>True
 | x::s=>s.length+x.d≤200∧dS s
theorem dS.le:∀ {k:List Sk},dS k→k.length≤201
 | [],_=>et _
 | x::s,h=>ew (aN (b9 _ _) h.1)
structure EqI (σ:St) (wi:Nat) (R:Bool) (k:List Sk) (steps:Int) (s:St):Prop where
 w:s.objs[wi]?=some (.lst (k.reverse.map fun x=>V.tk x.id))
 wf:σ.objs[wi]?=none
 ob:∀x∈k,s.objs[x.id]?=some (.task x.t)∧σ.objs[x.id]?=none
 ok:mY σ.cells k
 nd:(k.map Sk.id).Nodup
 x:Xt σ.cells σ s
 st:0≤steps∧steps+gJ k≤8000000
 r:k.all Sk.r=R
 len:dS k
theorem C1 (h:some (Ob.lst l)=some (Ob.task t)):False:=nomatch h
theorem Vh {k:List Sk}:(k.reverse.map fun x=>V.tk x.id).length=k.length:=(cL ..).trans j7
theorem YB:n1+(bif r1 then n2+(bif r2 then S else 0) else 0)+1=1+(n1+bif r1 then n2 else 0)+bif (r1 && r2) then S else 0:=by
 induction r1 with
 | false=>exact fy n1 1
 | true=>exact (aD (· +1) (uF n1 n2 _).symm).trans ((j8 (n1+n2) _ 1).trans (aD (· +_) (fy (n1+n2) 1)))
theorem Lh {y:Sk} {k:List Sk} {nt d' d'' id n1 n2:Nat} {tc tg:f9} {r1 r2:Bool} (hr:y.r=(r1 && r2)) (hn:y.n=1+(n1+bif r1 then n2 else 0)):gJ (⟨nt,tc,d',r1,n1⟩::⟨id,tg,d'',r2,n2⟩::k)+1=gJ (y::k):=by
 show _=y.n+bif y.r then gJ k else 0
 rw [hr,hn]
 exact YB
theorem Oi (hr:y.r=true) (hn:y.n=1):gJ k<gJ (y::k):=by
 show gJ k<y.n+bif y.r then gJ k else 0
 rw [hr,hn];exact Nat.lt_add_of_pos_left Nat.one_pos
theorem P0 (h:∃l e,Chain c a l e):Aq c a a 0:=jX h fun l e h=>⟨l,l,e,h,h,pB (yM _)⟩
theorem TR {st:Int} {a b:Nat} (h:0≤st∧st+(b:Int)≤8000000) (e:a+1=b):0≤st+1∧st+1+(a:Int)≤8000000:=⟨uy h.1,uJ (pB ((yJ st 1 a).trans (aD (st+ ·) ((Int.add_comm 1 a).trans (aD Nat.cast e))))) h.2⟩
namespace EqI
variable {σ s:St} {wi:Nat} {R:Bool} {y:Sk} {k:List Sk} {st:Int}
theorem zA (H:EqI σ wi R k st s) {x:Sk} (hx:x∈k):wi≠x.id:=fun e=>C1 (H.w.symm.trans (e▸(H.ob x hx).1))
theorem wp (H:EqI σ wi R (y::k) st s):s.objs[wi]?=some (.lst ((k.reverse.map fun x=>V.tk x.id)++[V.tk y.id])):=H.w.trans (by rw [j0,bY];rfl)
theorem wl (H:EqI σ wi R k st s):(k.reverse.map fun x=>V.tk x.id).length<1000000:=Vh▸cY H.len.le (dY rfl)
theorem wl1 (H:EqI σ wi R (y::k) st s):(k.reverse.map fun x=>V.tk x.id).length<1000000:=Vh▸cY H.len.2.le (dY rfl)
theorem wl2 (H:EqI σ wi R (y::k) st s):(k.reverse.map fun x=>V.tk x.id).length+2<1000000:=Vh▸cY (iP H.len.2.le 2) (dY rfl)
theorem YX (H:EqI σ wi R (y::k) st s):((((y::k).reverse.map fun x=>V.tk x.id).length:Nat):Int)>0:=(Vh (k:=y::k))▸nC.mpr (pC _)
theorem g1 (H:EqI σ wi R (y::k) st s):(s.aV wi (.lst (k.reverse.map fun x=>V.tk x.id))).objs[y.id]?=some (.task y.t):=by
 rw [aF (H.zA (.head _))];exact (H.ob y (.head _)).1
theorem BB (H:EqI σ wi R (y::k) st s) (hr:y.r=true) (hn:y.n=1):EqI σ wi R k (st+1) (s.aV wi (.lst (k.reverse.map fun x=>V.tk x.id))) where
 w:=aI H.w
 wf:=H.wf
 ob:=fun x hx=>⟨by rw [aF (H.zA (.tail _ hx))];exact (H.ob x (.tail _ hx)).1,(H.ob x (.tail _ hx)).2⟩
 ok:=H.ok.2 hr
 nd:=(bV.mp H.nd).2
 x:=H.x.set H.wf
 st:=TR H.st (by show _=y.n+bif y.r then gJ k else 0;rw [hr,hn];exact fy _ _)
 r:=((aD (· && k.all Sk.r) hr).symm.trans H.r:(true && k.all Sk.r)=R)
 len:=H.len.2
theorem psh (H:EqI σ wi R (y::k) st s) {s2 s4 s5:St} {nt li d' n1 n2:Nat} {tg tc:f9} {r1 r2:Bool} (X2:Xt σ.cells (s.aV wi (.lst (k.reverse.map fun x=>V.tk x.id))) s2) (N4:f6 (s2.aV y.id (.task tg)) s4 nt (.task tc)) (N5:f6 s4 s5 li (.lst [.tk y.id,.tk nt])) (hd:y.d=d'+1)
  (T1:OZ σ.cells ⟨nt,tc,d',r1,n1⟩) (T2:r1=true→OZ σ.cells ⟨y.id,tg,d',r2,n2⟩) (hr:y.r=(r1 && r2)) (hn:y.n=1+(n1+bif r1 then n2 else 0)) :
  wi≠li∧s5.objs[wi]?=some (.lst (k.reverse.map fun x=>V.tk x.id))∧s5.objs[li]?=some (.lst [.tk y.id,.tk nt]) ∧
  EqI σ wi R (⟨nt,tc,d',r1,n1⟩::⟨y.id,tg,d',r2,n2⟩::k) (st+1) (s5.aV wi (.lst ((k.reverse.map fun x=>V.tk x.id)++[.tk y.id,.tk nt]))):=
 have hy:=H.ob y (.head _)
 have W4:=H.zA (x:=y) (.head _)
 have nd:=bV.mp H.nd
 have w2:(s2.aV y.id (.task tg)).objs[wi]?=some (.lst (k.reverse.map fun x=>V.tk x.id)):=(aF W4.symm).trans (X2.o (aI H.w))
 have w5:=N5.xt.o (N4.xt.o w2)
 have y3:(s2.aV y.id (.task tg)).objs[y.id]?=some (.task tg):=aI (X2.o ((aF W4).trans hy.1))
 have X4:=((H.x.set H.wf).trans (X2:Xt σ.cells _ _)).set (o:=.task tg) hy.2
 have hk:∀x∈k,(s2.aV y.id (.task tg)).objs[x.id]?=some (.task x.t):=fun x hx=>
  (aF fun e:y.id=x.id=>nd.1 (e.symm▸ru hx)).trans (X2.o ((aF (H.zA (.tail _ hx))).trans (H.ob x (.tail _ hx)).1))
 have nw:∀ {i:Nat} {o},(s2.aV y.id (.task tg)).objs[i]?=some o→i≠nt:=fun h e=>fg h (e.symm▸N4.gj)
 ⟨fun e=>fg (N4.xt.o w2) (e.symm▸N5.gj),w5,N5.at_,
  {w:=(aI w5).trans (by rw [j0,j0,bY,bY,fA];rfl)
   wf:=H.wf
   ob:=cc.mpr ⟨⟨(aF (nw w2)).trans (N5.xt.o N4.at_),X4.fr N4.gj⟩,cc.mpr ⟨⟨(aF W4).trans (N5.xt.o (N4.xt.o y3)),hy.2⟩,fun x hx=>⟨(aF (H.zA (.tail _ hx))).trans (N5.xt.o (N4.xt.o (hk x hx))),(H.ob x (.tail _ hx)).2⟩⟩⟩
   ok:=⟨T1,fun h1=>⟨T2 h1,fun h2=>H.ok.2 (hr.trans (Bool.and_eq_true_iff.mpr ⟨h1,h2⟩))⟩⟩
   nd:=bV.mpr ⟨fun hm=>(cF.mp hm).elim (fun e=>nw y3 e.symm) fun hm=>bc (dC.mp hm) fun x hx e=>nw (hk x hx) e,H.nd⟩
   x:=((X4.to N4.xt).to N5.xt).set H.wf
   st:=TR H.st (Lh hr hn)
   r:=(Bool.and_assoc r1 r2 _).symm.trans ((aD (· && k.all Sk.r) hr).symm.trans H.r)
   len:=⟨aN (bT (j8 k.length 1 d')) (aN (dA (bT hd.symm) k.length) H.len.1),aN (dA (aN (hX d') (bT hd.symm)) k.length) H.len.1,H.len.2⟩ }⟩
end EqI
theorem EqI.init {σ s1 s2:St} {ti wi d m:Nat} {a b:AV} {r:Bool} (N1:f6 σ s1 ti (.task ⟨a,b,0,0,a,b⟩)) (N2:f6 s1 s2 wi (.lst [.tk ti])) (hk:Lk σ.cells d a b r m) (hd:d≤200) (hm:m≤8000000) (hc:∃l e,Chain σ.cells a l e) (cq:∃l e,Chain σ.cells b l e) :
  EqI σ wi r [⟨ti,⟨a,b,0,0,a,b⟩,d,r,m⟩] 0 s2 where
 w:=N2.at_
 wf:=N1.xt.fr N2.gj
 ob:=j9.mpr ⟨N2.xt.o N1.at_,N1.gj⟩
 ok:=⟨⟨hk,⟨lB _,(Int.zero_add (d:Int)).symm▸ry.mpr hd⟩,lB _,hc.elim fun l h=>h.elim fun e h=>⟨l,l,e,h,h,pB (yM _)⟩,cq.elim fun l h=>h.elim fun e h=>⟨l,l,e,h,h,pB (yM _)⟩⟩,fun O=>trivial⟩
 nd:=bV.mpr ⟨cS,.nil⟩
 x:=N1.xt.to N2.xt
 st:=⟨lB _,(Int.zero_add _).symm▸ry.mpr (show m+(bif r then 0 else 0)≤8000000 from by cases r <;> exact hm)⟩
 r:=Bool.and_true r
 len:=⟨(rt d).symm▸hd,trivial⟩
theorem Ql {dp:Int} {d:Nat} (h:0≤dp∧dp+d≤200):¬dp>200:=Int.not_lt.mpr (uJ (Int.le_add_of_nonneg_right (dB d)) h.2)
theorem TQ {st:Int} {m:Nat} (h:0≤st∧st+m≤8000000) (hm:0<m):¬st+1>jO:=by unfold jO;lia
structure uN (σ:St) (l:List (Nat × Ob)):Prop where
 nd:(l.map (·.1)).Nodup
 o:∀p∈l,σ.objs[p.1]?=some p.2
theorem uN.xt {c σ af l} (h:uN σ l) (x:Xt c σ af):uN af l:=⟨h.nd,fun p hp=>x.o (h.o p hp)⟩
theorem uN.upd {σ A B} {i:Nat} {o o':Ob} (h:uN σ (A++(i,o)::B)):uN (σ.aV i o') (A++(i,o')::B):=
 have e:(A++(i,o)::B).map (·.1)=A.map (·.1)++i::B.map (·.1):=bY
 have nd:=hY.mp (e▸h.nd)
 ⟨(e.trans (bY (f:=(·.1)) (l₂:=(i,o')::B)).symm)▸h.nd,fun p hp=>(cU.mp hp).elim (fun hp=>(aF fun e:i=p.1=>nd.2.2 _ (ru hp) _ (.head _) e.symm).trans (h.o p (dF _ hp)))
  fun hp=>(cF.mp hp).elim (fun e=>e▸aI (h.o (i,o) (cB _ (.head _)))) fun hp=>(aF fun e:i=p.1=>(bV.mp nd.2.1).1 (e.symm▸ru hp)).trans (h.o p (cB _ (.tail _ hp)))⟩
theorem uN.new {σ af l} {i:Nat} {o:Ob} (h:uN σ l) (N:f6 σ af i o):uN af (l++[(i,o)]):=
 ⟨(bY (f:=fun p:Nat × Ob=>p.1) (l₁:=l) (l₂:=[(i,o)])).symm▸hY.mpr ⟨h.nd,bV.mpr ⟨cS,.nil⟩,fun a ha b hb e=>bc (dC.mp ha) fun p hp e'=>fg (h.o p hp) (e'.trans (e.trans (dX.mp hb))▸N.gj)⟩,
  fun p hp=>(cU.mp hp).elim (fun hp=>N.xt.o (h.o p hp)) fun hp=>dX.mp hp▸N.at_⟩
theorem uN.rot {σ l} (h:uN σ (l++[p])):uN σ (p::l):=
 have nd:=hY.mp (bY (f:=fun p:Nat × Ob=>p.1) (l₁:=l) (l₂:=[p])▸h.nd)
 ⟨bV.mpr ⟨fun hm=>nd.2.2 _ hm _ (.head _) rfl,nd.1⟩,cc.mpr ⟨h.o p (cB _ (.head _)),fun q hq=>h.o q (dF _ hq)⟩⟩
theorem Jo {α β:Type} {x:β} {l:List α}:∀ {m:List β} {j:Nat} {a:α},l[j]?=some a→l.zip (m.set j x)=(l.zip m).set j (a,x):=by
 induction l with
 | nil=>exact fun h=>nomatch h
 | cons b l ih=>
  intro m j a h
  cases m with
  | nil=>rfl
  | cons y m=>cases j with
   | zero=>exact aD (fun b=>(b,x)::l.zip m) (cH h)
   | succ j=>exact aD ((b,y):: ·) (ih h)
structure Lo where
 st:Nat
 dk:Nat
 d0:Nat
 lc:Nat
 pr:Nat
 pl:Nat
 D:List Int
 ids:List Nat
noncomputable def pv (i:Nat):Int × V:=((i:Int),.av (.cell i))
noncomputable def co (x:AV × AV):Ob:=.lst [.lv x.1,.lv x.2]
noncomputable def Lo.sp (L:Lo) (k:Int) (c:Cells) (S:List Nat) (P:List AV):List (Nat × Ob):=
 (L.st,.dS [(3,.ob L.lc),(4,.ob L.pr),(5,.ob L.pl)])::(L.dk,.lst [.ob L.d0,.num k])::(L.d0,.lst (L.D.map V.num))::(L.lc,.lst (L.ids.map V.ob))::(L.pr,.dI (S.map pv))::(L.pl,.lst (P.map V.lv))::L.ids.zip (c.map co)
def Lo.fr (L:Lo) (i:Nat):Prop:=i∉L.st::L.dk::L.d0::L.lc::L.pr::L.pl::L.ids
structure LI (L:Lo) (c:Cells) (S:List Nat) (P:List AV) (σ:St):Prop where
 h:∃k,0≤k∧uN σ (L.sp k c S P)
 n:L.ids.length=c.length
 D:0<L.D.length∧L.D.length<1000000
 c:c.length<900000∧S.length<900000∧P.length<900000
structure Ux (L L':Lo) (σ af:St):Prop where
 st:L'.st=L.st
 dk:L'.dk=L.dk
 o:∀ {i x},σ.objs[i]?=some x→L.fr i→af.objs[i]?=some x∧L'.fr i
section
variable {L:Lo} {c:Cells} {S:List Nat} {P:List AV} {σ af:St}
namespace LI
theorem sQ (H:LI L c S P σ):(L.ids.map V.ob).length<1000000:=(cL ..).symm▸H.n▸cV H.c.1 (dY rfl)
theorem ZZ (H:LI L c S P σ):(L.ids.map V.ob++[x]).length=c.length+1:=by rw [bK,cL,H.n];rfl
theorem xt {c'} (H:LI L c S P σ) (x:Xt c' σ af):LI L c S P af:=⟨H.h.imp fun O h=>⟨h.1,h.2.xt x⟩,H.n,H.D,H.c⟩
theorem st (H:LI L c S P σ):σ.objs[L.st]?=some (.dS [(3,.ob L.lc),(4,.ob L.pr),(5,.ob L.pl)]):=H.h.elim fun O h=>h.2.o _ (.head _)
theorem dk (H:LI L c S P σ):∃k,0≤k∧σ.objs[L.dk]?=some (.lst [.ob L.d0,.num k]):=H.h.imp fun k h=>⟨h.1,h.2.o _ (.tail _ (.head _))⟩
theorem d0 (H:LI L c S P σ):σ.objs[L.d0]?=some (.lst (L.D.map V.num)):=H.h.elim fun O h=>h.2.o _ (.tail _ (.tail _ (.head _)))
theorem lc (H:LI L c S P σ):σ.objs[L.lc]?=some (.lst (L.ids.map V.ob)):=H.h.elim fun O h=>h.2.o _ (.tail _ (.tail _ (.tail _ (.head _))))
theorem pr (H:LI L c S P σ):σ.objs[L.pr]?=some (.dI (S.map pv)):=H.h.elim fun O h=>h.2.o _ (.tail _ (.tail _ (.tail _ (.tail _ (.head _)))))
theorem pl (H:LI L c S P σ):σ.objs[L.pl]?=some (.lst (P.map V.lv)):=H.h.elim fun O h=>h.2.o _ (.tail _ (.tail _ (.tail _ (.tail _ (.tail _ (.head _))))))
theorem zp {j i:Nat} {x:AV × AV} (hi:L.ids[j]?=some i) (h:c[j]?=some x):(L.ids.zip (c.map co))[j]?=some (i,co x):=List.getElem?_zip_eq_some.mpr ⟨hi,gp.trans (aD (Option.map co) h)⟩
theorem ce (H:LI L c S P σ) {j:Nat} {ab:AV × AV} (h:c[j]?=some ab):∃i,(L.ids.map V.ob)[j]?=some (.ob i)∧i∈L.ids∧L.ids[j]?=some i∧σ.objs[i]?=some (.lst [.lv ab.1,.lv ab.2]):=
 have hi:=gm (H.n.symm▸(bl.mp h).1:j<L.ids.length)
 ⟨_,gp.trans (aD (Option.map V.ob) hi),yK _,hi,H.h.elim fun O hh=>hh.2.o (_,co ab) (.tail _ (.tail _ (.tail _ (.tail _ (.tail _ (.tail _ (bL (zp hi h))))))))⟩
theorem Eu (H:LI L c S P σ):(L.sp k c S P).map (·.1)=L.st::L.dk::L.d0::L.lc::L.pr::L.pl::L.ids:=aD (fun l=>L.st::L.dk::L.d0::L.lc::L.pr::L.pl::l) (List.map_fst_zip (bT (H.n.trans (cL ..).symm)))
theorem fr (H:LI L c S P σ) (h:σ.objs[i]?=none):L.fr i:=fun hm=>H.h.elim fun k hh=>bc (dC.mp (H.Eu▸hm:i∈(L.sp k c S P).map (·.1))) fun p hp e=>fg (hh.2.o p hp) (e▸h)
end LI
theorem Ux.refl (L:Lo) (σ:St):Ux L L σ σ:=⟨rfl,rfl,fun h f=>⟨h,f⟩⟩
theorem Ux.xt {c'} (x:Xt c' σ af):Ux L L σ af:=⟨rfl,rfl,fun h f=>⟨x.o h,f⟩⟩
theorem Ux.trans (a:Ux L L' σ af) (b:Ux L' L'' af bh):Ux L L'' σ bh:=⟨b.st.trans a.st,b.dk.trans a.dk,fun h f=>b.o (a.o h f).1 (a.o h f).2⟩
theorem Ux.set {i:Nat} {o:Ob} (h:i∈L.st::L.dk::L.d0::L.lc::L.pr::L.pl::L.ids):Ux L L σ (σ.aV i o):=⟨rfl,rfl,fun {j x} e f=>⟨(aF fun q:i=j=>f (q▸h)).trans e,f⟩⟩
theorem LI.VU {k:Int} (H:LI L c S P σ) (hk:0≤k):LI L c S P (σ.aV L.dk (.lst [.ob L.d0,.num k])):=H.h.elim fun O h=>⟨⟨k,hk,h.2.upd (A:=[(_,_)])⟩,H.n,H.D,H.c⟩
theorem CK (h:l.length<899999):(l++[x]).length<900000:=bK▸uz h
theorem LI.pair {i:Nat} (H:LI L c S P σ) (hi:S.length<899999):LI L c (S++[i]) P (σ.aV L.pr (.dI (S.map pv++[((i:Int),.av (.cell i))]))):=
 H.h.elim fun k h=>⟨⟨k,h.1,(aD (fun z=>uN (σ.aV L.pr (.dI (S.map pv++[pv i]))) ((L.st,_)::(L.dk,_)::(L.d0,_)::(L.lc,_)::(L.pr,.dI z)::_)) bY).mpr (h.2.upd (A:=[(_,_),(_,_),(_,_),(_,_)]))⟩,H.n,H.D,H.c.1,CK hi,H.c.2.2⟩
theorem LI.SD {v:AV} (H:LI L c S P σ) (hi:P.length<899999):LI L c S (P++[v]) (σ.aV L.pl (.lst (P.map V.lv++[.lv v]))):=
 H.h.elim fun k h=>⟨⟨k,h.1,(aD (fun z=>uN (σ.aV L.pl (.lst (P.map V.lv++[.lv v]))) ((L.st,_)::(L.dk,_)::(L.d0,_)::(L.lc,_)::(L.pr,_)::(L.pl,.lst z)::_)) bY).mpr (h.2.upd (A:=[(_,_),(_,_),(_,_),(_,_),(_,_)]))⟩,H.n,H.D,H.c.1,H.c.2.1,CK hi⟩
theorem LI.cell {i:Nat} {a b:AV} (H:LI L c S P σ) (N:f6 σ af i (.lst [.lv a,.lv b])) (hc:c.length<899999):LI {L with ids:=L.ids++[i]} (c++[(a,b)]) S P (af.aV L.lc (.lst (L.ids.map V.ob++[.ob i]))):=
 H.h.elim fun k h=>⟨⟨k,h.1,by
  have:=(h.2.new N).upd (A:=[(_,_),(_,_),(_,_)]) (o':=.lst (L.ids.map V.ob++[.ob i]))
  unfold Lo.sp
  rw [bY,bY,List.zip_append (H.n.trans (cL ..).symm)]
  exact this⟩,bK.trans ((aD (· +1) H.n).trans (bK (as:=c) (bs:=[(a,b)])).symm),H.D,CK hc,H.c.2⟩
theorem Ux.cell {i:Nat} {o o':Ob} (N:f6 σ af i o):Ux L {L with ids:=L.ids++[i]} σ (af.aV L.lc o'):=⟨rfl,rfl,fun {j x} e f=>⟨(aF fun q:L.lc=j=>f (q▸.tail _ (.tail _ (.tail _ (.head _))))).trans (N.xt.o e),
 fun hm=>(cU.mp (hm:j∈(L.st::L.dk::L.d0::L.lc::L.pr::L.pl::L.ids)++[i])).elim f fun h=>fg e (dX.mp h▸N.gj)⟩⟩
theorem LI.IF {j i:Nat} {ab:AV × AV} (H:LI L c S P σ) (hi:L.ids[j]?=some i):LI L (c.set j ab) S P (σ.aV i (.lst [.lv ab.1,.lv ab.2])):=
 have hj:=(bl.mp hi).1
 have hz:=zp hi (gm (H.n▸hj:j<c.length))
 have e:=(uq j (L.ids.zip (c.map co))).symm.trans (aD (_++ ·) (mH hz))
 have e2:L.ids.zip ((c.set j ab).map co)=(L.ids.zip (c.map co)).take j++(i,co ab)::(L.ids.zip (c.map co)).drop (j+1):=by
  rw [List.map_set,Jo hi,List.set_eq_take_append_cons_drop,bE (bl.mp hz).1]
 H.h.elim fun k h=>⟨⟨k,h.1,by
  have h:=h.2
  unfold Lo.sp at h ⊢
  rw [e2]
  rw [e] at h
  exact h.upd (A:=(_,_)::(_,_)::(_,_)::(_,_)::(_,_)::(_,_)::(L.ids.zip (c.map co)).take j)⟩,H.n.trans (wF ..).symm,H.D,(wF ..).symm▸H.c.1,H.c.2⟩
end
noncomputable def oV:Option AV→V
 | some a=>.lv a
 | none=>.none
theorem fb:(made c as e).1.length=c.length+as.length:=by
 induction as with
 | nil=>rfl
 | cons a as ih=>exact bK.trans (aD (· +1) ih)
theorem Gp (h0:0≤x) (h:x<100000):Builtin.Int.intBits x≤64:=PySem.intBits_le_iff.mpr ((pA h0).elim fun n e=>by
 rw [e] at h ⊢
 exact cV (nC.mp h) (by decide))
theorem BA {D:List Int} {k:Nat} (h:k<D.length):∃x,(D.map V.num)[k]?=some (.num x):=⟨_,gp.trans (aD (Option.map V.num) (gm h))⟩
theorem Mn {k:Int} {D:List Int} (h0:0≤k) (h:k+1<((D.map V.num).length:Nat)):∃x,(D.map V.num)[(k+1 - 1).toNat]?=some (.num x)∧0≤k+1 - 1:=by
 rw [cL] at h
 rw [uv]
 exact (BA ((um h0).mpr (ub (Int.lt_succ k) h))).imp fun O e=>⟨e,h0⟩
theorem Mo {k:Int} {D:List Int} (h:0<D.length):∃x,(D.map V.num)[(k % ((D.map V.num).length:Nat)).toNat]?=some (.num x)∧0≤k % ((D.map V.num).length:Nat)∧0<(((D.map V.num).length:Nat):Int):=by
 have h1:(0:Int)<(D.length:Int):=nC.mpr h
 have h2:=Int.emod_nonneg k (Int.ne_of_gt h1)
 rw [cL]
 exact (BA ((um h2).mpr (Fz k h1))).imp fun O e=>⟨e,h2,h1⟩
def aL (c:Cells) (a:AV):Prop:=∀i,a= .cell i→∃x,c[i]?=some x
def Ok (c:Cells):Prop:=∀(i:Nat) x,c[i]?=some x→aL c x.1∧aL c x.2
def bH (S:List Nat) (a:AV):Prop:=∀i,a= .cell i→i∈S
structure SI (S:List Nat) (c:Cells):Prop where
 nd:S.Nodup
 lt:∀i∈S,∃x,c[i]?=some x
def lD (S:List Nat) (c:Cells):Prop:=∀i∈S,∀x,c[i]?=some x→bH S x.1∧bH S x.2
theorem tD {n:Nat}:∀ {l:List Nat},l.Nodup→(∀x∈l,x<n)→l.length≤n:=by
 induction n with
 | zero=>exact fun {l} O h=>mS (P:=fun l=>(∀x∈l,x<0)→l.length≤0) l (fun O=>bz _) (fun y ys h=>absurd (h y (.head _)) (yN _)) h
 | succ n ih=>exact fun {l} nd h=>if hn:n∈l then Nat.le_add_of_sub_le (List.length_erase_of_mem hn▸ih (nd.erase n) fun x hx=>have q:=nd.mem_erase_iff.mp hx;yx (z7 (h x q.2)) q.1) else fS (ih nd fun x hx=>yx (z7 (h x hx)) fun e=>hn (e▸hx))
theorem SI.le {S c} (h:SI S c):S.length≤c.length:=tD h.nd fun x hx=>(h.lt x hx).elim fun O hy=>(bl.mp hy).1
theorem SI.add {S c} {x} (h:SI S c) (hi:i∉S) (hx:c[i]?=some x):SI (S++[i]) c:=⟨hY.mpr ⟨h.nd,bV.mpr ⟨cS,.nil⟩,fun a ha b hb e=>hi (dX.mp hb▸e▸ha)⟩,
 fun j hj=>(cU.mp hj).elim (h.lt j) fun h'=>dX.mp h'▸⟨x,hx⟩⟩
inductive Rc (c:Cells):AV→Nat→Prop
 | here (i):Rc c (.cell i) i
 | nJ {i x j}:c[i]?=some x→Rc c x.1 j→Rc c (.cell i) j
 | fC {i x j}:c[i]?=some x→Rc c x.2 j→Rc c (.cell i) j
theorem lD.rc (h:lD M c) (r:Rc c a j):bH M a→j∈M:=by
 induction r with
 | here i=>intro ha;exact ha i rfl
 | nJ hx _ ih=>intro ha;exact ih (h _ (ha _ rfl) _ hx).1
 | fC hx _ ih=>intro ha;exact ih (h _ (ha _ rfl) _ hx).2
def lS (S0 M:List Nat) (c:Cells) (R:List AV):Prop:=∀i∈M,i∈S0∨∀x,c[i]?=some x→(bH M x.1∨x.1∈R)∧(bH M x.2∨x.2∈R)
theorem bH.mono (h:bH M a):bH (M++[i]) a:=fun j e=>dF _ (h j e)
theorem bH.or {M R} (hh:h= .cell i) (o:bH M a∨a∈h::R):bH (M++[i]) a∨a∈R:=
 o.elim (fun o=>.inl o.mono) fun o=>(cF.mp o).elim (fun e=>.inl fun j ej=>AV.cell.inj (hh.symm.trans (e.symm.trans ej))▸cB _ (.head _)) .inr
theorem bH.BB {M R} (hh:bH M h) (o:bH M a∨a∈h::R):bH M a∨a∈R:=o.elim .inl fun o=>(cF.mp o).elim (fun e=>.inl (e▸hh)) .inr
theorem lS.BB {S0 M c R} (H:lS S0 M c (h::R)) (hh:bH M h):lS S0 M c R:=fun i hi=>(H i hi).imp id fun k x hx=>⟨bH.BB hh (k x hx).1,bH.BB hh (k x hx).2⟩
theorem lS.add {S0 M c R} (H:lS S0 M c (h::R)) (hh:h= .cell i) (hx:c[i]?=some x):lS S0 (M++[i]) c (x.2::x.1::R):=fun j hj=>(cU.mp hj).elim
 (fun hj=>(H j hj).imp id fun k y hy=>⟨(bH.or hh (k y hy).1).imp id fun o=>.tail _ (.tail _ o),(bH.or hh (k y hy).2).imp id fun o=>.tail _ (.tail _ o)⟩)
 fun hj=>.inr fun y hy=>cH (hx.symm.trans (dX.mp hj▸hy))▸⟨.inr (.tail _ (.head _)),.inr (.head _)⟩
theorem ne_int {i j:Nat} (e:i≠j):((i:Int) == (j:Int))=false:=beq_eq_false_iff_ne.mpr fun h=>e (Int.ofNat.inj h)
theorem Kx {f:Nat→V} {i:Nat} {M:List Nat} (h:i∈M):(M.map fun (i:Nat)=>((i:Int),f i)).lookup (i:Int)=some (f i):=by
 induction h with
 | head=>rw [dh,eU,iN]
 | @tail j M _ ih=>
  rw [dh,eU]
  by_cases e:i=j
  ·rw [e,iN]
  ·rw [ne_int e];exact ih
theorem vF {f:Nat→V} {i:Nat} {M:List Nat} (h:i∉M):(M.map fun (i:Nat)=>((i:Int),f i)).lookup (i:Int)=none:=by
 induction M with
 | nil=>rfl
 | cons j M ih=>
  rw [dh,eU,ne_int fun e:i=j=>h (e▸.head _)]
  exact ih fun h'=>h (.tail _ h')
theorem Ly {i:Nat} {M:List Nat} (h:i∈M):((M.map fun (i:Nat)=>((i:Int),V.bool true)).lookup (i:Int)).isSome=true:=by rw [Kx (f:=fun O=>.bool true) h];rfl
theorem EM {i:Nat} {M:List Nat} (h:i∉M):((M.map fun (i:Nat)=>((i:Int),V.bool true)).lookup (i:Int)).isSome=false:=by rw [vF (f:=fun O=>.bool true) h];rfl
theorem DN {i:Nat} {M:List Nat} (h:i∈M):(M.map pv).lookup (i:Int)=some (.av (.cell i)):=Kx (f:=fun i=>.av (.cell i)) h
theorem DO {i:Nat} {M:List Nat} (h:i∉M):(M.map pv).lookup (i:Int)=none:=vF (f:=fun i=>.av (.cell i)) h
theorem NN {i:Nat} {M:List Nat} (h:i∉M):((M.map pv).filter fun p=>vy (.cell i) p.2).map (fun O=>V.num 1)=[]:=by
 rw [List.map_eq_nil_iff,List.filter_eq_nil_iff]
 exact fun p hp=>bc (dC.mp hp) fun j hj e=>e▸fun q=>h (AV.cell.inj (f3 q)▸hj)
noncomputable def tv (i:Nat):Int × V:=((i:Int),.bool true)
noncomputable def wm (c:Cells) (M:List Nat) (r:Nat):Nat:=3*(c.length - M.length)+r
theorem OG {c M r}:wm c M r<wm c M (r+1):=iO _
theorem YY (h:b+1≤a):3*(a - (b+1))+(r+2)<3*(a - b)+(r+1):=by
 rw [show a - b=a - (b+1)+1 from (Nat.sub_add_cancel (uE h)).symm,ug,uF]
 exact wx ((fy 3 (r+1)).symm▸ue (n:=r+2) (k:=2) z9) _
theorem Ut {c M r} (h:SI (M++[i]) c):wm c (M++[i]) (r+2)<wm c M (r+1):=by
 have:=h.le
 unfold wm
 rw [bK] at this ⊢
 exact YY this
theorem aL.nc (h:a.aE=false):aL c a:=fun i e=>nomatch (e▸h:AV.aE (.cell i)=false)
theorem bH.nc (h:a.aE=false):bH M a:=fun i e=>nomatch (e▸h:AV.aE (.cell i)=false)
structure Av (c:Cells) (v:AV) (M:List Nat) (R:List AV):Prop where
 si:SI M c
 ok:∀x∈R,aL c x
 cl:lS [] M c R
 v:bH M v∨v∈R
theorem Av.init {c v} (h:aL c v):Av c v [] [v]:=⟨⟨.nil,fun O h=>(nomatch h)⟩,j9.mpr h,fun O h=>(nomatch h),.inr (.head _)⟩
theorem Av.BB {c v M R h} (H:Av c v M (h::R)) (hh:bH M h):Av c v M R:=⟨H.si,fun x hx=>H.ok x (.tail _ hx),H.cl.BB hh,bH.BB hh H.v⟩
theorem Av.add {c v M R i x} (H:Av c v M (.cell i::R)) (hc:Ok c) (hi:i∉M) (hx:c[i]?=some x):Av c v (M++[i]) (x.2::x.1::R):=⟨H.si.add hi hx,cc.mpr ⟨(hc _ _ hx).2,cc.mpr ⟨(hc _ _ hx).1,fun y hy=>H.ok y (.tail _ hy)⟩⟩,H.cl.add rfl hx,(bH.or rfl H.v).imp id fun o=>.tail _ (.tail _ o)⟩
theorem Av.fin {c v M} (H:Av c v M []) (hj:j∉M):¬Rc c v j:=fun r=>hj (lD.rc (fun i hi x hx=>(H.cl i hi).elim (fun h=>nomatch h) fun h=>⟨(h x hx).1.elim id (fun h=>nomatch h),(h x hx).2.elim id (fun h=>nomatch h)⟩) r (H.v.elim id (fun h=>nomatch h)))
theorem Vf (hb:r≤m+1) (hm:m≤k) (h:k<900000):r+2<1000000:=cY (iP (aN hb (Nat.succ_le_of_lt (cY hm h))) 2) (dY rfl)
theorem lS.mono {S0 M c R R'} (H:lS S0 M c R) (h:∀a∈R,a∈R'):lS S0 M c R':=fun i hi=>(H i hi).imp id fun k x hx=>⟨(k x hx).1.imp id (h _),(k x hx).2.imp id (h _)⟩
theorem jU {s:St} {i j:Nat} {q:Ob} (h:∃o,s.objs[i]?=some o):∃o',(s.aV j q).objs[i]?=some o':=h.elim fun o h=>if e:j=i then ⟨q,e▸aI (e.symm▸h)⟩ else ⟨o,(aF e).trans h⟩
structure IsI (L:Lo) (c:Cells) (S0:List Nat) (P:List AV) (σ:St) (a:AV) (S:List Nat) (W:List AV) (R:List (Nat × AV)) (wi:Nat) (s:St):Prop where
 li:LI L c S P s
 ux:Ux L L σ s
 ce:s.cells=c
 si:SI S c
 sub:∀i∈S0,i∈S
 ok:∀x∈W++R.map (·.2),aL c x
 cl:lS S0 S c (W++R.map (·.2))
 v:bH S a∨a∈W++R.map (·.2)
 w:s.objs[wi]?=some (.lst (R.reverse.map fun x=>V.ob x.1))
 wf:L.fr wi∧σ.objs[wi]?=none
 tp:∀x∈R,s.objs[x.1]?=some (.tup [.av x.2,.lv x.2])∧σ.objs[x.1]?=none
 len:W.length+R.length≤S.length+1
 ex:∀ {i:Nat} {o},σ.objs[i]?=some o→∃o',s.objs[i]?=some o'
namespace IsI
variable {L:Lo} {c:Cells} {S0 S:List Nat} {P:List AV} {σ s s':St} {a y:AV} {W:List AV} {R:List (Nat × AV)} {wi q:Nat}
theorem xt (H:IsI L c S0 P σ a S W R wi s) (x:Xt s.cells s s'):IsI L c S0 P σ a S W R wi s':={H with li:=H.li.xt x,ux:=H.ux.trans (Ux.xt x),ce:=x.c.trans H.ce,w:=x.o H.w,tp:=fun y hy=>⟨x.o (H.tp y hy).1,(H.tp y hy).2⟩,ex:=fun e=>(H.ex e).imp fun O h=>x.o h}
theorem Xf (H:IsI L c S0 P σ a S W R wi s):(R.reverse.map fun x=>V.ob x.1).length+2<1000000:=by
 rw [cL,j7];exact Vf (aN (cJ _ _) H.len) H.si.le H.li.c.1
theorem xO (H:IsI L c S0 P σ a S W R wi s):(R.reverse.map fun x=>V.ob x.1).length<1000000:=cY (b9 _ 2) H.Xf
theorem RG (H:IsI L c S0 P σ a S W (z::R) wi s):(R.reverse.map fun x=>V.ob x.1).length+2<1000000:=by
 rw [cL,j7];exact Vf (aN (hX _) (aN (cJ _ _) H.len)) H.si.le H.li.c.1
theorem pp (H:IsI L c S0 P σ a S W ((q,y)::R) wi s):s.objs[wi]?=some (.lst ((R.reverse.map fun x=>V.ob x.1)++[V.ob q])):=H.w.trans (by rw [j0,bY];rfl)
theorem Zr (H:IsI L c S0 P σ a S W R wi s) {o:Ob}:LI L c S P (s.aV wi o):=
 ⟨H.li.h.imp fun k h=>⟨h.1,h.2.nd,fun p hp=>(aF fun e:wi=p.1=>H.wf.1 (e▸H.li.Eu▸ru (f:=(·.1)) hp)).trans (h.2.o p hp)⟩,H.li.n,H.li.D,H.li.c⟩
theorem uxw (H:IsI L c S0 P σ a S W R wi s) {o:Ob}:Ux L L σ (s.aV wi o):=⟨H.ux.st,H.ux.dk,fun {i x} e f=>⟨(aF fun q:wi=i=>fg e (q▸H.wf.2)).trans (H.ux.o e f).1,f⟩⟩
theorem xT (h:some (Ob.lst l)=some (Ob.tup m)):False:=nomatch h
theorem nw (H:IsI L c S0 P σ a S W R wi s) {x:Nat × AV} (hx:x∈R):wi≠x.1:=fun e=>xT (H.w.symm.trans (e▸(H.tp x hx).1))
theorem pop (H:IsI L c S0 P σ a S [] ((q,y)::R) wi s):IsI L c S0 P σ a S [y] R wi (s.aV wi (.lst (R.reverse.map fun x=>V.ob x.1))) where
 li:=H.Zr
 ux:=H.uxw
 ce:=H.ce
 si:=H.si
 sub:=H.sub
 ok:=H.ok
 cl:=H.cl
 v:=H.v
 w:=aI H.w
 wf:=H.wf
 tp:=fun x hx=>⟨(aF (H.nw (.tail _ hx))).trans (H.tp x (.tail _ hx)).1,(H.tp x (.tail _ hx)).2⟩
 len:=aN (bT ((fy 1 R.length).trans (rt _).symm)) H.len
 ex:=fun e=>jU (H.ex e)
theorem known (H:IsI L c S0 P σ a S [y] R wi s) (hy:bH S y):IsI L c S0 P σ a S [] R wi s:={H with ok:=fun x hx=>H.ok x (.tail _ hx),cl:=H.cl.BB hy,v:=bH.BB hy H.v,len:=aN (iP (et _) _) H.len}
theorem Ml (h:some (Ob.dI l)=some (Ob.tup m)):False:=nomatch h
theorem take {i:Nat} {x:AV × AV} (H:IsI L c S0 P σ a S [.cell i] R wi s) (hc:Ok c) (hi:i∉S) (hx:c[i]?=some x):IsI L c S0 P σ a (S++[i]) [x.1,x.2] R wi (s.aV L.pr (.dI (S.map pv++[((i:Int),.av (.cell i))]))) where
 li:=H.li.pair (fu ((bK (as:=S) (bs:=[i]))▸(H.si.add hi hx).le:S.length+1≤c.length) (z7 H.li.c.1))
 ux:=H.ux.trans (Ux.set (.tail _ (.tail _ (.tail _ (.tail _ (.head _))))))
 ce:=H.ce
 si:=H.si.add hi hx
 sub:=fun j hj=>dF _ (H.sub j hj)
 ok:=cc.mpr ⟨(hc _ _ hx).1,cc.mpr ⟨(hc _ _ hx).2,fun z hz=>H.ok z (.tail _ hz)⟩⟩
 cl:=(H.cl.add rfl hx).mono (cc.mpr ⟨.tail _ (.head _),cc.mpr ⟨.head _,fun z hz=>.tail _ (.tail _ hz)⟩⟩)
 v:=(bH.or rfl H.v).imp id fun o=>.tail _ (.tail _ o)
 w:=(aF fun e:L.pr=wi=>H.wf.1 (e▸.tail _ (.tail _ (.tail _ (.tail _ (.head _)))))).trans H.w
 wf:=H.wf
 tp:=fun z hz=>⟨(aF fun e:L.pr=z.1=>Ml (H.li.pr.symm.trans (e▸(H.tp z hz).1))).trans (H.tp z hz).1,(H.tp z hz).2⟩
 len:=by
  have:=H.len
  rw [bK]
  exact aN (bT (j8 1 1 R.length)) (ew this)
 ex:=fun e=>jU (H.ex e)
theorem push {x:AV} {t:Nat} (H:IsI L c S0 P σ a S (x::W) R wi s) (N:f6 s s' t (.tup [.av x,.lv x])):IsI L c S0 P σ a S W ((t,x)::R) wi (s'.aV wi (.lst ((R.reverse.map fun x=>V.ob x.1)++[.ob t]))):=by
 have H':=H.xt N.xt
 have me:∀z∈x::(W++R.map (·.2)),z∈W++x::R.map (·.2):=cc.mpr ⟨cB _ (.head _),fun z hz=>(cU.mp hz).elim (dF _) fun h=>cB _ (.tail _ h)⟩
 have tf:σ.objs[t]?=none:=Fd.mpr fun o e=>(H.ex e).elim fun o' h=>fg h N.gj
 exact {
  li:=H'.Zr
  ux:=H'.uxw
  ce:=H'.ce
  si:=H'.si
  sub:=H'.sub
  ok:=fun z hz=>H.ok z ((cU.mp hz).elim (fun h=>.tail _ (dF _ h)) fun h=>(cF.mp h).elim (fun e=>e▸.head _) fun h=>.tail _ (cB _ h))
  cl:=H'.cl.mono me
  v:=H'.v.imp id (me a)
  w:=(aI H'.w).trans (by rw [j0,bY];rfl)
  wf:=H'.wf
  tp:=cc.mpr ⟨⟨(aF fun e:wi=t=>xT (H'.w.symm.trans (e▸N.at_))).trans N.at_,tf⟩,fun z hz=>⟨(aF (H.nw hz)).trans (H'.tp z hz).1,(H.tp z hz).2⟩⟩
  len:=aN (bT (Nat.succ_add W.length R.length).symm) H.len
  ex:=fun e=>jU (H'.ex e)}
theorem init (H:LI L c S0 P σ) (hp:σ.cells=c) (hv:aL c a) (hS:SI S0 c) (N1:f6 σ s t0 (.tup [.av a,.lv a])) (N2:f6 s s' wi (.lst [.ob t0])):IsI L c S0 P σ a S0 [] [(t0,a)] wi s' where
 li:=(H.xt N1.xt).xt N2.xt
 ux:=(Ux.xt N1.xt).trans (Ux.xt N2.xt)
 ce:=by exact (N2.c)▸(N1.c)▸(hp)
 si:=hS
 sub:=fun O h=>h
 ok:=j9.mpr hv
 cl:=fun i hi=>.inl hi
 v:=.inr (.head _)
 w:=N2.at_
 wf:=⟨(H.xt N1.xt).fr N2.gj,N1.xt.fr N2.gj⟩
 tp:=j9.mpr ⟨N2.xt.o N1.at_,N1.gj⟩
 len:=cJ _ _
 ex:=fun e=>⟨_,N2.xt.o (N1.xt.o e)⟩
theorem fin (H:IsI L c S0 P σ a S [] [] wi s) (hC:lD S0 c):lD S c:=fun i hi x hx=>(H.cl i hi).elim (fun h=>⟨fun j e=>H.sub j ((hC i h x hx).1 j e),fun j e=>H.sub j ((hC i h x hx).2 j e)⟩)
 fun h=>⟨(h x hx).1.elim id fun h=>(nomatch h),(h x hx).2.elim id fun h=>(nomatch h)⟩
end IsI
theorem Chain.pe (h:Chain c a l e) (f:Nat × AV→Bool):(∀z∈l.filter f,∃d,c[z.1]?=some (z.2,d))∧((l.filter f).map (·.1)).Nodup:=
 ⟨fun z hz=>h.mem z (uB.mp hz).1,(List.filter_sublist.map _).nodup h.nodup⟩
noncomputable def fP (rk:Nat→Nat) (v:AV):Nat:=v.rec (motive:=fun O=>Nat) 0 (fun O=>0) fun i=>rk i+1
theorem tx (h:v.aE=false):∃l e,Chain c v l e:=by
 cases v with
 | cell i=>cases h
 | nil=>exact ⟨_,_,.nil⟩
 | num k=>exact ⟨_,_,.num k⟩
def gA (c:Cells) (rk:Nat→Nat):Prop:=∀(i:Nat) x,c[i]?=some x→fP rk x.1≤rk i∧fP rk x.2≤rk i
theorem Bj (hr:gA c rk) (hc:Ok c) (n:Nat):∀(v:AV),fP rk v≤n→aL c v→∃l e,Chain c v l e:=by
 induction n with
 | zero=>exact fun v=>rP (P:=fun v=>fP rk v≤0→aL c v→∃l e,Chain c v l e) (fun h O O=>tx h) fun i h=>absurd h (yO _)
 | succ n ih=>exact fun v=>rP (P:=fun v=>fP rk v≤n+1→aL c v→∃l e,Chain c v l e) (fun h O O=>tx h) fun i h hv=>(hv i rfl).elim fun x hx=>jX (ih x.2 (aN (hr i x hx).2 (uw h)) (hc i x hx).2) fun l e hl=>⟨_,_,.cell (a:=x.1) hx hl⟩
theorem Chain.mT {v l e} (h:Chain c v l e):l.length≤c.length:=
 cL (f:=fun x:Nat × AV=>x.1)▸tD h.nodup fun x hx=>bc (dC.mp hx) fun z hz e=>(h.mem z hz).elim fun d hd=>e▸(bl.mp hd).1
theorem Rc.rk {c:Cells} {rk:Nat→Nat} (hr:gA c rk) {v:AV} {j:Nat} (h:Rc c v j):rk j+1≤fP rk v:=by
 induction h with
 | here=>exact bz _
 | nJ hx _ ih=>exact aN ih (fS (hr _ _ hx).1)
 | fC hx _ ih=>exact aN ih (fS (hr _ _ hx).2)
theorem vm {α:Type} {p q:α→Bool} {j:α} (hpq:∀k,p k=true→q k=true) (hq:q j=true) (hp:p j=false) {l:List α}:(l.filter p).length≤(l.filter q).length∧(j∈l→(l.filter p).length<(l.filter q).length):=by
 induction l with
 | nil=>exact ⟨bz _,fun h=>absurd h cS⟩
 | cons x l ih=>
  by_cases h1:p x=true
  ·rw [FA h1,FA (hpq x h1)]
   exact ⟨ew ih.1,fun h=>uz (ih.2 ((cF.mp h).resolve_left fun e=>Bool.noConfusion (hp.symm.trans (e▸h1))))⟩
  ·rw [List.filter_cons_of_neg h1]
   by_cases h2:q x=true
   ·rw [FA h2];exact ⟨fS ih.1,fun O=>E9 ih.1⟩
   ·rw [List.filter_cons_of_neg h2];exact ⟨ih.1,fun h=>ih.2 ((cF.mp h).resolve_left fun e=>h2 (e▸hq))⟩
theorem BK:((List.range n).filter p).length≤n:=aN (uC _ _) (bT uK)
theorem tN {c:Cells} {rk:Nat→Nat} (hr:gA c rk) (hc:Ok c):∃iH,gA c iH∧∀i,iH i≤c.length:=by
 have key:∀i v,aL c v→fP rk v≤rk i→fP (fun i=>((List.range c.length).filter fun k=>decide (rk k<rk i)).length) v≤((List.range c.length).filter fun k=>decide (rk k<rk i)).length:=fun i v=>by
  induction v with
  | cell j=>exact fun hv (h':rk j<rk i)=>(hv j rfl).elim fun y hy=>(vm (p:=fun k=>decide (rk k<rk j)) (q:=fun k=>decide (rk k<rk i)) (j:=j) (fun k hk=>hM (cV (f3 hk) h')) (hM h') (jY (nF _))).2 (pz.mpr (bl.mp hy).1)
  | _=>exact fun O O=>et _
 exact ⟨_,fun i x hx=>⟨key i _ (hc i x hx).1 (hr i x hx).1,key i _ (hc i x hx).2 (hr i x hx).2⟩,fun i=>BK⟩
theorem RS (hr:gA c rk) (hc:Ok c) (d:Nat):∀(v w:AV),fP rk v≤d→aL c v→aL c w→∃r n,Lk c d v w r n:=by
 induction d with
 | zero=>exact fun v w h O O=>if e:v=w then e▸⟨true,1,.eq _ _⟩ else ⟨_,_,.ne e (rP (P:=fun v=>fP rk v≤0→(v.aE && w.aE)=false) (fun h O=>h.symm▸rfl) (fun i h=>absurd h (yO _)) h)⟩
 | succ d ih=>
  intro v w h hv hw
  by_cases e:v=w
  ·exact e▸⟨true,1,.eq _ _⟩
  ·cases hb:v.aE && w.aE with
   | false=>exact ⟨_,_,.ne e hb⟩
   | true=>
    have hb:=Bool.and_eq_true_iff.mp hb
    exact Bg (P:=fun v=>fP rk v≤d+1→aL c v→v≠w→∃r n,Lk c (d+1) v w r n) hb.1 (fun i h hv e=>Bg (P:=fun w=>aL c w→ .cell i≠w→∃r n,Lk c (d+1) (.cell i) w r n) hb.2 (fun j hw e=>(hv i rfl).elim fun x hx=>(hw j rfl).elim fun y hy=>
     have FU:i≠j:=fun q=>e (aD AV.cell q)
     have hi:rk i≤d:=uw h
     jX (ih x.1 y.1 (aN (hr i x hx).1 hi) (hc i x hx).1 (hc j y hy).1) fun r1 n1 k1=>by
      induction r1 with
      | false=>exact ⟨_,_,.fa FU hx hy k1⟩
      | true=>exact jX (ih x.2 y.2 (aN (hr i x hx).2 hi) (hc i x hx).2 (hc j y hy).2) fun r2 n2 k2=>⟨_,_,.tr FU hx hy k1 k2⟩) hw e) h hv e
theorem Lk.symm {c d a b r n} (h:Lk c d a b r n):Lk c d b a r n:=by
 induction h with
 | eq=>exact .eq _ _
 | ne h hc=>exact .ne (fun e=>h e.symm) ((Bool.and_comm ..).trans hc)
 | tr h hx hy _ _ h1 h2=>exact .tr (fun e=>h e.symm) hy hx h1 h2
 | fa h hx hy _ h1=>exact .fa (fun e=>h e.symm) hy hx h1
noncomputable def hS (c:Cells) (H:AV→Nat) (v:AV):Nat:=v.rec (motive:=fun O=>Nat) 0 (fun O=>0) fun i=>(c[i]?).elim 0 fun x=>1+max (H x.1) (H x.2)
noncomputable def hF (c:Cells) (k:Nat):AV→Nat:=k.rec (motive:=fun O=>AV→Nat) (fun O=>0) fun O H=>hS c H
theorem MH (h:c[i]?=some x):hS c H (.cell i)=1+max (H x.1) (H x.2):=aD (fun o:Option (AV × AV)=>o.elim 0 fun x=>1+max (H x.1) (H x.2)) h
theorem QK (h:c[i]?=none):hS c H (.cell i)=0:=aD (fun o:Option (AV × AV)=>o.elim 0 fun x=>1+max (H x.1) (H x.2)) h
theorem Dq (h:v.aE=false):hS c H v=0:=by
 cases v with
 | cell i=>cases h
 | _=>rfl
theorem JZ (hr:gA c rk) (k:Nat):∀(v:AV),fP rk v≤k→hF c (k+1) v=hF c k v:=by
 induction k with
 | zero=>exact fun v=>rP (P:=fun v=>fP rk v≤0→hF c 1 v=0) (fun h O=>Dq h) fun i h=>absurd h (yO _)
 | succ k ih=>
   refine fun v=>rP (P:=fun v=>fP rk v≤k+1→hS c (hF c (k+1)) v=hS c (hF c k) v) (fun h O=>(Dq h).trans (Dq h).symm) fun i h=> ?_
   cases hx:c[i]? with
   | none=>exact (QK hx).trans (QK hx).symm
   | some x=>
    have hi:rk i≤k:=uw h
    rw [MH hx,MH hx,ih x.1 (aN (hr i x hx).1 hi),ih x.2 (aN (hr i x hx).2 hi)]
def yU (c:Cells) (H:AV→Nat):Prop:=∀(i:Nat) x,c[i]?=some x→H (.cell i)=1+max (H x.1) (H x.2)
theorem Rj (hr:gA c rk) (hc:Ok c):∃H,yU c H:=
 bc (tN hr hc) fun rk hr hb=>⟨hF c (c.length+1),fun i x hx=>(MH hx).trans (aD (1+ ·) (congr (aD max (JZ hr c.length x.1 (aN (hr i x hx).1 (hb i))).symm) (JZ hr c.length x.2 (aN (hr i x hx).2 (hb i))).symm))⟩
theorem Lk.ht {c H} (hH:yU c H) {d a b r n} (h:Lk c d a b r n):r=true→H a=H b:=by
 induction h with
 | eq=>intro _;rfl
 | ne=>intro h;cases h
 | tr _ hx hy _ _ h1 h2=>intro hr;rw [hH _ _ hx,hH _ _ hy,h1 rfl,h2 hr]
 | fa=>intro h;cases h
noncomputable def tj (H:AV→Nat) (n h:Nat):Nat:=((List.range n).filter fun k=>decide (H (.cell k)≤h)).length
theorem o3 {H n h h'} (hh:h≤h'):tj H n h≤tj H n h':=by
 rw [tj,tj,←List.countP_eq_length_filter,←List.countP_eq_length_filter]
 exact List.countP_mono_left fun k O hk=>hM (aN (f3 hk) hh)
theorem CX {H:AV→Nat} {n h i j:Nat} (hi:i<n) (hj:j<n) (FU:i≠j) (ei:H (.cell i)=h+1) (ej:H (.cell j)=h+1):tj H n h+2≤tj H n (h+1):=
 aN (ew ((vm (p:=fun k=>decide (H (.cell k)≤h)) (q:=fun k=>decide (H (.cell k)≤h) || decide (k=i)) (j:=i) (fun k hk=>yE.mpr (.inl hk)) (yE.mpr (.inr (hM rfl))) (jY (ei▸FD h))).2 (pz.mpr hi)))
  ((vm (p:=fun k=>decide (H (.cell k)≤h) || decide (k=i)) (q:=fun k=>decide (H (.cell k)≤h+1)) (j:=j) (fun k hk=>(yE.mp hk).elim (fun hk=>hM (fS (f3 hk))) fun hk=>hM (f3 hk▸bT ei))
   (hM (bT ej)) (Bool.or_eq_false_iff.mpr ⟨jY (ej▸FD h),jY fun e=>FU e.symm⟩)).2 (pz.mpr hj))
noncomputable def wv (f:Nat→Nat) (v:AV):Nat:=v.rec (motive:=fun O=>Nat) 0 (fun O=>0) f
structure Wt (c:Cells) (N:Nat) (f:Nat→Nat):Prop where
 n:N≤24
 old:∀(i:Nat) x,c[i]?=some x→i<N→f i=0
 sup:∀(i:Nat) x,c[i]?=some x→(if i<N then 0 else 1)+wv f x.1+wv f x.2≤f i
 le:∀(i:Nat) x,c[i]?=some x→f i≤48
theorem NM (hh:a+2≤b):2 ^ (a / 2+1)+2 ^ (a / 2+1)≤2 ^ (b / 2+1):=
 aN (bT (Nat.mul_two _).symm) (uD (n:=2) (i:=a / 2+1+1) (by decide) (ew (Nat.add_div_right a z9▸yP hh)))
theorem wa {i N x y:Nat} (s:(if i<N then 0 else 1)+x+y≤0):i<N∧x=0∧y=0:=
 have h:=Nat.add_eq_zero_iff.mp (Nat.le_zero.mp s)
 have h1:=Nat.add_eq_zero_iff.mp h.1
 ⟨(if q:i<N then q else nomatch (aW q).symm.trans h1.1),h1.2,h.2⟩
theorem Bt {c:Cells} {N:Nat} {f:Nat→Nat} {H:AV→Nat} (W:Wt c N f) (hH:yU c H) {d a b r m} (h:Lk c d a b r m):r=true→wv f a=0→wv f b=0→m+1≤2 ^ (tj H N (H a) / 2+1):=by
 induction h with
 | eq=>exact fun O O O=>aN (by decide:1+1≤2 ^ 1) (uD (by decide) (cJ _ _))
 | ne=>exact nofun
 | fa=>exact nofun
 | @tr d i j x y r n m hn hx hy k1 k2 ih1 ih2=>
  intro hr ha hb
  have s1:=wa (aN (W.sup i x hx) (bT ha))
  have s2:=wa (aN (W.sup j y hy) (bT hb))
  have ei:=(hH i x hx).trans (fy 1 _)
  have ej:=(hH j y hy).trans (fy 1 _)
  rw [←k1.ht hH rfl,←k2.ht hH hr] at ej
  rw [ei]
  exact aN (bT (show 1+(n+m)+1=(n+1)+(m+1) from aD (· +1) ((fy 1 (n+m)).trans (j8 n m 1)))) (aN (ka
   (aN (ih1 rfl s1.2.1 s2.2.1) (uD (by decide) (ew (yP (o3 (Nat.le_max_left _ _))))))
   (aN (ih2 hr s1.2.2 s2.2.2) (uD (by decide) (ew (yP (o3 (Nat.le_max_right _ _))))))) (NM (CX s1.1 s2.1 hn ei ej)))
theorem HU {H n h}:tj H n h≤n:=BK
theorem Mj (W:Wt c N f) (hH:yU c H) {d a b r m} (h:Lk c d a b r m) (hr:r=true) (ha:wv f a=0) (hb:wv f b=0):m+1≤8192:=
 aN (Bt W hH h hr ha hb) (uD (j:=13) (by decide) (ew (yP (aN HU W.n))))
theorem w_sum {a b x x' y y' A B:Nat} (s1:a+x+x'≤A) (s2:b+y+y'≤B):a+b+((x+y)+(x'+y'))≤A+B:=
 aN (bT ((uF _ _ _).symm.trans ((aD (· +(x'+y')) (yQ a b x y)).trans (yQ _ _ _ _)))) (ka s1 s2)
theorem PJ (h1:n≤16384*u+8192) (h2:m≤K+16384*v) (h3:u+v≤S):1+(n+m)≤K+8193+16384*S:=
 aN (dA (ka h1 h2) 1) (aN (bT (by rw [fy (16384*u),yQ,←ug,←uF 1,fy 8192 K,fy 1])) (dA (yR 16384 h3) (K+8193)))
theorem VG (h1:n≤16384*u+8192) (h2:m≤16384*v+8192) (h3:1+(u+v)≤S):1+(n+m)≤16384*S+8192:=
 aN (dA (ka h1 h2) 1) (aN (by rw [yQ,←ug,ug 16384 1,fy 1 (_+_),fy (16384*1)];exact dA (by decide) _) (iP (yR 16384 h3) 8192))
theorem Mk {c:Cells} {N:Nat} {f:Nat→Nat} {H:AV→Nat} (W:Wt c N f) (hH:yU c H) {d a b r m} (h:Lk c d a b r m):r=true→m≤16384*(wv f a+wv f b)+8192:=by
 induction h with
 | eq=>exact fun O=>Nat.le_add_left_of_le (by decide)
 | ne=>exact nofun
 | fa=>exact nofun
 | @tr d i j x y r n m hn hx hy k1 k2 ih1 ih2=>
  intro hr
  have s:=w_sum (W.sup i x hx) (W.sup j y hy)
  by_cases h0:wv f (.cell i)=0∧wv f (.cell j)=0
  ·exact Nat.le_add_left_of_le (eu (Mj W hH (.tr hn hx hy k1 k2) hr h0.1 h0.2))
  ·refine VG (ih1 rfl) (ih2 hr) (aN (iP ?_ _) s)
   by_cases q1:i<N
   ·by_cases q2:j<N
    ·exact absurd ⟨W.old i x hx q1,W.old j y hy q2⟩ h0
    ·rw [aW q2];exact cJ _ _
   ·rw [aW q1];exact b9 _ _
theorem Mi {c:Cells} {N:Nat} {f:Nat→Nat} {H:AV→Nat} (W:Wt c N f) (hH:yU c H) {d a b r m} (h:Lk c d a b r m):m≤8193*(d+1)+16384*(wv f a+wv f b):=by
 induction h with
 | eq=>exact FE (uf _ (by decide) |> aN (cJ 1 _))
 | ne=>exact FE (uf _ (by decide) |> aN (cJ 1 _))
 | @tr d i j x y r n m hn hx hy k1 k2 _ ih2=>exact PJ (Mk W hH k1 rfl) ih2 (aN (cJ _ _) (w_sum (W.sup i x hx) (W.sup j y hy)))
 | @fa d i j x y n hn hx hy k1 ih1=>exact aN (bT (aD (1+ ·) (rt n).symm)) (PJ (n:=0) (u:=0) (et _) ih1 (aN (aN (iP (et _) _) (bT (fy (wv f x.2+wv f y.2) _))) (aN (cJ _ _) (w_sum (W.sup i x hx) (W.sup j y hy)))))
theorem LC {c N f} (W:Wt c N f) (hv:aL c v):wv f v≤48:=by
 induction v with
 | cell i=>exact (hv i rfl).elim fun x hx=>W.le i x hx
 | _=>exact et _
theorem HO (hr:gA c rk) (hc:Ok c) (W:Wt c N f) (hl:c.length≤100):∀v w,aL c v→aL c w→∃r m,Lk c 101 v w r m∧m≤8000000:=by
 refine (Rj hr hc).elim fun H hH=>bc (tN hr hc) fun rk hr hb v w hv hw=> ?_
 have hd:fP rk v≤101:=by
  cases v with
  | cell i=>exact ew (aN (hb i) hl)
  | _=>exact et _
 exact jX (RS hr hc 101 v w hd hv hw) fun r m h=>⟨r,m,h,aN (Mi W hH h) (aN (dA (yR _ (ka (LC W hv) (LC W hw))) _) (by decide))⟩
structure GC (c:Cells) (rk:Nat→Nat) (N:Nat) (f:Nat→Nat):Prop where
 ok:Ok c
 rk:gA c rk
 wt:Wt c N f
theorem aL.set (h:aL c v):aL (c.set i x) v:=fun j e=>(h j e).elim fun y hy=>
 if q:i=j then ⟨x,q▸px (q▸(bl.mp hy).1)⟩ else ⟨y,(uI q).trans hy⟩
theorem aL.app (h:aL c v):aL (c++l) v:=fun j e=>(h j e).elim fun y hy=>⟨y,(ow (bl.mp hy).1).trans hy⟩
theorem fQ {c:Cells} {P:Nat→AV × AV→Prop} {i:Nat} {x z:AV × AV} (hi:c[i]?=some z) (h1:P i x) (h2:∀j y,c[j]?=some y→P j y):∀j y,(c.set i x)[j]?=some y→P j y:=fun j y h=>
 if q:i=j then
  have e:x=y:=cH ((px (bl.mp hi).1).symm.trans (q.symm▸h:(c.set i x)[i]?=some y))
  q▸e▸h1 else h2 j y ((uI q).symm.trans h)
theorem pJ {c:Cells} {P:Nat→AV × AV→Prop} {x:AV × AV} (h1:P c.length x) (h2:∀j y,c[j]?=some y→P j y):∀j y,(c++[x])[j]?=some y→P j y:=fun j y h=>
 if q:j<c.length then h2 j y ((ow q).symm.trans h) else
  have e:j=c.length:=wu (z7 (show j<c.length+1 from bK (as:=c) (bs:=[x])▸(bl.mp h).1)) (uc q)
  have e2:x=y:=cH ((nD (l:=c)).symm.trans (e▸h:(c++[x])[c.length]?=some y))
  e▸e2▸h1
theorem Dz {c:Cells} (hc:Ok c) {i:Nat} {x ab:AV × AV} (hx:c[i]?=some x) (h1:aL c ab.1) (h2:aL c ab.2):Ok (c.set i ab):=fQ (P:=fun O y=>aL (c.set i ab) y.1∧aL (c.set i ab) y.2) hx ⟨h1.set,h2.set⟩ fun j y hy=>⟨(hc _ _ hy).1.set,(hc _ _ hy).2.set⟩
theorem GC.low {c rk N f} (G:GC c rk N f) {i:Nat} {x:AV × AV} {w:AV} (hx:c[i]?=some x) (h1:fP rk w≤rk i) (h2:aL c w) (h3:wv f w≤wv f x.2):GC (c.set i (x.1,w)) rk N f:=
 ⟨Dz G.ok hx (G.ok _ _ hx).1 h2,fQ (P:=fun j y=>fP rk y.1≤rk j∧fP rk y.2≤rk j) hx ⟨(G.rk _ _ hx).1,h1⟩ G.rk,G.wt.n,fQ (P:=fun j O=>j<N→f j=0) hx (G.wt.old _ _ hx) G.wt.old,
  fQ (P:=fun j y=>(if j<N then 0 else 1)+wv f y.1+wv f y.2≤f j) hx (aN (dA h3 _) (G.wt.sup _ _ hx)) G.wt.sup,fQ (P:=fun j O=>f j≤48) hx (G.wt.le _ _ hx) G.wt.le⟩
theorem EW (h:c.length≤24) (hc:Ok c):Wt c c.length (fun O=>0):=⟨h,fun O O O O=>rfl,fun i x hx=>by
 rw [bE (bl.mp hx).1]
 have:∀v:AV,wv (fun O=>0) v=0:=fun v=>by cases v <;> rfl
 rw [this,this];exact bz _,fun O O O=>et _⟩
open Classical in
theorem NX {c:Cells} {rk:Nat→Nat} (hr:gA c rk) {i:Nat} {x ab:AV × AV} {v:AV} (hx:c[i]?=some x) (hv:¬Rc c v i) (h1:ab.1=x.1∨ab.1=v) (h2:ab.2=x.2∨ab.2=v):∃iH,gA (c.set i ab) iH:=by
 have key:∀(iH:Nat→Nat),(∀k,iH k=if Rc c (.cell k) i then rk k+fP rk v else rk k)→gA (c.set i ab) iH:=fun iH Rh=>by
  have no:∀u:AV,¬Rc c u i→fP iH u=fP rk u:=fun u hu=>by
   induction u with
   | cell k=>exact aD (· +1) ((Rh k).trans (aW hu))
   | _=>rfl
  have hi:iH i=rk i+fP rk v:=(Rh i).trans (bE (.here i))
  have half:∀u w:AV,u=w∨u=v→fP rk w≤rk i→fP iH u≤iH i:=fun u w h a=>hi▸h.elim (fun e=>e▸aN (bT (no w fun q=>FD _ (aN (q.rk hr) a))) (FE a)) fun e=>aN (bT ((aD (fP iH) e).trans (no v hv))) (cJ _ _)
  have up:∀(j:Nat) (u:AV),fP rk u≤rk j→(Rc c u i→Rc c (.cell j) i)→fP iH u≤iH j:=fun j u h1 h2=>by
   by_cases q:Rc c u i
   ·rw [Rh j,bE (h2 q)]
    induction u with
    | cell k=>exact aN (bT ((aD (· +1) ((Rh k).trans (bE q))).trans (j8 _ _ 1))) (iP h1 _)
    | _=>exact et _
   ·exact aN (bT (no u q)) (aN h1 (by rw [Rh j];split;exact b9 _ _;exact bz _))
  exact fQ (P:=fun j y=>fP iH y.1≤iH j∧fP iH y.2≤iH j) hx ⟨half _ _ h1 (hr _ _ hx).1,half _ _ h2 (hr _ _ hx).2⟩ fun j y hy=>⟨up j _ (hr _ _ hy).1 fun h=>.nJ hy h,up j _ (hr _ _ hy).2 fun h=>.fC hy h⟩
 exact ⟨_,key _ fun k=>rfl⟩
theorem SI.set {S c} {ab} (h:SI S c):SI S (c.set i ab):=⟨h.nd,fun j hj=>aL.set (v:=.cell j) (fun k e=>AV.cell.inj e▸h.lt j hj) j rfl⟩
theorem SI.app {S c} (h:SI S c):SI S (c++l):=⟨h.nd,fun j hj=>aL.app (v:=.cell j) (fun k e=>AV.cell.inj e▸h.lt j hj) j rfl⟩
theorem lD.set {S c} {i:Nat} {x ab:AV × AV} (h:lD S c) (hx:c[i]?=some x) (h1:i∈S→bH S ab.1∧bH S ab.2):lD S (c.set i ab):=fun j hj y hy=>fQ (P:=fun j y=>j∈S→bH S y.1∧bH S y.2) hx h1 (fun j y hy hj=>h j hj y hy) j y hy hj
theorem lD.app {S c} (h:lD S c) (hs:SI S c):lD S (c++l):=fun j hj y hy=>(hs.lt j hj).elim fun x hx=>h j hj y ((ow (bl.mp hx).1).symm.trans hy)
theorem NG {c:Cells} (hc:Ok c) {a b:AV} (h1:aL c a) (h2:aL c b):Ok (c++[(a,b)]):=pJ (P:=fun O y=>aL (c++[(a,b)]) y.1∧aL (c++[(a,b)]) y.2) ⟨h1.app,h2.app⟩ fun j y hy=>⟨(hc _ _ hy).1.app,(hc _ _ hy).2.app⟩
theorem NW {c:Cells} {rk:Nat→Nat} (hr:gA c rk) (hc:Ok c) {a b:AV} (h1:aL c a) (h2:aL c b):∃iH,gA (c++[(a,b)]) iH:=by
 have key:∀iH:Nat→Nat,(∀k,iH k=if k=c.length then fP rk a+fP rk b else rk k)→gA (c++[(a,b)]) iH:=fun iH hk=>by
  have lo:∀k x,c[k]?=some x→iH k=rk k:=fun k x h=>(hk k).trans (aW (eR (bl.mp h).1))
  have no:∀u:AV,aL c u→fP iH u=fP rk u:=fun u hu=>by
   induction u with
   | cell k=>exact (hu k rfl).elim fun z hz=>aD (· +1) (lo k z hz)
   | _=>rfl
  refine pJ (P:=fun j y=>fP iH y.1≤iH j∧fP iH y.2≤iH j) ?_ fun j y hy=> ?_
  ·rw [hk,bE rfl,no a h1,no b h2];exact ⟨b9 _ _,cJ _ _⟩
  ·rw [lo j y hy,no _ (hc _ _ hy).1,no _ (hc _ _ hy).2];exact hr _ _ hy
 exact ⟨_,key _ fun k=>rfl⟩
def Ws (c:Cells) (N:Nat) (f:Nat→Nat):Prop:=∀(i:Nat) x,c[i]?=some x→(if i<N then 0 else 1)+wv f x.1+wv f x.2≤f i
theorem Kq [Decidable p]:(if p then 0 else 1)≤1:=by split <;> decide
theorem Ws.app {c N f} (h:Ws c N f) {a b:AV} (hw:1+wv f a+wv f b≤f c.length):Ws (c++[(a,b)]) N f:=pJ (P:=fun i x=>(if i<N then 0 else 1)+wv f x.1+wv f x.2≤f i) (aN (iP (iP Kq _) _) hw) h
structure Gw (c c':Cells):Prop where
 ok:Ok c'
 rk:∃rk,gA c' rk
 ex:∃l,c'=c++l
theorem Gw.app {c c' a b} (G:Gw c c') (h1:aL c' a) (h2:aL c' b):Gw c (c'++[(a,b)]):=G.rk.elim fun rk hr=>⟨NG G.ok h1 h2,NW hr G.ok h1 h2,G.ex.elim fun l e=>⟨l++[(a,b)],e▸fA _ _ _⟩⟩
theorem tI {x}:aL (c++[x]) (.cell c.length):=fun j e=>AV.cell.inj e▸⟨x,nD⟩
theorem xW (G:Gw c0 c) (he:aL c e):(∀a∈as,aL c a)→Gw c0 (made c as e).1∧aL (made c as e).1 (made c as e).2∧∀v,aL c v→aL (made c as e).1 v:=by
 induction as with
 | nil=>exact fun O=>⟨G,he,fun O h=>h⟩
 | cons a as ih=>exact fun h=>wg (ih fun b hb=>h b (.tail _ hb)) fun G1 v1 u1=>⟨G1.app (u1 a (h a (.head _))) v1,tI,fun v hv=>(u1 v hv).app⟩
theorem xX (W:Ws c N f) (he:wv f e=0) (hf:∀k,f (c.length+k)=(1+w)*(k+1)):(∀a∈as,wv f a≤w)→Ws (made c as e).1 N f∧wv f (made c as e).2≤(1+w)*as.length:=by
 induction as with
 | nil=>exact fun O=>⟨W,aN (bT he) (et _)⟩
 | cons a as ih=>
  intro h
  have h1:=ih fun b hb=>h b (.tail _ hb)
  have e1:f (made c as e).1.length=(1+w)*(as.length+1):=(aD f fb).trans (hf _)
  exact ⟨h1.1.app (e1▸aN (ka (dA (h a (.head _)) 1) h1.2) (bT (fy (1+w) _))),bT e1⟩
def CG (c0 c:Cells) (R:Cells × List AV):Prop:=Gw c0 R.1∧(∀b∈R.2,aL R.1 b)∧∀v,aL c v→aL R.1 v
theorem GP {c0:Cells} {as:List AV}:∀ {c:Cells},Gw c0 c→(∀a∈as,aL c a)→CG c0 c (ay c as):=by
 induction as with
 | nil=>exact fun G O=>⟨G,fun O h=>absurd h cS,fun O h=>h⟩
 | cons a as ih=>
  exact fun {c} G h=>rP (P:=fun a=>aL c a→CG c0 c (ay c (a::as))) (fun q O=>(lG q).symm▸wg (ih G fun a ha=>h a (.tail _ ha)) fun G2 v2 u2=>⟨G2,cc.mpr ⟨aL.nc q,v2⟩,u2⟩)
   (fun i hv=>(hv i rfl).elim fun ab cW=>(xj cW).symm▸wg (ih (G.app (G.ok _ _ cW).1 (G.ok _ _ cW).2) fun a ha=>(h a (.tail _ ha)).app) fun G2 v2 u2=>⟨G2,cc.mpr ⟨u2 _ tI,v2⟩,fun v hv=>u2 v hv.app⟩) (h a (.head _))
theorem oP {as:List AV}:∀ {c:Cells},c.length≤(ay c as).1.length∧(ay c as).1.length≤c.length+as.length:=by
 induction as with
 | nil=>exact ⟨bz _,bz _⟩
 | cons a as ih=>
  exact fun {c}=>rP (P:=fun a=>c.length≤(ay c (a::as)).1.length∧(ay c (a::as)).1.length≤c.length+(as.length+1)) (fun q=>(lG q).symm▸⟨ih.1,fS ih.2⟩)
   fun i=>by
    have:=ih (c:=c++[(c[i]?).getD (.nil,.nil)])
    rw [bK] at this
    exact ⟨pD this.1,aN this.2 (bT (j8 _ _ _))⟩
def Y3 (N:Nat) (f:Nat→Nat) (R:Cells × List AV):Prop:=Ws R.1 N f∧∀b∈R.2,wv f b≤1
theorem GQ {N:Nat} {f:Nat→Nat} {as:List AV}:∀ {c:Cells},Ws c N f→(∀k,c.length≤k→k<(ay c as).1.length→f k=1)→(∀a∈as,wv f a=0∧aL c a)→Y3 N f (ay c as):=by
 induction as with
 | nil=>exact fun W O O=>⟨W,fun O h=>absurd h cS⟩
 | cons a as ih=>
  exact fun {c} W hf h=>rP (P:=fun a=>wv f a=0∧aL c a→(∀k,c.length≤k→k<(ay c (a::as)).1.length→f k=1)→Y3 N f (ay c (a::as)))
   (fun q hv hf=>by
    rw [lG q] at hf ⊢
    exact (ih W hf fun a ha=>h a (.tail _ ha)).imp id fun v2=>cc.mpr ⟨aN (bT hv.1) (et _),v2⟩)
   (fun i hv hf=>(hv.2 i rfl).elim fun ab cW=>by
    rw [xj cW] at hf ⊢
    have hl:(c++[ab]).length=c.length+1:=bK
    have fl:f c.length=1:=hf _ (bz _) (aN (bT hl.symm) oP.1)
    have wi:=wa (aN (W i ab cW) (bT hv.1))
    exact (ih (c:=c++[ab]) (W.app (a:=ab.1) (b:=ab.2) (by rw [wi.2.1,wi.2.2,fl];exact bz _)) (fun k h1 h2=>hf k (pD (aN (bT hl.symm) h1)) h2) fun a ha=>⟨(h a (.tail _ ha)).1,(h a (.tail _ ha)).2.app⟩).imp id fun v2=>cc.mpr ⟨bT fl,v2⟩) (h a (.head _)) hf
structure GI (c:Cells):Prop where
 ok:Ok c
 rk:∃rk,gA c rk
 wt:∃N f,Wt c N f
 len:c.length≤72
theorem GI.gw {c} (G:GI c):Gw c c:=⟨G.ok,G.rk,[],(gq c).symm⟩
theorem nq {N:Nat} {f:Nat→Nat} {c:Cells} {v:AV} (hv:aL c v) (hf:∀i,i<c.length→f i=0):wv f v=0:=by
 induction v with
 | cell i=>exact (hv i rfl).elim fun x hx=>hf i (bl.mp hx).1
 | _=>rfl
theorem EV {f:Nat→Nat} {c:Cells} (hc:Ok c) (hf:∀i,i<c.length→f i=0):Ws c c.length f:=fun i x hx=>by
 rw [bE (bl.mp hx).1,nq (N:=0) (hc _ _ hx).1 hf,nq (N:=0) (hc _ _ hx).2 hf];exact et _
theorem Lr {i a b:Nat} (h:i<a+b):i+1 - a≤b:=Nat.sub_le_of_le_add (aN h (bT (fy a b)))
theorem gS {c:Cells} {as:List AV} {e:AV} (G:GI c) (hl:c.length≤24) (he:aL c e) (ha:∀a∈as,aL c a) (hn:as.length≤24):GI (made c as e).1∧aL (made c as e).1 (made c as e).2∧∃l,(made c as e).1=c++l:=by
 refine wg (xW G.gw he ha) fun G1 v1 O=> ?_
 have hf:∀i,i<c.length→(fun i=>i+1 - c.length) i=0:=fun i hi=>Nat.sub_eq_zero_of_le hi
 have W:=(xX (w:=0) (f:=fun i=>i+1 - c.length) (EV G.ok hf) (nq (N:=0) he hf) (fun k=>(Nat.add_sub_cancel_left (n:=c.length) (m:=k+1)).trans (Nat.one_mul _).symm) (as:=as) fun a h=>bT (nq (N:=0) (ha a h) hf)).1
 exact ⟨⟨G1.ok,G1.rk,⟨c.length,_,hl,fun i x O h=>hf i h,W,fun i x hx=>aN (Lr (fb▸(bl.mp hx).1)) (aN hn (by decide))⟩,fb▸aN (ka hl hn) (by decide)⟩,v1,G1.ex⟩
theorem G8 {c:Cells} {as:List AV} (G:GI c) (hl:c.length≤24) (ha:∀a∈as,aL c a) (hn:as.length≤24):GI (made (ay c as).1 (ay c as).2 .nil).1∧aL (made (ay c as).1 (ay c as).2 .nil).1 (made (ay c as).1 (ay c as).2 .nil).2∧∃l,(made (ay c as).1 (ay c as).2 .nil).1=c++l:=by
 refine wg (GP G.gw ha) fun G1 v1 u1=> ?_
 refine wg (xW (e:=.nil) G1 (aL.nc rfl) v1) fun G2 v2 O=> ?_
 have sz:=oP (as:=as) (c:=c)
 refine bQ (p:=fun f:Nat→Nat=>∀i,f i=if i<(ay c as).1.length then (if i<c.length then 0 else 1) else 2*(i+1 - (ay c as).1.length)) ⟨_,fun O=>rfl⟩ fun f hf=> ?_
 have h0:∀i,i<c.length→f i=0:=fun i hi=>(hf i).trans ((bE (fu hi sz.1)).trans (bE hi))
 have W1:=GQ (f:=f) (EV G.ok h0) (fun k h1 h2=>(hf k).trans ((bE h2).trans (aW (yA h1)))) fun a h=>⟨nq (N:=0) (ha a h) h0,ha a h⟩
 have W:=(xX (w:=1) (e:=.nil) W1.1 rfl (fun k=>(hf _).trans ((aW (yA (b9 _ _))).trans (aD (2* ·) (Nat.add_sub_cancel_left (n:=(ay c as).1.length) (m:=k+1))))) W1.2).1
 have e1:(made (ay c as).1 (ay c as).2 .nil).1.length=(ay c as).1.length+as.length:=fb.trans (aD (_+ ·) eY)
 exact ⟨⟨G2.ok,G2.rk,⟨c.length,f,hl,fun i x O h=>h0 i h,W,fun i x hx=>by
  rw [hf];split
  ·exact aN Kq (by decide)
  ·exact yR 2 (aN (Lr (e1▸(bl.mp hx).1)) hn)⟩,e1▸aN (ka sz.2 hn) (ka (ka hl hn) (bz 24))⟩,v2,G2.ex⟩
theorem vp (G:GI c) (hl:c.length≤24) (hx:c[i]?=some x) (hv:¬Rc c v i) (ho:aL c v) (h1:ab.1=x.1∨ab.1=v) (h2:ab.2=x.2∨ab.2=v):GI (c.set i ab):=by
 have hc:Ok (c.set i ab):=Dz G.ok hx (h1.elim (fun h=>h▸(G.ok _ _ hx).1) fun h=>h▸ho) (h2.elim (fun h=>h▸(G.ok _ _ hx).2) fun h=>h▸ho)
 exact ⟨hc,G.rk.elim fun rk hr=>NX hr hx hv h1 h2,⟨_,_,EW ((wF ..).symm▸hl) hc⟩,(wF ..).symm▸G.len⟩
def RL (c:Cells) (rk f:Nat→Nat):List (Nat × AV)→Prop
 | []=>True
 | h::r=>(∃d,c[h.1]?=some (h.2,d)∧fP rk (hd r .nil)≤rk h.1∧wv f (hd r .nil)≤wv f d)∧RL c rk f r
theorem RL.set {c rk f}:RL c rk f K→i∉K.map (·.1)→RL (c.set i x) rk f K:=by
 induction K with
 | nil=>exact fun O O=>trivial
 | cons h r ih=>exact fun H hi=>⟨H.1.imp fun d q=>⟨(uI fun e:i=h.1=>hi (e▸.head _)).trans q.1,q.2⟩,ih H.2 fun hm=>hi (.tail _ hm)⟩
theorem RL.ok {c rk f} {K:List (Nat × AV)}:RL c rk f K→aL c (hd K .nil):=mS (P:=fun K:List (Nat × AV)=>RL c rk f K→aL c (hd K .nil)) K (fun O=>aL.nc rfl) fun y r H j e=>AV.cell.inj e▸H.1.elim fun d q=>⟨_,q.1⟩
theorem MM:(∀z∈K,rk z.1+1≤m∧f z.1≤n)→fP rk (hd K .nil)≤m∧wv f (hd K .nil)≤n:=mS (P:=fun K:List (Nat × AV)=>(∀z∈K,rk z.1+1≤m∧f z.1≤n)→fP rk (hd K .nil)≤m∧wv f (hd K .nil)≤n) K (fun O=>⟨et _,et _⟩) fun y r h=>h y (.head _)
theorem QS:(∀z∈K,z.1∈S)→bH S (hd K .nil):=mS (P:=fun K:List (Nat × AV)=>(∀z∈K,z.1∈S)→bH S (hd K .nil)) K (fun O=>bH.nc rfl) fun y r h j e=>AV.cell.inj e▸h y (.head _)
theorem oN {c rk N f} (G:GC c rk N f) {v l e} (h:Chain c v l e):∀z∈l,rk z.1+1≤fP rk v∧f z.1≤wv f v:=by
 induction h with
 | nil=>exact fun z hz=>absurd hz cS
 | num=>exact fun z hz=>absurd hz cS
 | @cell i a d l e hc _ ih=>exact cc.mpr ⟨⟨bz _,bz _⟩,fun z hz=>⟨aN (ih z hz).1 (fS (G.rk _ _ hc).2),aN (ih z hz).2 (aN (cJ _ _) (G.wt.sup _ _ hc))⟩⟩
theorem Bn {c rk N f} (G:GC c rk N f) {v l e} (h:Chain c v l e) (p:Nat × AV→Bool):RL c rk f (l.filter p):=by
 induction h with
 | nil=>exact trivial
 | num=>exact trivial
 | @cell i a d l e hc hd ih=>
  rw [oA]
  split
  ·exact ⟨⟨d,hc,MM fun z hz=>⟨aN (oN G hd z (uB.mp hz).1).1 (G.rk _ _ hc).2,(oN G hd z (uB.mp hz).1).2⟩⟩,ih⟩
  ·exact ih
theorem zK {rk N f} {K:List (Nat × AV)}:∀ {c:Cells},GC c rk N f→(K.map (·.1)).Nodup→RL c rk f K→GC (aT c K) rk N f∧(∀v,aL c v→aL (aT c K) v)∧(aT c K).length=c.length∧∀S,SI S c→lD S c→(∀z∈K,z.1∈S)→SI S (aT c K)∧lD S (aT c K):=by
 induction K with
 | nil=>exact fun G O O=>⟨G,fun O h=>h,rfl,fun S a b O=>⟨a,b⟩⟩
 | cons h r ih=>
  exact fun G nd H=>iL H.1 fun d hd h1 h2=>jW (ih (G.low hd h1 H.2.ok h2) (bV.mp nd).2 (H.2.set (bV.mp nd).1)) fun G2 v2 l2 s2=>
   ⟨G2,fun v hv=>v2 v hv.set,l2.trans (wF ..),fun S a b hs=>s2 S a.set (b.set hd fun hi=>⟨(b _ hi _ hd).1,QS fun z hz=>hs z (.tail _ hz)⟩) fun z hz=>hs z (.tail _ hz)⟩
theorem Bl {S c} (hC:lD S c) {v l e} (h:Chain c v l e):bH S v→(∀z∈l,z.1∈S)∧bH S e:=by
 induction h with
 | nil=>exact fun O=>⟨fun O h=>absurd h cS,bH.nc rfl⟩
 | num=>exact fun O=>⟨fun O h=>absurd h cS,bH.nc rfl⟩
 | @cell i a d l e hc _ ih=>exact fun hi=>(ih (hC i (hi i rfl) _ hc).2).imp (fun h1=>cc.mpr ⟨hi _ rfl,h1⟩) id
theorem zk {c:Cells} {a:AV} {l:List (Nat × AV)} (G:GI c) (hc:Chain c a l .nil) (p:Nat × AV→Bool):GI (aT c (l.filter p))∧aL (aT c (l.filter p)) (hd (l.filter p) .nil)∧∀S,SI S c→lD S c→bH S a→SI S (aT c (l.filter p))∧lD S (aT c (l.filter p)):=by
 refine G.rk.elim fun rk hr=>jX G.wt fun N f W=> ?_
 have GG:GC c rk N f:=⟨G.ok,hr,W⟩
 have rl:=Bn GG hc p
 exact jW (zK GG (hc.pe p).2 rl) fun G2 v2 l2 s2=>⟨⟨G2.ok,⟨rk,G2.rk⟩,⟨N,f,G2.wt⟩,l2.symm▸G.len⟩,v2 _ rl.ok,fun S a b hi=>s2 S a b fun z hz=>(Bl b hc hi).1 z (uB.mp hz).1⟩
theorem xf (hc:Ok c) (hx:aL c x) (e:iu c x=some u):aL c u:=by
 induction x with
 | cell i=>exact (hx i rfl).elim fun ab cW=>cH ((aD (Option.map fun x:AV × AV=>x.1) cW).symm.trans e)▸(hc _ _ cW).1
 | nil=>exact cH e▸aL.nc rfl
 | num=>cases e
theorem GK (hc:Ok c) (hx:aL c x) (e:gf c x=some u):aL c u:=by
 induction x with
 | cell i=>exact (hx i rfl).elim fun ab cW=>cH ((aD (Option.map fun x:AV × AV=>x.2) cW).symm.trans e)▸(hc _ _ cW).2
 | nil=>exact cH e▸aL.nc rfl
 | num=>cases e
theorem Bd (h:x.isNum=true):iu c x=none:=by
 cases x with
 | num=>rfl
 | _=>cases h
theorem Be (h:x.isNum=true):gf c x=none:=by
 cases x with
 | num=>rfl
 | _=>cases h
theorem Chain.okv {c v l e} (h:Chain c v l e):aL c v:=by
 induction h with
 | nil=>exact aL.nc rfl
 | num=>exact aL.nc rfl
 | cell hx=>exact fun j e=>AV.cell.inj e▸⟨_,hx⟩
end Mine
namespace Mine.P
theorem brT (h:P):ey true P P':=h
theorem Zf (h:P'):ey false P P':=h
theorem br (h:b=true→P) (h':b=false→P'):ey b P P':=by cases b;exact h' rfl;exact h rfl
theorem rR (h:b=false) (q:P'):ey b P P':=by rw [h];exact q
theorem UG (h:b=true) (q:P):ey b P P':=by rw [h];exact q
theorem JC [Decidable p] (h:¬p→P) (h':p→P'):ey (!decide p) P P':=br (fun e=>h (of_decide_eq_false ((Fj _).mp e))) fun e=>h' (by simpa using e)
theorem gu [Decidable p] (h:p→P) (h':¬p→P'):ey (decide p) P P':=br (fun e=>h (f3 e)) fun e=>h' (of_decide_eq_false e)
section
variable {C:Nat→CW} (X:Calls C) {n:Nat} {Q:PV} {E:PE} {σ:St}
include X
theorem c7 (h:Q (.bool a.isNum) σ):C (n+1) (.fn 214) [.av a] Q E σ:=X.df (vs:=[.av a]) rfl rfl (by cases a <;> exact h)
theorem oJ (h:Q (.bool (decide (a= .nil) || a.aE)) σ):C (n+1) (.fn 221) [.av a] Q E σ:=X.df (vs:=[.av a]) rfl rfl (ah (.inr rfl) (by cases a <;> exact h))
theorem a6 (h:a.isNum=false→Q (.av a) σ) (e:a.isNum=true→E σ):C (n+2) (.fn 235) [.av a] Q E σ:=X.df (vs:=[.av a]) rfl rfl (ah trivial (oJ X (by cases a <;> first | exact h rfl | exact e rfl)))
theorem kJ (h:a.aE=true→Q (.av a) σ) (e:a.aE=false→E σ):C (n+1) (.fn 242) [.av a] Q E σ:=X.df (vs:=[.av a]) rfl rfl (by cases a <;> first | exact h rfl | exact e rfl)
theorem fH (h:Q (.num k) σ):C (n+2) (.fn 249) [.num k] Q E σ:=X.df (vs:=[.num k]) rfl rfl (ah trivial (c7 X h))
theorem rU (h:∀x,iu σ.cells a=some x→Q (.av x) σ) (hc:a.isNum=false→(iu σ.cells a).isSome=true) (e:a.isNum=true→E σ):C (n+3) (.fn 263) [.av a] Q E σ:=X.df (vs:=[.av a]) rfl rfl (by
 induction a with
 | cell i=>
  exact (yL.mp (hc rfl)).elim fun x hx=>bc (Option.map_eq_some_iff.mp hx) fun ab h1 e1=>ah trivial (a6 X (fun O=>aK h1 (h _ (e1▸hx))) (fun h=>nomatch h))
 | nil=>exact ah trivial (a6 X (fun O=>h _ rfl) (fun h=>nomatch h))
 | num=>exact ah trivial (a6 X (fun h=>nomatch h) e))
noncomputable abbrev spF (a:AV) (i:Nat) (p q:AV):aO:=[some (.av a),some (.ob i),some (.av p),some (.av q),none,none,none]
structure SpS (σ:St) (l:List (Nat × AV)) (e:AV) (i:Nat) (l2:List (Nat × AV)) (T:List V) (sl:List (Nat × AV)) (s:St):Prop where
 fe:T++l2.map cv=l.map cv
 fc:Chain σ.cells (hd l2 e) l2 e
 fd:Chain σ.cells (hd sl e) sl e
 fn:2*l2.length+T.length≤2*sl.length
 fx:Xt σ.cells σ s
 fi:s.objs[i]?=some (.lst T)
theorem fJ {a l e} (hc:Chain σ.cells a l e) (hl:(l.map cv).length<1000000) (h:∀af i t,Xt σ.cells σ af→σ.objs[i]?=none→af.objs[i]?=some (.lst (l.map cv))→af.objs[t]?=some (.tup [.ob i,.av e])→Q (.ob t) af) :
  C (n+1) (.fn 200) [.av a] Q E σ:=X.df (vs:=[.av a]) rfl rfl (by
 refine xp hc.fV (aR fun i rC N1=> ?_)
 refine Ay (fun l2 (T:List V) sl=>spF (hd l e) i (hd l2 e) (hd sl e)) (fun l2 T sl s=>SpS σ l e i l2 T sl s) (l:=l) (z:=[]) (y:=l) ⟨rfl,hc.FP,hc.FP,bz _,N1.xt,N1.at_⟩ (fun T sl s B' H=> ?_) (fun y ys T sl s K' H hN O=> ?_)
 ·exact rR H.fc.gE (aR fun t eg N2=>h _ _ _ (H.fx.to N2.xt) N1.gj ((N2.xt.o H.fi).trans (aD (fun z=>some (Ob.lst z)) ((gq T).symm.trans H.fe))) N2.at_)
 ·have hy:=H.fx.cl H.fc.at_
  refine eJ H.fi rfl (aK hy (ax H.fi (Jy hl H.fe) (aK hy (ax (aI H.fi) (Jy hl (wQ (f:=cv) H.fe)) (ah (by decide) (gu (fun hp=> ?_) fun hp=> ?_))))))
  ·cases sl with
   | nil=>exact absurd H.fn (Nat.not_le.mpr (fu (Nat.mul_pos (by decide) (pC _)) (b9 _ _)))
   | cons w ws=>
    have e1:=YG H.fn hp
    exact aK (H.fx.cl H.fd.at_) (ah (.inr (qr (TM e1))) (rR (jY (H.fc.tl.Xv H.fd.tl (TM e1))) (hN (T++[cv y]) ws _ ⟨wQ (f:=cv) H.fe,H.fc.tl,H.fd.tl,e1,H.fx.set N1.gj,aI H.fi⟩)))
  ·exact hN (T++[cv y]) sl _ ⟨wQ (f:=cv) H.fe,H.fc.tl,H.fd,YH H.fn,H.fx.set N1.gj,aI H.fi⟩)
theorem eE {a l e} (hc:Chain σ.cells a l e) (hl:(l.map cv).length<1000000) (h:e= .nil→∀af i,Xt σ.cells σ af→σ.objs[i]?=none→af.objs[i]?=some (.lst (l.map cv))→Q (.ob i) af) (he:e≠ .nil→∀af,Xt σ.cells σ af→E af) :
  C (n+3) (.fn 256) [.av a] Q E σ:=X.df (vs:=[.av a]) rfl rfl (ah trivial (a6 X (fun O=>ah trivial (fJ X (n:=n+1) hc hl fun af i t X1 f1 h1 h2=>fY h2 (ah (.inr rfl) (JC (fun q=>he q af X1) fun q=>h q af i X1 f1 h1)))) fun q=>he (hc.Sq q) σ (Xt.refl σ)))
theorem u0 {a l e} (hc:Chain σ.cells a l e) (hl:(l.map cv).length<1000000) (h:∀af i,Xt σ.cells σ af→af.objs[i]?=some (.lst (l.map cv))→Q (if e= .nil then .ob i else .none) af) :
  C (n+2) (.fn 207) [.av a] Q E σ:=X.df (vs:=[.av a]) rfl rfl (ah trivial (fJ X (n:=n) hc hl fun af i t X1 f1 h1 h2=>fY h2 (ah (.inr rfl) (gu (fun q=>by have:=h af i X1 h1;rwa [bE q] at this) fun q=>by have:=h af i X1 h1;rwa [aW q] at this))))
theorem rV (h:∀x,gf σ.cells a=some x→Q (.av x) σ) (hc:a.isNum=false→(gf σ.cells a).isSome=true) (e:a.isNum=true→E σ):C (n+3) (.fn 270) [.av a] Q E σ:=X.df (vs:=[.av a]) rfl rfl (by
 induction a with
 | cell i=>
  exact (yL.mp (hc rfl)).elim fun x hx=>bc (Option.map_eq_some_iff.mp hx) fun ab h1 e1=>ah trivial (a6 X (fun O=>aK h1 (h _ (e1▸hx))) (fun h=>nomatch h))
 | nil=>exact ah trivial (a6 X (fun O=>h _ rfl) (fun h=>nomatch h))
 | num=>exact ah trivial (a6 X (fun h=>nomatch h) e))
theorem eX (ha:σ.objs[i]?=some (.lst (as.map .av))) (hl:(as.map V.av).length<1000000) (h:∀af,Xt (made σ.cells as .nil).1 σ af→Q (.av (made σ.cells as .nil).2) af):C (n+2) (.fn 193) [.ob i] Q E σ:=X.lo (by
 refine ax ha hl (oZ (i:=as.length) (by rw [cL,Int.sub_add_cancel]) (ah (by simpa using hl) ?_))
 refine Mz (fun (z:AV × Option V)=>[some (.ob i),some (.av .nil),some (.av z.1),z.2,none,none,none]) (fun k (z:AV × Option V) s=>k≤as.length∧Xt (made σ.cells (as.drop k) .nil).1 σ s∧z.1=(made σ.cells (as.drop k) .nil).2) (fun O O O O=>trivial) (fun z s H=> ?_) (fun k z s K' H hN O=> ?_) (z:=(.nil,none)) ?_
 ·rw [H.2.2];exact h s H.2.1
 ·obtain ⟨y,hy⟩:∃y,as[k]?=some y:=⟨_,gm (Nat.lt_of_succ_le H.1)⟩
  refine ba (H.2.1.o ha) hl (dB _) (v:=.av y) (by simp [hy]) (ah trivial (X.co (n:=n) (hN (_,_) _ ⟨pD H.1,⟨?_,H.2.1.o⟩,?_⟩)))
  ·rw [mH hy,H.2.1.c,H.2.2];rfl
  ·rw [mH hy,H.2.1.c];rfl
 ·exact ⟨bz _,by rw [List.drop_length];exact Xt.refl σ,by rw [List.drop_length];rfl⟩)
theorem y6 (h:Q (.bool (decide (a=b))) σ):C (n+2) (.fn 326) [.av a,.av b] Q E σ:=X.df (vs:=[.av a,.av b]) rfl rfl (ah trivial (c7 X (by
 induction a with
 | num k=>exact ah trivial (c7 X (ah trivial (c7 X (by
   induction b with
   | num m=> 
    have e:(decide ((AV.num k)=AV.num m))=decide (k=m):=by simp
    rw [e] at h;exact h
   | _=>exact h))))
 | _=>exact ah trivial (c7 X (by
   induction b with
   | num m=>exact ah trivial (c7 X h)
   | _=>exact ah (.inl rfl) h)))))
end
section
variable {C:Nat→CW} (X:Calls C) {n:Nat} {Q:PV} {E:PE} {σ:St}
include X
noncomputable abbrev rgF (a p q:AV):aO:=[some (.av a),some (.av p),some (.av q),none,none,none,none,none]
omit X in
theorem GJ {c:Cells} {v:AV} (h:v.isNum=true):gf c v=none:=by
 cases v with
 | num=>rfl
 | _=>cases h
theorem oL {a l e} (hc:Chain σ.cells a l e) (h:∀af,Xt σ.cells σ af→Q .none af):C (n+1) (.fn 399) [.av a] Q E σ:=
 X.df (vs:=[.av a]) rfl rfl (xp hc.fV (pI (fun (q s:List (Nat × AV)) (_:Unit)=>rgF (hd l e) (hd s e) (hd q e)) (fun q sl O s=>Chain σ.cells (hd q e) q e∧Chain σ.cells (hd sl e) sl e∧q.length≤sl.length∧Xt σ.cells σ s) (fun q O=>q.length) (z:=l) (y:=l) (j:=()) ⟨hc.FP,hc.FP,bz _,Xt.refl σ⟩ (fun q sl O s K' H hN O=>by
  cases q with
  | nil=>exact rR H.1.gE (h s H.2.2.2)
  | cons x q=>
   have c1:=H.2.2.2.cl H.1.at_
   cases q with
   | nil=>exact aK c1 (rR H.1.gE (h s H.2.2.2))
   | cons y r=>cases sl with
    | nil=>exact absurd H.2.2.1 (yO _)
    | cons w ws=>
     have cu:r.length<ws.length:=uw H.2.2.1
     exact aK c1 (aK (H.2.2.2.cl H.2.1.at_) (aK c1 (aK (H.2.2.2.cl H.1.tl.at_) (ah (.inl (qr cu)) (rR (jY (H.1.tl.tl.Xv H.2.1.tl cu).symm) (hN r ws () s (Nat.lt_succ_of_lt (iO _)) ⟨H.1.tl.tl,H.2.1.tl,eu cu,H.2.2.2⟩).1))))))))
noncomputable abbrev raF (k z:Int) (a b:AV):aO:=[some (.num k),some (.av a),some .none,some (.num z),some (.av b),none,none,none]
theorem jB {a l e} {k:Nat} {kz:Int} (hz:kz=k) (hc:Chain σ.cells a l e) (h:∀b,cP σ.cells k a=some b→∀af,Xt σ.cells σ af→Q (.av b) af) (he:cP σ.cells k a=none→∀af,Xt σ.cells σ af→E af):C (n+4) (.fn 406) [.num kz,.av a] Q E σ:=by
 rw [hz]
 exact X.df (vs:=[.num k,.av a]) rfl rfl (ah trivial (oL X (n:=n+2) hc fun rC X1=>rN (fun (z:Int × AV)=>raF k z.1 a z.2)
   (fun z s=>cP σ.cells z.1.toNat z.2=cP σ.cells k a∧(∃l e,Chain σ.cells z.2 l e)∧Xt σ.cells σ s) (fun z=>z.1.toNat) (z:=(k,a)) ⟨rfl,⟨_,_,hc⟩,X1⟩ (fun z s K' H hN O=>by
  have c1:=H.2.2.c
  refine gu (fun hp=>ah (.inr rfl) (JC (fun hn=>ah trivial (rV X (n:=n) (fun x hx=>(hN (z.1 - 1,x) s (Lx hp) ⟨by rw [←H.1,zX hp,jq hn,show gf σ.cells z.2=some x from c1▸hx];rfl,Chain.Bf H.2.1 (c1▸hx),H.2.2⟩).1) (fun hi=>jX H.2.1 fun l e hl=>c1.symm▸hl.PZ hi) fun hi=>he ?_ s H.2.2)) fun hn=>h z.2 ?_ s H.2.2)) fun hp=>h z.2 ?_ s H.2.2
  ·rw [←H.1,zX hp,jq hn];exact aD (fun o:Option AV=>o.bind _) (GJ (by assumption))
  ·rw [←H.1,zX hp,cP,bE hn,hn]
  ·rw [←H.1,Ui hp];rfl)))
section
variable {ai:Nat} {w:V}
theorem PS {a l e} (ha:σ.objs[ai]?=some (.lst [.av a])) (hc:Chain σ.cells a l e) (h:∀x,iu σ.cells a=some x→Q (.av x) σ) (he:a.isNum=true→E σ):C (n+4) (.fn 277) [w,.ob ai] Q E σ:=
 X.df (vs:=[w,.ob ai]) rfl rfl (ly ha (ah trivial (rU X (n:=n) h hc.PY he)))
theorem PT {a l e} (ha:σ.objs[ai]?=some (.lst [.av a])) (hc:Chain σ.cells a l e) (h:∀x,gf σ.cells a=some x→Q (.av x) σ) (he:a.isNum=true→E σ):C (n+4) (.fn 284) [w,.ob ai] Q E σ:=
 X.df (vs:=[w,.ob ai]) rfl rfl (ly ha (ah trivial (rV X (n:=n) h hc.PZ he)))
theorem Md (ha:σ.objs[ai]?=some (.lst [.av a,.av b])) (h:Q (.av (.cell σ.cells.length)) {σ with cells:=σ.cells++[(a,b)]}):C (n+2) (.fn 291) [w,.ob ai] Q E σ:=
 X.df (vs:=[w,.ob ai]) rfl rfl (bg ha (bO ha (ah trivial (X.co (n:=n) h))))
theorem AR (ha:σ.objs[ai]?=some (.lst (as.map .av))) (hl:(as.map V.av).length<1000000) (h:∀af,Xt (made σ.cells as .nil).1 σ af→Q (.av (made σ.cells as .nil).2) af):C (n+3) (.fn 298) [w,.ob ai] Q E σ:=
 X.df (vs:=[w,.ob ai]) rfl rfl (ah trivial (eX X (n:=n) ha hl h))
theorem r3 (ha:σ.objs[ai]?=some (.lst [.av a,.av b])) (h:∀i ab,a= .cell i→σ.cells[i]?=some ab→Q (.av b) (σ.setC i (b,ab.2))) (WS:∀i,a= .cell i→∃ab,σ.cells[i]?=some ab) (he:a.aE=false→E σ):C (n+2) (.fn 305) [w,.ob ai] Q E σ:=
 X.df (vs:=[w,.ob ai]) rfl rfl (bO ha (bg ha (ah trivial (kJ X (n:=n) (fun hi=>by
  induction a with
  | cell i=>exact (WS i rfl).elim fun ab cW=>aK cW (bO (by exact ha) (h i ab rfl cW))
  | _=>cases hi) he))))
theorem r4 (ha:σ.objs[ai]?=some (.lst [.av a,.av b])) (h:∀i ab,a= .cell i→σ.cells[i]?=some ab→Q (.av b) (σ.setC i (ab.1,b))) (WS:∀i,a= .cell i→∃ab,σ.cells[i]?=some ab) (he:a.aE=false→E σ):C (n+2) (.fn 312) [w,.ob ai] Q E σ:=
 X.df (vs:=[w,.ob ai]) rfl rfl (bO ha (bg ha (ah trivial (kJ X (n:=n) (fun hi=>by
  induction a with
  | cell i=>exact (WS i rfl).elim fun ab cW=>aK cW (bO (by exact ha) (h i ab rfl cW))
  | _=>cases hi) he))))
theorem AY {a l e} (ha:σ.objs[ai]?=some (.lst [.av a])) (hc:Chain σ.cells a l e) (hl:(l.map cv).length<1000000) (h:∀af,Xt σ.cells σ af→Q (if e= .nil then .num l.length else .av .nil) af):C (n+3) (.fn 319) [w,.ob ai] Q E σ:=
 X.df (vs:=[w,.ob ai]) rfl rfl (ly ha (ah trivial (oJ X (n:=n+1) (br (fun q=>ly ha (ah trivial (u0 X (n:=n) hc hl fun af i X1 h1=>by
  have h':=h af X1
  by_cases he:e= .nil
  ·rw [bE he] at h' ⊢;rw [←cL (f:=cv)] at h';exact ax h1 hl h'
  ·rw [aW he] at h' ⊢;exact h'))) fun q=>by
   have h':=h σ (Xt.refl σ)
   induction hc with
   | num=>rw [aW (by simp)] at h';exact h'
   | _=>cases q))))
theorem AX {a l e} {k:Nat} (ha:σ.objs[ai]?=some (.lst [.num k,.av a])) (hc:Chain σ.cells a l e) (h:∀b,cP σ.cells k a=some b→∀af,Xt σ.cells σ af→Q (.av b) af) (he:cP σ.cells k a=none→∀af,Xt σ.cells σ af→E af):C (n+5) (.fn 413) [w,.ob ai] Q E σ:=
 X.df (vs:=[w,.ob ai]) rfl rfl (bg ha (ah trivial (fH X (n:=n+2) (bO ha (ah trivial (jB X (n:=n) rfl hc h he))))))
theorem PW {a l e} {k:Nat} (ha:σ.objs[ai]?=some (.lst [.num k,.av a])) (hc:Chain σ.cells a l e) (h:∀b x,cP σ.cells k a=some b→iu σ.cells b=some x→∀af,Xt σ.cells σ af→Q (.av x) af)
  (he:(cP σ.cells k a).bind (iu σ.cells)=none→∀af,Xt σ.cells σ af→E af):C (n+5) (.fn 420) [w,.ob ai] Q E σ:=
 X.df (vs:=[w,.ob ai]) rfl rfl (bg ha (ah trivial (fH X (n:=n+2) (bO ha (ah trivial (jB X (n:=n) rfl hc (fun b hb af X1=>ah trivial (rU X (n:=n+1)
  (fun x hx=>h b x hb (X1.c▸hx) af X1) (fun hi=>by obtain ⟨l,e,cq⟩:=fO ⟨_,_,hc⟩ hb;rw [X1.c];exact cq.PY hi) fun hi=>he (by rw [hb];induction b with
   | num=>rfl
   | _=>cases hi) af X1)) fun hb=>he (by rw [hb];rfl)))))))
end
end
section
variable {C:Nat→CW} (X:Calls C) {n:Nat} {Q:PV} {E:PE} {σ:St} {ai:Nat} {w:V}
include X
theorem AQ {a l e} (ha:σ.objs[ai]?=some (.lst [.av a])) (hc:Chain σ.cells a l e) (hl:(l.map cv).length<1000000) (h:a.isNum=false→∀af,Xt σ.cells σ af→Q (.av (kQ l)) af) (he:a.isNum=true→E σ):C (n+5) (.fn 434) [w,.ob ai] Q E σ:=
 X.df (vs:=[w,.ob ai]) rfl rfl (ax ha (dY rfl) (ly ha (ah trivial (a6 X (n:=n+2) (fun hn=>ah trivial (fJ X (n:=n+3) hc hl fun af i t X1 f1 h1 h2=>fY h2 (ax h1 hl (ly (X1.o ha) (ah trivial (by
 have QO:cP af.cells ((l.map cv).length - 1) a=some (kQ l):=by rw [cL,X1.c,zE hc hn]
 exact jB X (n:=n) CL (X1.c▸hc) (fun b hb s X2=>cH (QO.symm.trans hb)▸h hn s (X1.to X2)) fun hb=>(fg QO hb).elim)))))) he))))
theorem oI {a l e} (ha:σ.objs[ai]?=some (.lst [.av a])) (hc:Chain σ.cells a l e) (hl:(l.map cv).length<1000000) (h:e= .nil→∀af,Xt (made σ.cells (l.map (·.2)).dropLast .nil).1 σ af→Q (.av (made σ.cells (l.map (·.2)).dropLast .nil).2) af) (he:e≠ .nil→∀af,Xt σ.cells σ af→E af):C (n+5) (.fn 441) [w,.ob ai] Q E σ:=
 X.df (vs:=[w,.ob ai]) rfl rfl (by
 refine ax ha (dY rfl) (ly ha (ah trivial (eE X (n:=n+1) hc hl (fun hn af i X1 f1 h1=> ?_) he)))
 refine ax h1 hl (ax h1 hl (ah ?_ (aR fun j eg N2=>ah trivial ?_)))
 ·rw [jN];exact ⟨dB _,nC.mpr (cY (nE _ _) hl)⟩
 ·have e1:(l.map cv).take (Max.max 0 (((l.map cv).length:Int) - 1)).toNat=((l.map (·.2)).dropLast).map V.av:=by
   rw [jN,Fo,←List.dropLast_eq_take,←FF,←FF,dj];rfl
  refine eX X (n:=n+2) (as:=(l.map (·.2)).dropLast) (e1▸N2.at_) (by rw [←e1,wJ];exact cY (yz _ _) hl) fun s X3=> ?_
  rw [N2.c,X1.c] at X3 ⊢
  exact h hn s ((X1.trans N2.xt).trans X3))
theorem rW {a l e x} (hc:Chain σ.cells a l e) (hx:l.getLast? =some x) (h:∀af,Xt σ.cells σ af→Q (.av (.cell x.1)) af):C (n+2) (.fn 448) [.av a] Q E σ:=X.df (vs:=[.av a]) rfl rfl (ah trivial (oL X (n:=n) hc fun rC X1=>by
 cases l with
 | nil=>cases hx
 | cons y r=>
  rw [hc.fV]
  exact rM (fun l2 (z:Nat × AV)=>[some (.av (.cell y.1)),some (.av (.cell z.1)),none,none,none,none]) (fun l2 (z:Nat × AV) s=>Chain σ.cells (.cell z.1) (z::l2) e∧(z::l2).getLast? =some x∧Xt σ.cells σ s) (l:=r) (z:=y) ⟨hc.FP,hx,X1⟩
   (fun z s B' H=>aK (H.2.2.cl H.1.at_) (rR H.1.tl.gE (show Q (.av (.cell z.1)) s from (show z=x from cH H.2.1)▸h s H.2.2))) (fun y ys z s K' H hN O=>aK (H.2.2.cl H.1.at_) (aK (H.2.2.cl H.1.at_) (hN y s ⟨H.1.tl,List.getLast?_cons_cons.symm.trans H.2.1,H.2.2⟩)))))
theorem xe {a b l e} (ha:σ.objs[ai]?=some (.lst [.av a,.av b])) (hc:Chain σ.cells a l e) (h:a.isNum=false→∀af,Xt (d9 σ.cells l b) σ af→Q (.av (if a= .nil then b else a)) af) (he:a.isNum=true→E σ):C (n+3) (.fn 455) [w,.ob ai] Q E σ:=
 X.df (vs:=[w,.ob ai]) rfl rfl (ax ha (dY rfl) (fX (l:=[.av a]) ha (dY rfl) (ax ha (dY rfl) (oZ (i:=1) rfl (ah (by decide) ⟨trivial,bg ha (ah trivial (a6 X (n:=n) (fun hn=>ah (.inr rfl) (JC (fun Rb=>(hc.RF hn Rb).elim fun x hx=>
  bg ha (ah trivial (rW X (n:=n) hc hx.1 fun s X1=>aK (X1.cl (hc.jf hx.1)) (bg (X1.o ha) ⟨trivial,show Q (.av a) _ from (if_neg Rb:(if a= .nil then b else a)=a)▸h hn (s.setC x.1 (x.2,b)) ⟨by unfold d9;rw [hx.1];exact X1.c▸rfl,X1.o⟩⟩)))) fun Rb=>⟨trivial,show Q (.av b) σ from (if_pos Rb:(if a= .nil then b else a)=b)▸h hn σ ((hc.Sn Rb).symm▸Xt.refl σ)⟩)) he))⟩)))))
noncomputable abbrev rwF (a:AV) (f:V) (p q:AV) (t:Int):aO:=[some (.av a),some f,some (.av p),some (.av q),some (.num t),none,none,none,none,none,none]
structure RwS (σ:St) (l:List (Nat × AV)) (e:AV) (p:AV→Bool) (l2 sl:List (Nat × AV)) (t:Int) (s:St):Prop where
 c:Chain σ.cells (hd l2 e) l2 e
 d:Chain σ.cells (hd sl e) sl e
 n:2*(l2.length:Int)+t≤2*(sl.length:Int)
 t:0≤t
 f:l.find? (fun x=>p x.2)=l2.find? (fun x=>p x.2)
 m:∀x∈l2,x∈l
 x:Xt σ.cells σ s
theorem jd {a l e} {f:V} {p:AV→Bool} (hc:Chain σ.cells a l e) (hf:Js f) (cb:∀x∈l,∀ {s:St} {Q':PV},Xt σ.cells σ s→(∀s',Xt s.cells s s'→Q' (.bool (p x.2)) s')→C (n+2) f [.av x.2] Q' E s)
  (h:(l.find? (fun x=>p x.2)).isSome=true∨e= .nil→∀af,Xt σ.cells σ af→Q (.av (cM (l.find? fun x=>p x.2))) af) (he:l.find? (fun x=>p x.2)=none→e≠ .nil→∀af,Xt σ.cells σ af→E af):C (n+3) (.fn 483) [.av a,f] Q E σ:=by
 rw [hc.fV]
 have hc:=hc.FP
 exact X.df (vs:=[.av (hd l e),f]) rfl rfl (ah trivial (a6 X (n:=n) (fun hn=>Ay (fun l2 sl t=>rwF (hd l e) f (hd l2 e) (hd sl e) t) (RwS σ l e p) (l:=l) (z:=l) (y:=0) ⟨hc,hc,lB _,lB _,rfl,fun O h=>h,Xt.refl σ⟩
  (fun z t s B' H=>rR H.c.gE (ah (.inr rfl) (JC (fun hz=>he H.f hz s H.x) fun hz=>show Q (.av .nil) s from (show cM (l.find? fun x=>p x.2)= .nil from aD cM H.f)▸h (.inr hz) s H.x))) (fun y ys sl t s K' H hN hR=>aK (H.x.cl H.c.at_) (ah hf (cb y (H.m y (.head _)) H.x fun s' X2=>br (fun hp=>hR _ _ _ (show Q (.av (.cell y.1)) s' from (show cM (l.find? fun x=>p x.2)= .cell y.1 from aD cM ((qn H.f).1 hp))▸h (.inl (by rw [(qn H.f).1 hp];rfl)) s' (H.x.to X2))) fun hp=>by
   have X3:=H.x.to X2
   have e1:=(qn H.f).2 hp
   have hm:∀x∈ys,x∈l:=fun x hx=>H.m x (.tail _ hx)
   have t1:0≤t+1:=uy H.t
   refine aK (X3.cl H.c.at_) (ah (by decide) (gu (fun hq=> ?_) fun hq=>hN sl (t+1) s' ⟨H.c.tl,H.d,NZ H.n,t1,e1,hm,X3⟩))
   cases sl with
   | nil=>exact (XJ H.t H.n).elim
   | cons w ws=>
    have cu:=SV H.t (NY H.n hq)
    exact aK (X3.cl H.d.at_) (ah (.inr (qr cu)) (rR (jY (H.c.tl.Xv H.d.tl cu)) (hN ws (t+1) s' ⟨H.c.tl,H.d.tl,NY H.n hq,t1,e1,hm,X3⟩)))))))
  fun hn=>he ((hc.nm hn).1▸rfl) (hc.Sq hn) σ (Xt.refl σ)))
end
section
variable {C:Nat→CW} (X:Calls C) {n:Nat} {Q:PV} {E:PE} {σ:St} {ai:Nat} {w:V}
include X
noncomputable abbrev tkF (w:V) (ai k i:Nat) (p:AV):aO:=[some w,some (.ob ai),some (.num k),some (.ob i),some (.av p),none,none,none,none,none,none,none,none,none]
structure LU (σ:St) (l:List (Nat × AV)) (e:AV) (k i:Nat) (l2:List (Nat × AV)) (T:List AV) (s:St):Prop where
 fe:T++l2.map (·.2)=l.map (·.2)
 fl:T.length≤k
 fc:Chain σ.cells (hd l2 e) l2 e
 fx:Xt σ.cells σ s
 fi:s.objs[i]?=some (.lst (T.map V.av))
theorem A0 {a l e} {k:Nat} (ha:σ.objs[ai]?=some (.lst [.num k,.av a])) (hc:Chain σ.cells a l e) (hl:(l.map (·.2)).length<1000000)
  (h:a.isNum=false→(k≤(l.map (·.2)).length∨e= .nil)→∀af,Xt (made σ.cells ((l.map (·.2)).take k) .nil).1 σ af→Q (.av (made σ.cells ((l.map (·.2)).take k) .nil).2) af) (he:(a.isNum=true∨(l.map (·.2)).length<k∧e≠ .nil)→∀af,Xt σ.cells σ af→E af):C (n+3) (.fn 427) [w,.ob ai] Q E σ:=
 X.df (vs:=[w,.ob ai]) rfl rfl (by
 refine bg ha (ah trivial (fH X (n:=n) (aR fun i rC N1=>bO (N1.xt.o ha) (ah trivial (a6 X (n:=n) (fun hn=> ?_) fun hn=>he (.inl hn) rC N1.xt)))))
 refine xp hc.fV ?_
 have hc:=hc.FP
 have lo:∀ {T:List AV} {s:St},T=(l.map (·.2)).take k→(T.map V.av).length<1000000→(k≤(l.map (·.2)).length∨e= .nil)→Xt σ.cells σ s→s.objs[i]?=some (.lst (T.map V.av))→C (n+2) (.fn 193) [.ob i] Q E s:=fun eT hT ho X1 h1=>
  eX X (n:=n) h1 hT fun s' X2=>by rw [X1.c,eT] at X2 ⊢;exact h hn ho s' (X1.trans X2)
 refine rM (fun l2 (T:List AV)=>tkF w ai k i (hd l2 e)) (fun l2 (T:List AV) s=>LU σ l e k i l2 T s) (l:=l) (z:=[]) ⟨rfl,et _,hc,N1.xt,N1.at_⟩ (fun T s B' H=> ?_) (fun y ys T s K' H hN O=> ?_)
 ·refine rR H.fc.gE (ax H.fi (fF hl H.fe) (gu (fun hp=>ah (.inr rfl) (JC (fun hz=>he (.inr ⟨cY (bT (Jz H.fe H.fl rfl)) (R2 hp),hz⟩) s H.fx) fun hz=>ah trivial (lo (AB H.fe (.inr ⟨rfl,H.fl⟩)) (fF hl H.fe) (.inr hz) H.fx H.fi))) fun hp=>ah trivial (lo (AB H.fe (.inr ⟨rfl,H.fl⟩)) (fF hl H.fe) (.inl (aN (R3 hp) (bT (Jz H.fe H.fl rfl).symm))) H.fx H.fi)))
 ·refine ax H.fi (fF hl H.fe) (gu (fun hp=>ax H.fi (fF hl H.fe) (gu (fun O=> ?_) fun hq=>absurd (Xm (fF hl H.fe)) hq)) fun hp=> ?_)
  ·exact eJ H.fi rfl (aK (H.fx.cl H.fc.at_) (ax H.fi (fF hl H.fe) (aK (H.fx.cl H.fc.at_) (hN (T++[y.2]) _ ⟨PI H.fe,aN (bT bK) (R2 hp),H.fc.tl,H.fx.set N1.gj,(aI H.fi).trans (aD (fun z=>some (Ob.lst z)) AA)⟩))))
  ·have hT:=wu H.fl (R3 hp)
   exact ax H.fi (fF hl H.fe) (rR (jY hp) (ah trivial (lo (AB H.fe (.inl hT)) (fF hl H.fe) (.inl (by rw [←hT,←H.fe,bK];exact b9 _ _)) H.fx H.fi))))
section
variable {a b e:AV} {l:List (Nat × AV)} {p:AV→Bool}
theorem kN (hc:Chain σ.cells a l e) (cf:∀x∈l,∀ {s:St} {Q':PV},Xt σ.cells σ s→(∀s',Xt s.cells s s'→Q' (.bool (p x.2)) s')→C (n+1) (.fn f) [.av b,.av x.2] Q' E s)
  (h:(l.find? (fun x=>p x.2)).isSome=true∨e= .nil→∀af,Xt σ.cells σ af→Q (.av (cM (l.find? fun x=>p x.2))) af) (he:l.find? (fun x=>p x.2)=none→e≠ .nil→∀af,Xt σ.cells σ af→E af):C (n+4) (.fn 476) [.av b,.av a,.fn f] Q E σ:=
 X.r1 (jd X (n:=n) hc trivial (fun x hx s Q' X1 k=>X.l1 (cf x hx X1 k)) h he)
theorem kM (hc:Chain σ.cells a l e) (cf:∀x∈l,∀(i:Nat) (ab:AV × AV),x.2= .cell i→σ.cells[i]?=some ab→∀ {s:St} {Q':PV},Xt σ.cells σ s→(∀s',Xt s.cells s s'→Q' (.bool (p (if bb then ab.2 else ab.1))) s')→C (n+1) (.fn f) [.av b,.av (if bb then ab.2 else ab.1)] Q' E s)
  (hg:∀x∈l,∀i,x.2= .cell i→∃ab,σ.cells[i]?=some ab)
  (h:(l.find? (fun x=>cg σ.cells bb p x.2)).isSome=true∨e= .nil→∀af,Xt σ.cells σ af→Q (.av (iC (l.find? fun x=>cg σ.cells bb p x.2))) af) (he:l.find? (fun x=>cg σ.cells bb p x.2)=none→e≠ .nil→∀af,Xt σ.cells σ af→E af):C (n+4) (.fn 509) [.av b,.av a,.fn f,.bool bb] Q E σ:=
 X.r2 (jd X (n:=n) (p:=cg σ.cells bb p) hc trivial (fun x hx s Q' X1 k=>X.l2 (by
  cases UZ:x.2 with
  | cell i=>exact (hg x hx i UZ).elim fun ab cW=>.inr ⟨i,ab,rfl,X1.cl cW,cf x hx i ab UZ cW X1 fun s' X2=>(show cg σ.cells bb p x.2=p (if bb then ab.2 else ab.1) from UZ▸xg cW)▸k s' X2⟩
  | _=>exact .inl ⟨rfl,(show cg σ.cells bb p x.2=false from UZ▸rfl)▸k s (Xt.refl s)⟩)) (fun ho s X1=>by
   have:=h ho s X1
   cases hf:l.find? (fun x=>cg σ.cells bb p x.2) with
   | none=>rw [hf] at this;exact ⟨_,rfl,.inl ⟨rfl,this⟩⟩
   | some x=>
    rw [hf] at this
    exact (hc.mem x (Ff hf)).elim fun d hd=>⟨_,rfl,.inr ⟨x.1,_,rfl,X1.cl hd,this⟩⟩) he)
theorem Me (ha:σ.objs[ai]?=some (.lst [.av b,.av a])) (hc:Chain σ.cells a l e)
  (h:(l.find? (fun x=>decide (b=x.2))).isSome=true∨e= .nil→∀af,Xt σ.cells σ af→Q (.av (cM (l.find? fun x=>decide (b=x.2)))) af) (he:l.find? (fun x=>decide (b=x.2))=none→e≠ .nil→∀af,Xt σ.cells σ af→E af):C (n+6) (.fn 462) [w,.ob ai] Q E σ:=
 X.df (vs:=[w,.ob ai]) rfl rfl (bg ha (bO ha (ah trivial (kN X (n:=n+1) (p:=fun y=>decide (b=y)) hc (fun x hx s Q' X1 k=>y6 X (n:=n) (k s (Xt.refl s))) h he))))
theorem Mb (hc:Chain σ.cells a l e) (hg:∀x∈l,∀i,x.2= .cell i→∃ab,σ.cells[i]?=some ab)
  (h:(l.find? (fun x=>cg σ.cells bb (fun y=>decide (b=y)) x.2)).isSome=true∨e= .nil→∀af,Xt σ.cells σ af→Q (.av (iC (l.find? fun x=>cg σ.cells bb (fun y=>decide (b=y)) x.2))) af) (he:l.find? (fun x=>cg σ.cells bb (fun y=>decide (b=y)) x.2)=none→e≠ .nil→∀af,Xt σ.cells σ af→E af):C (n+5) (.fn 509) [.av b,.av a,.fn 326,.bool bb] Q E σ:=
 kM X (n:=n+1) (p:=fun y=>decide (b=y)) hc (fun x hx i ab h1 h2 s Q' X1 k=>y6 X (n:=n) (k s (Xt.refl s))) hg h he
theorem Mc (ha:σ.objs[ai]?=some (.lst [.av b,.av a])) (h:C n (.fn 509) [.av b,.av a,.fn 326,.bool false] Q E σ):C (n+1) (.fn 516) [w,.ob ai] Q E σ:=X.df (vs:=[w,.ob ai]) rfl rfl (bg ha (bO ha (ah trivial h)))
theorem Gu (ha:σ.objs[ai]?=some (.lst [.av b,.av a])) (h:C n (.fn 509) [.av b,.av a,.fn 392,.bool false] Q E σ):C (n+1) (.fn 523) [w,.ob ai] Q E σ:=X.df (vs:=[w,.ob ai]) rfl rfl (bg ha (bO ha (ah trivial h)))
theorem GD (ha:σ.objs[ai]?=some (.lst [.av b,.av a])) (h:C n (.fn 509) [.av b,.av a,.fn 326,.bool true] Q E σ):C (n+1) (.fn 530) [w,.ob ai] Q E σ:=X.df (vs:=[w,.ob ai]) rfl rfl (bg ha (bO ha (ah trivial h)))
theorem AW (ha:σ.objs[ai]?=some (.lst [.av b,.av a])) (h:C n (.fn 476) [.av b,.av a,.fn 392] Q E σ):C (n+1) (.fn 469) [w,.ob ai] Q E σ:=X.df (vs:=[w,.ob ai]) rfl rfl (bg ha (bO ha (ah trivial h)))
end
end
section
variable {C:Nat→CW} (X:Calls C) {n:Nat} {Q:PV} {E:PE} {σ:St} {ai:Nat} {w:V} {a b e:AV} {l:List (Nat × AV)}
include X
noncomputable abbrev Xi (a b p:AV) (q:Option V):aO:=[some (.av b),some (.av a),some (.fn 326),some (.av p),q,none,none,none]
theorem Kz (hc:Chain σ.cells (hd l .nil) l .nil) (h:∀af,Xt (aT σ.cells (l.filter (dT b))) σ af→Q (.av (hd (l.filter (dT b)) .nil)) af) {L:List (Nat × AV)} {s:St} (X1:Xt s.cells σ s) (hL:Au b (aT σ.cells (l.filter (dT b))) s.cells L) (hf:hd L .nil=hd (l.filter (dT b)) .nil) :
  qB (C (n+3)) (ir.drop 3) (Xi (hd l .nil) b (hd L .nil) none) (cI Q) (fun O=>E) s:=
 rN (fun (z:List (Nat × AV))=>Xi (hd l .nil) b (hd L .nil) (some (.av (hd z .nil)))) (fun z s=>Xt s.cells σ s∧Au b (aT σ.cells (l.filter (dT b))) s.cells z) List.length (z:=L) ⟨X1,hL⟩ (fun z s K' H hN O=>by
  cases z with
  | nil=>exact show Q (.av (hd L .nil)) s from hf▸h s ⟨H.2,H.1.o⟩
  | cons x r=>cases r with
   | nil=>exact aK H.2.1.at_ (aK H.2.1.at_ (hN [] s (iO _) ⟨H.1,H.2.last⟩).1)
   | cons y r=>
    refine aK H.2.1.at_ (aK H.2.1.at_ (aK H.2.1.tl.at_ (ah trivial (y6 X (n:=n+1) (gu (fun hb=> ?_) fun hb=> ?_)))))
    ·exact aK H.2.1.at_ (aK H.2.1.tl.at_ (aK H.2.1.at_ (hN (x::r) (s.setC x.1 (x.2,hd r .nil)) (iO _) ⟨⟨rfl,H.1.o⟩,H.2.del hb⟩).1))
    ·exact aK H.2.1.at_ (hN (y::r) s (iO _) ⟨H.1,H.2.skip hb⟩).1)
theorem u3 (hc:Chain σ.cells a l e) (hl:(l.map cv).length<1000000) (h:e= .nil→∀af,Xt (aT σ.cells (l.filter (dT b))) σ af→Q (.av (hd (l.filter (dT b)) .nil)) af) (he:e≠ .nil→∀af,Xt σ.cells σ af→E af):C (n+4) (.fn 490) [.av b,.av a,.fn 326] Q E σ:=
 X.df (vs:=[.av b,.av a,.fn 326]) rfl rfl (ah trivial (eE X (n:=n) hc hl (fun hz rC i X1 f1 h1=>by
 have h:=h hz
 have hc:=show Chain σ.cells a l .nil from hz▸hc
 refine xp hc.fV ?_
 have hc:=hc.FP
 refine rM (fun l2 (_:Unit)=>Xi (hd l .nil) b (hd l2 .nil) none) (fun l2 O s=>Chain σ.cells (hd l2 .nil) l2 .nil∧l.filter (dT b)=l2.filter (dT b)∧Xt σ.cells σ s) (l:=l) (z:=()) ⟨hc,rfl,X1⟩ (fun z s B' H=> ?_) (fun y ys z s K' H hN O=> ?_)
 ·exact Kz X hc h (L:=[]) ⟨rfl,H.2.2.o⟩ (by rw [H.2.1];exact H.2.2.c) (H.2.1▸rfl)
 ·refine aK (H.2.2.cl H.1.at_) (ah trivial (y6 X (n:=n+1) (gu (fun hb=>aK (H.2.2.cl H.1.at_) (hN () s ⟨H.1.tl,H.2.1.trans (by rw [oA,aW (x5 hb)]),H.2.2⟩)) fun hb=> ?_)))
  have e1:=H.2.1.trans (by rw [oA,bE (x6 hb)])
  exact Kz X hc h (L:=y::ys) ⟨rfl,H.2.2.o⟩ (by rw [e1,H.2.2.c];exact ⟨H.1,rfl⟩) (by rw [e1])) he))
theorem AP (ha:σ.objs[ai]?=some (.lst [.av b,.av a])) (hc:Chain σ.cells a l e) (hl:(l.map cv).length<1000000) (h:e= .nil→∀af,Xt (aT σ.cells (l.filter (dT b))) σ af→Q (.av (hd (l.filter (dT b)) .nil)) af) (he:e≠ .nil→∀af,Xt σ.cells σ af→E af):C (n+5) (.fn 497) [w,.ob ai] Q E σ:=
 X.df (vs:=[w,.ob ai]) rfl rfl (bg ha (bO ha (ah trivial (u3 X (n:=n) hc hl h he))))
theorem AZ (ha:σ.objs[ai]?=some (.lst [.av b,.av a])) (hc:Chain σ.cells a l e) (hl:(l.map cv).length<1000000) (h:e= .nil→∀af,Xt (made σ.cells ((l.filter (dT b)).map (·.2)) .nil).1 σ af→Q (.av (made σ.cells ((l.filter (dT b)).map (·.2)) .nil).2) af) (he:e≠ .nil→∀af,Xt σ.cells σ af→E af):C (n+4) (.fn 502) [w,.ob ai] Q E σ:=
 X.dc (vs:=[w,.ob ai]) rfl rfl (bO ha (ah trivial (eE X (n:=n) hc hl (fun hz rC i X1 f1 h1=>ax h1 hl (ah (cY (bT (cL ..)) hl) (
  cC (fun x=>[cv x]) (fun l2 z s=>z++(l2.filter (dT b)).map cv=(l.filter (dT b)).map cv∧Xt σ.cells σ s∧s.objs[i]?=some (.lst (l.map cv))) (fun O O O H=>H.2.2) (fun z s H=>aR fun j eg N2=>ah trivial (by
   have e1:z=(l.filter (dT b)).map cv:=(gq z).symm.trans H.1
   refine eX X (n:=n+1) (as:=(l.filter (dT b)).map (·.2)) (((qL)▸(e1)▸(N2.at_))) ?_ fun s' X3=> ?_
   ·rw [←qL,cL];rw [cL] at hl;exact cY (uC _ _) hl
   ·rw [N2.c,H.2.1.c] at X3 ⊢
    exact h hz s' ((H.2.1.to N2.xt).trans X3))) (fun y ys z s K' H hN hS=>bg (H.2.1.o ha) (ah trivial (y6 X (n:=n+1) (JC (fun hb=>hN _ _ ⟨Qz H.1 hb,H.2⟩) fun hb=>hS _ ⟨Qy H.1 hb,H.2⟩)))) R6 ⟨rfl,X1,h1⟩))) he)))
theorem jc (ha:σ.objs[ai]?=some (.lst [.av a])) (hc:Chain σ.cells a l e) (hl:(l.map cv).length<1000000) (hg:∀i,AV.cell i∈l.map (·.2)→∃ab,σ.cells[i]?=some ab)
  (h:e= .nil→∀af,Xt (made (ay σ.cells (l.map (·.2))).1 (ay σ.cells (l.map (·.2))).2 .nil).1 σ af→Q (.av (made (ay σ.cells (l.map (·.2))).1 (ay σ.cells (l.map (·.2))).2 .nil).2) af) (he:e≠ .nil→∀af,Xt σ.cells σ af→E af):C (n+4) (.fn 535) [w,.ob ai] Q E σ:=
 X.df (vs:=[w,.ob ai]) rfl rfl (ly ha (ah trivial (eE X (n:=n) hc hl (fun hz rC i X1 f1 h1=>ax h1 hl (ah (cY (bT (cL ..)) hl) (
  cC (fun x=>[.av x]) (fun l2 z s=>(∃zs,z=zs.map V.av∧ay σ.cells (l.map (·.2))=((ay s.cells l2).1,zs++(ay s.cells l2).2))∧(∀i,AV.cell i∈l2→∃ab,s.cells[i]?=some ab)∧Xt s.cells σ s∧s.objs[i]?=some (.lst (l.map cv))) (fun O O O H=>H.2.2.2) (fun z s H=>aR fun j eg N2=>ah trivial (by
   obtain ⟨zs,rfl,e1⟩:=H.1
   have e2:s.cells=(ay σ.cells (l.map (·.2))).1:=by rw [e1];rfl
   have e3:zs=(ay σ.cells (l.map (·.2))).2:=by rw [e1];simp [ay]
   refine eX X (n:=n+1) (as:=(ay σ.cells (l.map (·.2))).2) (((e3)▸(N2.at_))) (by rw [cL,eY,cL];simpa using hl) fun s' X3=> ?_
   rw [N2.c,e2] at X3 ⊢
   exact h hz s' ((H.2.2.1.to N2.xt).trans X3))) (fun y ys z s K' H hN hS=>by
    obtain ⟨zs,rfl,e1⟩:=H.1
    induction y with
    | cell j=>
     obtain ⟨ab,cW⟩:=H.2.1 j (.head _)
     refine aK cW (aK cW (ah trivial (X.co (n:=n+2) (hN _ _ ⟨⟨_,AA,Br e1 cW⟩,fun i hi=> ?_,⟨rfl,H.2.2.1.o⟩,H.2.2.2⟩))))
     obtain ⟨Gh,h'⟩:=H.2.1 i (.tail _ hi)
     exact ⟨Gh,by rw [ow (bl.mp h').1];exact h'⟩
    | _=>exact hN _ _ ⟨⟨_,AA,Bs e1 rfl⟩,fun i hi=>H.2.1 i (.tail _ hi),H.2.2⟩) (by rw [qL,dj];rfl) ⟨⟨[],rfl,by rw [X1.c];rfl⟩,fun i hi=>((X1.c)▸(hg i hi)),X1.c▸X1,h1⟩))) he)))
end
section
variable {C:Nat→CW} (X:Calls C) {n:Nat} {Q:PV} {E:PE} {σ:St}
include X
theorem Gv (h:∀af,Xt σ.cells σ af→Q (.bool (a.aE && b.aE)) af):C (n+1) (.fn 338) [.av a,.av b] Q E σ:=X.df (vs:=[.av a,.av b]) rfl rfl (aR fun i s N=>fY N.at_ (by
 have h':=h s N.xt
 have g:=N.at_
 induction a with
 | cell i=>exact ⟨g,h'⟩
 | _=>exact ⟨g,g,g,g,g,g,h'⟩))
theorem uZ (ht:σ.objs[i]?=some (.task t)) (h:t.turn>0→t.left≠t.sl∧t.sl.isNum=false) (q:Q (.bool false) σ):C (n+1) (.fn 359) [.tk i] Q E σ:=X.df (vs:=[.tk i]) rfl rfl
 (bU ht (gu (fun hp=>bU ht (bU ht (ah (.inr (h hp).2) (rR (jY (h hp).1) (show Q (.bool (decide (t.left=t.sl))) σ from (jY (h hp).1).symm▸q))))) fun hp=>show Q (.bool (decide (t.turn>0))) σ from (jY hp).symm▸q))
omit X in
theorem YT {P:f9→Prop} {t:f9} {l r:Nat} (hl:t.left= .cell l) (hr:t.right= .cell r) (k:∀dp tn sl sr,P ⟨.cell l,.cell r,dp,tn,sl,sr⟩):P t:=by
 cases t with | mk a b dp tn sl sr=>exact (show a=_ from hl).symm▸(show b=_ from hr).symm▸k dp tn sl sr
omit X in
theorem Uh {P:f9→Prop} {t:f9} {l r j k:Nat} (hl:t.left= .cell l) (hr:t.right= .cell r) (h1:t.sl= .cell j) (h2:t.sr= .cell k) (h:∀dp tn,P ⟨.cell l,.cell r,dp,tn,.cell j,.cell k⟩):P t:=by
 cases t with | mk a b dp tn sl sr=>exact (show a=_ from hl).symm▸(show b=_ from hr).symm▸(show sl=_ from h1).symm▸(show sr=_ from h2).symm▸h dp tn
omit X in
theorem Wa {t:f9} {x y u v:AV} (hp:t.turn % 2=1):t.go x y u v=⟨x,y,t.deep,t.turn+1,u,v⟩:=by unfold f9.go;rw [if_pos hp,if_pos hp]
omit X in
theorem V9 {t:f9} {x y u v:AV} (hp:¬t.turn % 2=1):t.go x y u v=⟨x,y,t.deep,t.turn+1,t.sl,t.sr⟩:=by unfold f9.go;rw [if_neg hp,if_neg hp]
theorem Gy {i:Nat} {t:f9} {l r:Nat} {x y u v:AV × AV} (ht:σ.objs[i]?=some (.task t)) (hl:t.left= .cell l) (hx:σ.cells[l]?=some x) (hr:t.right= .cell r) (hy:σ.cells[r]?=some y)
  (hs:t.turn % 2=1→∃j k,t.sl= .cell j∧σ.cells[j]?=some u∧t.sr= .cell k∧σ.cells[k]?=some v) (q:Q .none (σ.aV i (.task (t.go x.2 y.2 u.2 v.2)))):C (n+1) (.fn 366) [.tk i] Q E σ:=X.df (vs:=[.tk i]) rfl rfl
 (if hp:t.turn % 2=1 then bX (hs hp) fun j k e1 h1 e2 h2=>Uh (P:=fun t=>t.turn % 2=1→σ.objs[i]?=some (.task t)→Q .none (σ.aV i (.task (t.go x.2 y.2 u.2 v.2)))→qB (C n) dK [some (.tk i)] (cI Q) (fun O=>E) σ) hl hr e1 e2 (fun dp tn hp ht q=>by
  have g1:=aI (o:=.task ⟨.cell l,.cell r,dp,tn,u.2,.cell k⟩) ht
  have g2:=aI (o:=.task ⟨.cell l,.cell r,dp,tn,u.2,v.2⟩) g1
  have g3:=aI (o:=.task ⟨x.2,.cell r,dp,tn,u.2,v.2⟩) g2
  have g4:=aI (o:=.task ⟨x.2,y.2,dp,tn,u.2,v.2⟩) g3
  refine bU ht (ah (by decide) (UG (hM hp) (bU ht (aK h1 (bU ht (bU g1 (aK h2 (bU g1 (bU g2 (aK hx (bU g2 (bU g3 (aK hy (bU g3 (bU g4 (bU g4 ?_))))))))))))))))
  show Q .none _
  rw [dU,dU,dU,dU];exact Wa hp▸q) hp ht q
 else YT (P:=fun t=>¬t.turn % 2=1→σ.objs[i]?=some (.task t)→Q .none (σ.aV i (.task (t.go x.2 y.2 u.2 v.2)))→qB (C n) dK [some (.tk i)] (cI Q) (fun O=>E) σ) hl hr (fun dp tn sl sr hp ht q=>by
  have g3:=aI (o:=.task ⟨x.2,.cell r,dp,tn,sl,sr⟩) ht
  have g4:=aI (o:=.task ⟨x.2,y.2,dp,tn,sl,sr⟩) g3
  refine bU ht (ah (by decide) (rR (jY hp) (bU ht (aK hx (bU ht (bU g3 (aK hy (bU g3 (bU g4 (bU g4 ?_))))))))))
  show Q .none _
  rw [dU,dU];exact V9 hp▸q) hp ht q)
omit X in
@[elab_as_elim] theorem Ug {P:f9→Prop} {t:f9} {l r:Nat} (hl:t.left= .cell l) (hr:t.right= .cell r) (k:P ⟨.cell l,.cell r,t.deep,t.turn,t.sl,t.sr⟩):P t:=(show t=⟨.cell l,.cell r,t.deep,t.turn,t.sl,t.sr⟩ by cases t;cases hl;cases hr;rfl)▸k
noncomputable abbrev eqF (a b:AV) (f:V) (wi:Nat) (j:Int × Option V × Option V × Option V):aO:=[some (.av a),some (.av b),some f,some (.ob wi),some (.num j.1),j.2.1,j.2.2.1,j.2.2.2,none,none,none,none,none,none,none,none,none,none,none,none]
theorem uY {a b:AV} {f:V} {d:Nat} {r:Bool} {m:Nat} (hk:Lk σ.cells d a b r m) (hd:d≤200) (hm:m≤8000000) (hc:∃l e,Chain σ.cells a l e) (cq:∃l e,Chain σ.cells b l e) (hA:∀(i:Nat) x,σ.cells[i]?=some x→(∃l e,Chain σ.cells x.1 l e)∧∃l e,Chain σ.cells x.2 l e)
  (h:∀af,Xt σ.cells σ af→Q (.bool r) af):C (n+3) (.fn 378) [.av a,.av b,f] Q E σ:=
 X.dc (vs:=[.av a,.av b,f]) rfl rfl (ah trivial (X.ta fun ti s1 N1=>aR fun wi s2 N2=>by
 refine LW (fun (_:List Sk) j=>eqF a b f wi j) (fun k j s=>EqI σ wi r k j.1 s) gJ (z:=[⟨ti,⟨a,b,0,0,a,b⟩,d,r,m⟩]) (j:=(0,none,none,none)) (EqI.init N1 N2 hk hd hm hc cq) (fun k j s K' H hN hR=> ?_)
 cases k with
 | nil=>exact ax H.w H.wl (show Q (.bool true) s from (show true=r from H.r)▸h s H.x)
 | cons y k=>
  have T:=H.ok.1
  refine ax H.w H.wl (gu (fun O=>eJ H.w rfl (fX H.wp H.wl1 ?_)) fun hp=>absurd H.YX hp)
  refine bU H.g1 (bU H.g1 (rR (jY (TQ H.st (fu T.lk.pos (b9 _ _)))) ?_))
  refine RA H.g1 (uZ X (n:=n+1) H.g1 (fun ht=>⟨(lP ht T.cl).1,(lP ht T.cl).2.1⟩) (Zf ?_))
  refine bU H.g1 (rR (jY (Ql T.dp)) (ah trivial (y6 X (n:=n) (gu (fun he=> ?_) fun he=> ?_))))
  ·have e:=T.lk.Lg he
   exact (hN k (j.1+1,some (.tk y.id),some (.av y.t.left),some (.av y.t.right)) _ (Oi e.1 e.2) (H.BB e.1 e.2)).2
  ·refine ah trivial (Gv X (n:=n+1) fun s2 X2=>br (fun hb=>hR _ _ _ ?_) fun hb=> ?_)
   ·exact show Q (.bool false) s2 from (show false=r from (aD (· && k.all Sk.r) (T.lk.Xx he (zB hb))).symm.trans H.r)▸h s2 ((H.x.set H.wf).to X2)
   ·refine T.lk.Rv he (((Bool.not_eq_false' _).symm:_=_)▸hb) fun {d' i1 i2 u v r1 n1 r2 n2} ed ei ej hx hy k1 k2 hr hn=>b8 (T.next ei ej hx hy ed) fun u' v' hs T2=> ?_
    have X3:=(H.x.set H.wf).to X2
    have X5:Xt σ.cells σ (s2.aV y.id (.task (y.t.go u.2 v.2 u'.2 v'.2))):=X3.set (H.ob _ (.head _)).2
    have hw:(s2.aV y.id (.task (y.t.go u.2 v.2 u'.2 v'.2))).objs[wi]?=some (.lst (k.reverse.map fun x=>V.tk x.id)):=(aF (H.zA (.head _)).symm).trans (X2.o (aI H.w))
    refine Ug ei ej (RA (X2.o H.g1) (Gy X (n:=n+1) (x:=u) (y:=v) (u:=u') (v:=v') (X2.o H.g1) ei (X3.cl hx) ej (X3.cl hy) (fun hp=>bX (hs hp) fun j1 j2 e1 e2 e3 e4=>⟨j1,j2,e1,X3.cl e2,e3,X3.cl e4⟩) ?_))
    refine eJ hw rfl (aK (X5.cl hx) (aK (X5.cl hy) (bU (aI (X2.o H.g1)) (ah trivial (X.ta (n:=n+1) fun nt s4 N4=>aR fun li s5 N5=> ?_)))))
    refine jW (H.psh ⟨X3.c,X2.o⟩ N4 N5 ed (r1:=r1) (r2:=r2) (n1:=n1) (n2:=n2) ⟨k1,VY (ed▸T.dp),lB _,P0 (hA _ _ hx).1,P0 (hA _ _ hy).1⟩ (fun e=>T2 (k2 e)) hr hn) fun w1 w2 w3 P=> ?_
    exact ax w2 H.wl1 (ax w3 (by decide:2<1000000) (ah ⟨w1,H.wl2⟩ (hN _ (j.1+1,some (.tk y.id),some (.av (.cell i1)),some (.av (.cell i2))) _ (Nat.lt_of_succ_le (bT (Lh hr hn))) P).2))))
theorem w7 (hk:Lk σ.cells d a b r m) (hd:d≤200) (hm:m≤8000000) (hc:∃l e,Chain σ.cells a l e) (cq:∃l e,Chain σ.cells b l e) (hA:∀(i:Nat) x,σ.cells[i]?=some x→(∃l e,Chain σ.cells x.1 l e)∧∃l e,Chain σ.cells x.2 l e)
  (h:∀af,Xt σ.cells σ af→Q (.bool r) af):C (n+4) (.fn 392) [.av a,.av b] Q E σ:=X.df (vs:=[.av a,.av b]) rfl rfl (ah trivial (uY X (n:=n) hk hd hm hc cq hA h))
end
section
variable {C:Nat→CW} (X:Calls C) {n t:Nat} {Q:PV} {E:PE} {σ:St} {L:Lo} {c:Cells} {S:List Nat} {P:List AV} {a b e:AV} {l:List (Nat × AV)}
include X
theorem pL (ht:L.st=t) (H:LI L c S P σ) (hl:c.length<899999) (h:∀af L',LI L' (c++[(a,b)]) S P af→Ux L L' σ af→af.cells=σ.cells→Q (.lv (.cell c.length)) af):C (n+1) (.fn 554) [.ob t,.lv a,.lv b] Q E σ:=by
 subst ht
 refine X.df (vs:=[.ob L.st,.lv a,.lv b]) rfl rfl (aP H.st rfl (eJ H.lc rfl (aR fun i s1 N=>ax (N.xt.o H.lc) H.sQ ?_)))
 have H2:=H.cell N hl
 have hz:=cY (bT (H.ZZ (x:=.ob i))) (cV (uz hl) (show 899999+1<1000000 by decide))
 exact aP H2.st rfl (ax (aI (N.xt.o H.lc)) hz (oZ (i:=c.length) ((aD (fun k:Nat=>(k:Int) - 1) H.ZZ).trans (uv (c.length:Int) 1)) (h _ _ H2 (Ux.cell N) N.c)))
noncomputable abbrev chF (t i j:Nat) (a:AV):aO:=[some (.ob t),some (.lv a),some (.ob i),some (.ob j)]
structure ChS (σ:St) (c:Cells) (l:List (Nat × AV)) (e:AV) (i j:Nat) (l2 z:List (Nat × AV)) (s:St):Prop where
 fe:z++l2=l
 fi:s.objs[i]?=some (.lst (z.map fun x=>.lv x.2))
 fj:s.objs[j]?=some (.lst (z.map fun x=>.lv (.cell x.1)))
 fc:Chain c (hd l2 e) l2 e
 fx:Xt σ.cells σ s
theorem cx (ht:L.st=t) (H:LI L c S P σ) (hc:Chain c a l e) (hl:l.length<900000) (h:∀af u i j,Xt σ.cells σ af→σ.objs[i]?=none→σ.objs[j]?=none→i≠j→af.objs[i]?=some (.lst (l.map fun x=>.lv x.2))→af.objs[j]?=some (.lst (l.map fun x=>.lv (.cell x.1)))→af.objs[u]?=some (.tup [.ob i,.ob j,.lv e])→Q (.ob u) af) :
  C (n+1) (.fn 561) [.ob t,.lv a] Q E σ:=by
 have jy:=ht▸H.st
 rw [hc.fV]
 refine X.df (vs:=[.ob t,.lv (hd l e)]) rfl rfl (aR fun i s1 N1=>aR fun j s2 N2=> ?_)
 have FU:i≠j:=fun q=>fg N1.at_ (q▸N2.gj)
 refine rM (fun l2 (_:List (Nat × AV))=>chF t i j (hd l2 e)) (ChS σ c l e i j) (l:=l) (z:=[]) ⟨rfl,N2.xt.o N1.at_,N2.at_,hc.FP,N1.xt.to N2.xt⟩ (fun z s B' H1=> ?_) (fun y ys z s K' H1 hN O=> ?_)
 ·have hz:z=l:=(gq z).symm.trans H1.fe
  have hn:=H1.fc.gE
  cases e with
  | cell=>exact tf hn
  | _=>exact aR fun t s3 N3=>h _ _ _ _ (H1.fx.to N3.xt) N1.gj (N1.xt.fr N2.gj) FU (N3.xt.o (hz▸H1.fi)) (N3.xt.o (hz▸H1.fj)) N3.at_
 ·have ZK:z.length<900000:=cY (b9 _ _) (bK▸H1.fe▸hl)
  have X1:=H1.fx.set (o:=.lst (z.map (fun x=>V.lv (.cell x.1))++[.lv (.cell y.1)])) (N1.xt.fr N2.gj)
  have X2:=X1.set (o:=.lst (z.map (fun x=>V.lv x.2)++[.lv y.2])) N1.gj
  refine cX (H.ce H1.fc.at_) fun q q1 O O q2=> ?_
  have uQ:=(aF (σ:=s) (o:=.lst (z.map (fun x=>V.lv (.cell x.1))++[.lv (.cell y.1)])) FU.symm).trans H1.fi
  refine eJ H1.fj rfl (ax H1.fj (ml ZK) (eJ uQ rfl ?_))
  refine aP (X1.o jy) rfl (ba (X1.o H.lc) H.sQ (dB _) q1 (bg (X1.o q2) (ax uQ (ml ZK) ?_)))
  refine aP (X2.o jy) rfl (ba (X2.o H.lc) H.sQ (dB _) q1 (bO (X2.o q2) (hN (z++[y]) _ ⟨(fA z [y] ys).trans H1.fe,(aI uQ).trans ?_,(aF FU).trans ((aI H1.fj).trans ?_),H1.fc.tl,X2⟩)))
  ·rw [bY];rfl
  ·rw [bY];rfl
theorem dm (hd:L.dk=t) (H:LI L c S P σ) (hm:0<m) (h:∀r af,0≤r→r<m→LI L c S P af→Ux L L σ af→af.cells=σ.cells→Q (.num r) af):C (n+1) (.fn 547) [.ob t,.num m] Q E σ:=by
 subst hd
 refine bc H.dk fun k hk h1=> ?_
 have H2:=H.VU (k:=k+1) (uy hk)
 have U2:Ux L L σ (σ.aV L.dk (.lst [.ob L.d0,.num (k+1)])):=Ux.set (.tail _ (.head _))
 have h2:(σ.aV L.dk (.lst [.ob L.d0,.num (k+1)])).objs[L.dk]?=some (.lst [.ob L.d0,.num (k+1)]):=aI h1
 have hD:(L.D.map V.num).length<1000000:=by simpa using H.D.2
 have fin:∀x:Int,Q (.num (x % m)) (σ.aV L.dk (.lst [.ob L.d0,.num (k+1)])):=fun x=>h _ _ (Int.emod_nonneg _ (Int.ne_of_gt hm)) (Fz _ hm) H2 U2 rfl
 refine X.df (vs:=[.ob L.dk,.num m]) rfl rfl (bO h1 (ax h1 (dY rfl) (ah ⟨by decide,dY rfl⟩ ?_)))
 refine bO h2 (bg h2 (ax H2.d0 hD (gu (fun hp=> ?_) fun hp=> ?_)))
 ·refine bc (Mn hk hp) fun x hx h0=> ?_
  exact bg h2 (bO h2 (ba H2.d0 hD h0 hx (ah hm (fin x))))
 ·refine iL (Mo (k:=k+1) H.D.1) fun x hx h0 hl=> ?_
  refine bg h2 (bO h2 (bg h2 (ax H2.d0 hD (ah hl (ba H2.d0 hD h0 hx (ah (FG (by decide)) (bO h2 (ah (FG (by decide)) (ah (by decide) ?_)))))))))
  refine ah (by decide) (ah (FG (Gp (Int.add_nonneg (Int.emod_nonneg _ (by decide)) (by decide)) (ub (Int.add_lt_add_right (Fz _ (by decide)) 1) (by decide)))) (bO h2 (ah (by decide) (ah (by decide) (ah hm (fin _))))))
theorem y7 (ht:L.st=t) (H:LI L c S P σ) (hc:Chain c a l e) (hl:l.length<900000) (h:∀af i,Xt σ.cells σ af→af.objs[i]?=some (.lst (l.map fun x=>.lv x.2))→Q (if e= .nil then .ob i else .none) af) :
  C (n+2) (.fn 568) [.ob t,.lv a] Q E σ:=X.df (vs:=[.ob t,.lv a]) rfl rfl (ah trivial (cx X (n:=n) ht H hc hl fun af u i j X1 f1 f2 O h1 h2 h3=>fY h3 (gu (fun q=>by have:=h af i X1 h1;rwa [bE q] at this) fun q=>by have:=h af i X1 h1;rwa [aW q] at this)))
structure MaS (L:Lo) (c:Cells) (S:List Nat) (P:List AV) (σ:St) (as:List AV) (e:AV) (ri:Nat) (r done:List AV) (L':Lo) (v:AV) (s:St):Prop where
 fe:as=r.reverse++done
 li:LI L' (made c done e).1 S P s
 ux:Ux L L' σ s
 fv:v=(made c done e).2
 ff:L'.fr ri
 fc:s.cells=σ.cells
 fr:s.objs[ri]?=some (.lst (as.map V.lv).reverse)
theorem gP (ht:L.st=t) (H:LI L c S P σ) (hi:σ.objs[ti]?=some (.lst (as.map .lv))) (hb:c.length+as.length<899999) (h:∀af L',LI L' (made c as e).1 S P af→Ux L L' σ af→af.cells=σ.cells→Q (.lv (made c as e).2) af):C (n+2) (.fn 575) [.ob t,.ob ti,.lv e] Q E σ:=
 have hz:(as.map V.lv).length<1000000:=ml (cV (add_r hb) (dY rfl))
 X.df (vs:=[.ob t,.ob ti,.lv e]) rfl rfl (ax hi hz (aR fun ri s1 N1=>ax N1.at_ (cY (bT j7) hz) (
  jJ (fun x=>[.lv x]) (fun (z:AV × Option V)=>[some (.ob t),some (.ob ti),some (.lv z.1),z.2,none]) (fun r z s=>∃done L',MaS L c S P σ as e ri r done L' z.1 s) (l:=as.reverse) (z:=(e,none))
   (fun O O O H=>jX H fun O O H=>H.fr) (fun z s H1=>jX H1 fun done L' H=>have e1:as=done:=H.fe;show Q (.lv z.1) s from H.fv.symm▸e1▸h s L' (e1.symm▸H.li) H.ux H.fc) (fun y ys z s K' H1 hN O=>jX H1 fun done L' H=>by
    refine ah trivial ?_
    rw [H.fv]
    refine pL X (n:=n) (H.ux.st.trans ht) H.li (fb▸cY (dA ?_ _) hb) fun s' L2 H3 U3 e4=>hN (_,some (.lv y)) s' ⟨y::done,L2,H.fe.trans (by rw [j0,fA];rfl),H3,H.ux.trans U3,rfl,(U3.o H.fr H.ff).2,e4.trans H.fc,(U3.o H.fr H.ff).1⟩
    rw [H.fe,bK];exact cJ _ _)
   (by rw [←List.map_reverse,dj];rfl) ⟨[],L,(by rw [List.reverse_reverse,gq]),H.xt N1.xt,Ux.xt N1.xt,rfl,H.fr N1.gj,N1.c,N1.at_⟩)))
theorem xc (he:(a.aE && b.aE && decide (a≠b))=false) (h:Q (.bool (decide (a=b))) σ):C (n+d+1) (.fn 582) [.ob t,.lv a,.lv b] Q E σ:=X.df (n:=n+d) (vs:=[.ob t,.lv a,.lv b]) rfl rfl (by
  cases a with
  | cell i=>
   cases b with
   | cell j=>exact gu (fun n9=>tf ((hM (p:=AV.cell i≠AV.cell j) n9).symm.trans he)) fun O=>h
   | _=>exact h
  | _=>exact h)
theorem xd {d r m} (hk:Lk c d a b r m):∀ {n Q E σ},L.st=t→LI L c S P σ→(∀af,Xt σ.cells σ af→Q (.bool r) af)→C (n+d+1) (.fn 582) [.ob t,.lv a,.lv b] Q E σ:=by
 induction hk with
 | eq d a=>exact fun {n Q E σ} ht H h=>xc X (by rw [jY fun q=>q rfl,Bool.and_false]) (show Q (.bool (decide (a=a))) σ from (hM (rfl:a=a)).symm▸h σ (Xt.refl σ))
 | @ne d a b hn hc=>exact fun {n Q E σ} ht H h=>xc X (by rw [hc];rfl) (show Q (.bool (decide (a=b))) σ from (jY hn).symm▸h σ (Xt.refl σ))
 | @tr d i j x y r n' m' hn hx hy _ _ ih1 ih2=>
  intro n Q E σ ht H h
  have jy:=ht▸H.st
  refine cX (H.ce hx) fun q q1 O O q2=>cX (H.ce hy) fun p p1 O O p2=> ?_
  refine X.df (n:=n+(d+1)) (vs:=[.ob t,.lv (.cell i),.lv (.cell j)]) rfl rfl (gu (fun O=>(aP jy rfl (ba H.lc H.sQ (dB _) q1 (aP jy rfl (ba H.lc H.sQ (dB _) p1 (bg q2 (bg p2 (ah trivial (ih1 (n:=n) ht H fun s1 X1=> ?_))))))))) fun q=>absurd (fun e=>hn (AV.cell.inj e)) q)
  exact bO (X1.o q2) (bO (X1.o p2) (ah trivial (ih2 (n:=n) ht (H.xt X1) fun s2 X2=>h s2 (X1.to X2))))
 | @fa d i j x y n' hn hx hy _ ih1=>
  intro n Q E σ ht H h
  have jy:=ht▸H.st
  refine cX (H.ce hx) fun q q1 O O q2=>cX (H.ce hy) fun p p1 O O p2=> ?_
  exact X.df (n:=n+(d+1)) (vs:=[.ob t,.lv (.cell i),.lv (.cell j)]) rfl rfl (gu (fun O=>(aP jy rfl (ba H.lc H.sQ (dB _) q1 (aP jy rfl (ba H.lc H.sQ (dB _) p1 (bg q2 (bg p2 (ah trivial (ih1 (n:=n) ht H fun s1 X1=>h s1 X1))))))))) fun q=>absurd (fun e=>hn (AV.cell.inj e)) q)
theorem rY (ht:L.st=t) (H:LI L c S P σ) (hc:∀i,a= .cell i→∃ab,c[i]?=some ab) (h:Q (oV (iu c a)) σ):C (n+1) (.fn 589) [.ob t,.lv a,.num 0] Q E σ:=by
 have jy:=ht▸H.st
 refine X.df (vs:=[.ob t,.lv a,.num 0]) rfl rfl ?_
 cases a with
 | cell i=>exact (hc i rfl).elim fun ab hx=>cX (H.ce hx) fun q q1 O O q2=>aP jy rfl (ba H.lc H.sQ (dB _) q1 (bg q2 (show Q (oV (some ab.1)) σ from (show iu c (.cell i)=some ab.1 from aD (Option.map _) hx)▸h)))
 | _=>exact h
theorem rZ (ht:L.st=t) (H:LI L c S P σ) (hc:∀i,a= .cell i→∃ab,c[i]?=some ab) (h:Q (oV (gf c a)) σ):C (n+1) (.fn 589) [.ob t,.lv a,.num 1] Q E σ:=by
 have jy:=ht▸H.st
 refine X.df (vs:=[.ob t,.lv a,.num 1]) rfl rfl ?_
 cases a with
 | cell i=>exact (hc i rfl).elim fun ab hx=>cX (H.ce hx) fun q q1 O O q2=>aP jy rfl (ba H.lc H.sQ (dB _) q1 (bO q2 (show Q (oV (some ab.2)) σ from (show gf c (.cell i)=some ab.2 from aD (Option.map _) hx)▸h)))
 | _=>exact h
omit X in
theorem Mf (h:Chain c (.cell i) l e):∃ab,c[i]?=some ab:=by
 cases h with
 | cell hx=>exact ⟨_,hx⟩
theorem oK (ht:L.st=t) (H:LI L c S P σ) (hc:∃l e,Chain c a l e) (h:Q (oV (cP c k a)) σ):C (n+2) (.fn 596) [.ob t,.num k,.lv a] Q E σ:=
 X.df (vs:=[.ob t,.num k,.lv a]) rfl rfl (pI (fun (z:Int) (o:Option AV) (_:Unit)=>[some (.ob t),some (.num z),some (oV o),none]) (fun z o O s=>o.bind (cP c z.toNat)=cP c k a∧(∀v,o=some v→∃l e,Chain c v l e)∧Q (oV (cP c k a)) s∧LI L c S P s) (fun z O=>z.toNat) (z:=k) (y:=some a) (j:=()) ⟨rfl,fun v e=>cH e▸hc,h,H⟩ (fun z o O s K' H1 hN O=>by
 have h:=H1.2.2.1
 cases o with
 | none=>have h:=(H1.1:none=cP c k a)▸h;exact gu (fun hp=>h) fun hp=>h
 | some v=>
  have uQ:cP c z.toNat v=cP c k a:=H1.1
  refine gu (fun hp=>gu (fun hv=> ?_) fun hv=> ?_) fun hp=> ?_
  ·exact ah trivial (rZ X (n:=n) ht H1.2.2.2 (fun i e=>jX (H1.2.1 _ rfl) fun l e' hc=>Mf (e▸hc)) (hN (z - 1) (gf c v) () s (Lx hp) ⟨by rw [←uQ,zX hp,jq hv],fun x hx=>Chain.Bf (H1.2.1 v rfl) hx,H1.2.2⟩).1)
  ·rw [←uQ,zX hp,cP,bE (uL.mp hv)] at h
   exact uL.mp hv▸h
  ·rw [←uQ,Ui hp] at h
   exact h))
end
section
variable {C:Nat→CW} (X:Calls C) {n t:Nat} {Q:PV} {E:PE} {σ:St} {L:Lo} {c:Cells} {S:List Nat} {P:List AV} {a b e g v:AV} {l:List (Nat × AV)}
include X
noncomputable abbrev reF (t:Nat) (v g:AV) (mi wi:Nat) (j:Option V):aO:=[some (.ob t),some (.lv v),some (.lv g),some (.ob mi),some (.ob wi),j]
structure OW (σ:St) (c:Cells) (v:AV) (mi wi:Nat) (M:List Nat) (R:List AV) (s:St):Prop where
 i:Av c v M R
 x:Xt σ.cells σ s
 m:s.objs[mi]?=some (.dI (M.map tv))
 w:s.objs[wi]?=some (.lst (R.reverse.map .lv))
 fw:σ.objs[wi]?=none
 n:R.length≤M.length+1
omit X in
theorem OW.wl {mi wi M R s} (H1:OW σ c v mi wi M R s) (H:LI L c S P σ):(R.reverse.map V.lv).length<1000000:=by
 rw [cL,j7];exact cY (b9 _ 2) (Vf H1.n H1.i.si.le H.c.1)
omit X in
theorem OW.pop {mi wi M R y s s3 e0 o} (H:OW σ c v mi wi M (y::R) s) (N:f6 s s3 e0 o):s3.objs[wi]?=some (.lst ((R.reverse.map V.lv)++[.lv y]))∧Xt σ.cells σ (s3.aV wi (.lst (R.reverse.map V.lv)))∧(s3.aV wi (.lst (R.reverse.map V.lv))).objs[mi]?=some (.dI (M.map tv))∧(s3.aV wi (.lst (R.reverse.map V.lv))).objs[wi]?=some (.lst (R.reverse.map V.lv)):=
 have w:=N.xt.o H.w
 ⟨w.trans (by rw [j0,bY];rfl),(H.x.to N.xt).set H.fw,(aF fun e:wi=mi=>nomatch (e▸H.w).symm.trans H.m).trans (N.xt.o H.m),aI w⟩
omit X in
theorem XH {mi wi M R y s} (H1:OW σ c v mi wi M (y::R) s) (H:LI L c S P σ):(R.reverse.map V.lv).length+2<1000000:=by
 rw [cL,j7];exact Vf (pD H1.n) H1.i.si.le H.c.1
omit X in
theorem SP {s:St} {wi:Nat} {y:AV} {R:List AV} (h:s.objs[wi]?=some (.lst ((y::R).reverse.map .lv))):(!((((y::R).reverse.map V.lv)).isEmpty))=true:=by simp
omit X in
theorem NR {s:St} {wi:Nat} {y x:AV} {R:List AV} (h:s.objs[wi]?=some (.lst (R.reverse.map .lv++[.lv y,.lv x]))):s.objs[wi]?=some (.lst ((x::y::R).reverse.map .lv)):=h.trans (by rw [j0,j0,bY,bY,fA];rfl)
omit X in
theorem NQ {R:List AV} {N:List Nat} {i:Nat} {x y z:AV} (h:(z::R).length≤N.length+1):(x::y::R).length≤(N++[i]).length+1:=by rw [bK];exact ew h
theorem mu (ht:L.st=t) (H:LI L c S P σ) (hc:Ok c) (hv:aL c v) (h:∀r af,Xt σ.cells σ af→(r=false→∀i,g= .cell i→¬Rc c v i)→Q (.bool r) af):C (n+1) (.fn 622) [.ob t,.lv v,.lv g] Q E σ:=by
 have jy:=ht▸H.st
 refine X.df (vs:=[.ob t,.lv v,.lv g]) rfl rfl (ah (by decide) (aR fun mi s1 N1=>aR fun w0 s2 N2=> ?_))
 refine pI (fun (_:List Nat) (_:List AV) (j:Nat × Option V)=>reF t v g mi j.1 j.2) (fun M R j s=>OW σ c v mi j.1 M R s) (fun M R=>wm c M R.length) (z:=[]) (y:=[v]) (j:=(w0,none)) ⟨.init hv,N1.xt.to N2.xt,N2.xt.o N1.at_,N2.at_,N1.xt.fr N2.gj,bz _⟩ (fun M R j s K' H1 hN O=> ?_)
 have WL:(M.map tv).length<1000000:=(cL ..).symm▸cY H1.i.si.le (cV H.c.1 (dY rfl))
 cases R with
 | nil=>
  refine aR fun e0 s3 N3=>ax N3.at_ (by decide) (ax (N3.xt.o H1.w) (H1.wl H) ?_)
  have X4:=H1.x.to N3.xt
  cases g with
  | cell i=>exact if hi:i∈M then qJ (N3.xt.o H1.m) (Ly hi) (h true s3 X4 nofun) else qJ (N3.xt.o H1.m) (EM hi) (h false s3 X4 fun O j q=>AV.cell.inj q▸H1.i.fin hi)
  | _=>exact h false s3 X4 fun O j q=>nomatch q
 | cons y R=>
  refine aR fun e0 s3 N3=>jW (H1.pop N3) fun w3 X4 Pa W0=> ?_
  have ZX:=XH H1 H
  have hwl':=cY (b9 _ 2) ZX
  refine ax N3.at_ (by decide) (ax (N3.xt.o H1.w) (H1.wl H) (UG (SP H1.w) (eJ (N3.xt.o H1.w) rfl (fX w3 hwl' ?_))))
  have skip:bH M y→K' .next (reF t v g mi j.1 (some (.lv y))) (s3.aV j.1 (.lst (R.reverse.map V.lv))):=fun hy=>(hN M R (j.1,some (.lv y)) _ OG ⟨H1.i.BB hy,X4,Pa,W0,H1.fw,pD H1.n⟩).1
  cases y with
  | cell i=>
   by_cases hi:i∈M
   ·exact qJ Pa (Ly hi) (skip fun j e=>AV.cell.inj e▸hi)
   ·refine (H1.i.ok _ (.head _) i rfl).elim fun x hx=>cX (H.ce hx) fun q q1 O O q2=> ?_
    have X5:=X4.set (o:=.dI (M.map tv++[((i:Int),.bool true)])) N1.gj
    have hw5:=(aF (σ:=s3.aV j.1 (.lst (R.reverse.map V.lv))) (o:=.dI (M.map tv++[((i:Int),.bool true)])) fun e:mi=j.1=>nomatch (e▸Pa).symm.trans W0).trans W0
    refine qJ Pa (EM hi) (Kt Pa WL (ah (vF (f:=fun O=>.bool true) hi) ?_))
    refine aP (X5.o jy) rfl (ba (X5.o H.lc) H.sQ (dB _) q1 (ax hw5 hwl' (ax (X5.o q2) (show 2<1000000 by decide) (ah ZX (aR fun w6 s6 N6=> ?_)))))
    exact (hN (M++[i]) (x.2::x.1::R) (w6,some (.lv (.cell i))) s6 (Ut (H1.i.si.add hi hx)) ⟨H1.i.add hc hi hx,X5.to N6.xt,bY (f:=tv)▸N6.xt.o (aI Pa),NR N6.at_,X5.fr N6.gj,NQ H1.n⟩).1
  | _=>exact skip (bH.nc rfl)
end
section
variable {C:Nat→CW} (X:Calls C) {n t:Nat} {Q:PV} {E:PE} {σ:St} {L:Lo} {c:Cells} {S:List Nat} {P:List AV} {a b e g v:AV} {l:List (Nat × AV)}
include X
noncomputable abbrev Pe (t wi:Nat) (a:AV) (j:Option V × Option V × Option V):aO:=[some (.ob t),some (.av a),some (.lv a),some (.ob wi),j.1,j.2.1,j.2.2,none,none,none,none,none]
omit X in
theorem ND {y:Nat × AV} {R:List (Nat × AV)}:(!(((y::R).reverse.map fun x=>V.ob x.1).isEmpty))=true:=by simp
omit X in
theorem XE {M:List Nat}:∀p∈M.map pv,∃x,p.2= .av x:=fun p hp=>bc (dC.mp hp) fun j O e=>⟨.cell j,e▸rfl⟩
omit X in
theorem Ii {x:Nat × AV} {R:List (Nat × AV)}:((x::R).reverse.map fun x=>V.ob x.1)=(R.reverse.map fun x=>V.ob x.1)++[.ob x.1]:=by rw [j0,bY];rfl
omit X in
theorem Ih {l:List V} {x:V} (h:l.length+2<1000000):(l++[x]).length<1000000:=by rw [bK];exact cY (hX _) h
omit X in
theorem prl (H:LI L c S P σ):(S.map pv).length<1000000:=(cL ..).symm▸cV H.c.2.1 (dY rfl)
theorem fG (ht:L.st=t) (H:LI L c S P σ) (hp:σ.cells=c) (hc:Ok c) (hv:aL c a) (hS:SI S c) (hC:lD S c) (h:∀af S',LI L c S' P af→Ux L L σ af→af.cells=c→SI S' c→(∀i∈S,i∈S')→lD S' c→bH S' a→Q (.bool true) af):C (n+1) (.fn 627) [.ob t,.av a,.lv a] Q E σ:=by
 refine X.dc (vs:=[.ob t,.av a,.lv a]) rfl rfl (aR fun t0 s1 N1=>aR fun wi s2 N2=> ?_)
 refine pI (fun (_:List Nat) (_:List (Nat × AV)) j=>Pe t wi a j) (fun S' R j s=>IsI L c S P σ a S' [] R wi s) (fun S' R=>wm c S' R.length) (z:=S) (y:=[(t0,a)]) (j:=(none,none,none)) (IsI.init H hp hv hS N1 N2) (fun S' R j s K' H1 hN O=> ?_)
 cases R with
 | nil=>exact aR fun e0 s3 N3=>have H2:=H1.xt N3.xt;ax N3.at_ (show 0<1000000 by decide) (ax (N3.xt.o H1.w) H1.xO (h s3 S' H2.li H2.ux H2.ce H2.si H2.sub (H2.fin hC) (H2.v.elim id fun h=>absurd h cS)))
 | cons z R=>
  refine aR fun e0 s3 N3=> ?_
  have H3:=H1.xt N3.xt
  refine ax N3.at_ (show 0<1000000 by decide) (ax H3.w H1.xO (UG ND (eJ H3.w rfl (fX H3.pp H3.pop.xO ?_))))
  have H4:=H3.pop
  refine fY (l:=[.av z.2,.lv z.2]) ((aF (H3.nw (.head _))).trans (H3.tp _ (.head _)).1) ?_
  have jy:(s3.aV wi (.lst (R.reverse.map fun x=>V.ob x.1))).objs[t]?=_:=ht▸H4.li.st
  have nc:z.2.aE=false→_:=fun hn=>(hN S' R (some (.av z.2),some (.lv z.2),j.2.2) _ OG (H4.known (bH.nc hn))).1
  have jg:∀i,z.2= .cell i→aL c (.cell i):=fun i e=>e▸H1.ok _ (.head _)
  generalize z.2=y at *
  cases y with
  | cell i=>
   by_cases hi:i∈S'
   ·exact aP jy rfl (KC H4.li.pr (Ks (v:=.av (.cell i)) H4.li.pr (by rw [DN hi];rfl) (ah (.inl rfl) (JC (fun h=>absurd rfl h) fun O=>(hN S' R (some (.av (.cell i)),some (.lv (.cell i)),some (.av (.cell i))) _ OG (H4.known fun j e=>AV.cell.inj e▸hi)).1))))
   ·refine (jg i rfl i rfl).elim fun x hx=> ?_
    refine aP jy rfl (KC H4.li.pr (Ks (v:=.none) H4.li.pr (by rw [DO hi];rfl) (aP jy rfl ⟨_,_,_,rfl,rfl,H4.li.pr,XE,prl H4.li,aR fun h1 s5 N5=>aR fun h2 s6 N6=>ax N6.at_ (show 0<1000000 by decide) (ax (l:=[]) (N6.xt.o (NN hi▸N5.at_)) (show 0<1000000 by decide) ?_)⟩)))
    have H6:=(H4.xt N5.xt).xt N6.xt
    have H7:=H6.take hc hi hx
    refine cX (H7.li.ce hx) fun p p1 O O p2=> ?_
    have st6:=ht▸H6.li.st
    refine aP st6 rfl (Kt H6.li.pr (prl H6.li) (ah (DO hi) ?_))
    refine eJ H7.w rfl (aK (H7.ce.symm▸hx) ?_)
    have st7:=ht▸H7.li.st
    refine aP st7 rfl (ba H7.li.lc H.sQ (dB _) p1 (bg p2 (aR fun t1 s8 N8=>ax (N8.xt.o H7.w) H7.xO ?_)))
    have H9:=H7.push N8
    refine cX (H9.li.ce hx) fun p' p1' O O p2'=> ?_
    have w9:=aI (o:=.lst ((R.reverse.map fun x=>V.ob x.1)++[.ob t1])) (N8.xt.o H7.w)
    have st9:=ht▸H9.li.st
    refine eJ w9 rfl (aK (H9.ce.symm▸hx) (aP st9 rfl (ba H9.li.lc H.sQ (dB _) p1' (bO p2' (aR fun t2 s10 Zc=>ax (Zc.xt.o w9) (Ih H1.RG) ?_)))))
    have HA:=H9.push Zc
    rw [Ii] at HA
    exact (hN (S'++[i]) ((t2,x.2)::(t1,x.1)::R) (some (.av (.cell i)),some (.lv (.cell i)),some .none) _ (Ut H7.si) HA).1
  | nil=>exact ah (.inr rfl) (nc rfl)
  | num k=>exact gu (fun hk=>absurd rfl hk) fun O=>nc rfl
theorem AU (ht:L.st=t) (H:LI L c S P σ) (hs:bH S a) (h:Q (.av a) σ):C (n+1) (.fn 641) [.ob t,.lv a] Q E σ:=by
 subst ht
 refine X.df (vs:=[.ob L.st,.lv a]) rfl rfl ?_
 induction a with
 | cell i=>exact aP H.st rfl (CQ H.pr (DN (hs i rfl)) h)
 | _=>exact h
noncomputable abbrev hoF (t:Nat) (j:Option V × Option V):aO:=[some (.ob t),j.1,j.2,none,none]
structure HoS (L:Lo) (c:Cells) (S:List Nat) (P:List AV) (σ:St) (q:Nat) (ns:List Int) (r S':List Nat) (s:St):Prop where
 li:LI L c S' P s
 ux:Ux L L σ s
 ce:s.cells=c
 si:SI S' c
 sub:∀i∈S,i∈S'
 cl:lD S' c
 l:s.objs[q]?=some (.lst (ns.map V.num))
 k:∀i∈r,i∈S
theorem rX (ht:L.st=t) (jg:c.length<128) (H:LI L c S P σ) (hp:σ.cells=c) (hc:Ok c) (hS:SI S c) (hC:lD S c) (h:∀af S',LI L c S' P af→Ux L L σ af→af.cells=c→SI S' c→(∀i∈S,i∈S')→lD S' c→Q (.bool true) af):C (n+2) (.fn 634) [.ob t] Q E σ:=by
 have jy:=ht▸H.st
 refine X.df (vs:=[.ob t]) rfl rfl (aP jy rfl ⟨_,_,rfl,H.pr,(cL ..).symm▸cY hS.le jg,fun ns hn hm li s1 N1=> ?_⟩)
 have ho:∀k∈ns,∃i,i∈S∧k=(i:Int):=fun k hk=>bc (dC.mp (hm k hk)) fun p hp e=>bc (dC.mp hp) fun i hi e'=>⟨i,hi,e▸e'▸rfl⟩
 refine ax N1.at_ (by rw [cL,hn,cL];exact cV H.c.2.1 (dY rfl)) (jJ (fun (i:Nat)=>[.num i]) (fun (z:List Nat × Option V × Option V)=>hoF t z.2) (fun r z s=>HoS L c S P σ li ns r z.1 s) (l:=ns.map Int.toNat) (z:=(S,none,none))
  (fun O O O H=>H.l) (fun z s H1=>h s z.1 H1.li H1.ux H1.ce H1.si H1.sub H1.cl) (fun i ys z s K' H1 hN O=> ?_) (by rw [dj,dj];exact uu fun k hk=>bc (ho k hk) fun i O e=>e▸rfl)
  ⟨H.xt N1.xt,Ux.xt N1.xt,N1.c.trans hp,hS,fun O h=>h,hC,N1.at_,fun i hi=>bc (dC.mp hi) fun k hk e=>bc (ho k hk) fun j hj e'=>e▸e'▸hj⟩)
 have fr:=H.fr N1.gj
 have J6:=H1.sub i (H1.k i (.head _))
 have iJ:=ht▸H1.li.st
 refine (H1.si.lt i J6).elim fun x hx=>cX (H1.li.ce hx) fun q q1 O O q2=> ?_
 refine aP iJ rfl (CQ H1.li.pr (DN J6) (aK (H1.ce.symm▸hx) (aP iJ rfl (ba H1.li.lc H.sQ (dB _) q1 (bg q2 (ah trivial (fG X (n:=n) ht H1.li H1.ce hc (hc _ _ hx).1 H1.si H1.cl fun s3 S3 H3 U3 e3 I3 s3' C3 O=> ?_)))))))
 have Ao:=ht▸H3.st
 refine cX (H3.ce hx) fun q q1 O O q2=>aK (e3.symm▸hx) (aP Ao rfl (ba H3.lc H.sQ (dB _) q1 (bO q2 (ah trivial (fG X (n:=n) ht H3 e3 hc (hc _ _ hx).2 I3 C3 fun s4 S4 H4 U4 e4 I4 s4' C4 O=> ?_)))))
 exact hN (S4,some (.num i),some (.av (.cell i))) s4 ⟨H4,(H1.ux.trans U3).trans U4,e4,I4,fun j hj=>s4' j (s3' j (H1.sub j hj)),C4,(U4.o (U3.o H1.l fr).1 fr).1,fun k zq=>H1.k k (.tail _ zq)⟩
end
section
variable {C:Nat→CW} (X:Calls C) {n t ai:Nat} {Q:PV} {E:PE} {σ:St} {L:Lo} {c:Cells} {S:List Nat} {P:List AV} {a b e g v x y:AV} {l:List (Nat × AV)}
include X
abbrev Due (L:Lo) (c:Cells) (S:List Nat) (P:List AV) (σ:St) (Q:PV) (o:Option AV):Prop:=∀af L',LI L' c S P af→Ux L L' σ af→af.cells=σ.cells→Q (oV o) af
theorem Of (ht:L.st=t) (H:LI L c S P σ) (ha:σ.objs[ai]?=some (.lst [.lv x,.lv y])) (hl:c.length<899999) (h:Due L (c++[(x,y)]) S P σ Q (some (.cell c.length))):C (n+2) (.fn 603) [.ob t,.str 9,.ob ai] Q E σ:=
 X.df (vs:=[.ob t,.str 9,.ob ai]) rfl rfl (bg ha (bO ha (ah trivial (pL X (n:=n) ht H hl h))))
theorem Og (ht:L.st=t) (H:LI L c S P σ) (ha:σ.objs[ai]?=some (.lst (as.map .lv))) (hb:c.length+as.length<899999) (h:Due L (made c as .nil).1 S P σ Q (some (made c as .nil).2)):C (n+3) (.fn 603) [.ob t,.str 10,.ob ai] Q E σ:=
 X.df (vs:=[.ob t,.str 10,.ob ai]) rfl rfl (ah trivial (gP X (n:=n) ht H ha hb h))
theorem TG (ht:L.st=t) (H:LI L c S P σ) (ha:σ.objs[ai]?=some (.lst [.lv x])) (hv:aL c x) (h:Due L c S P σ Q (iu c x)):C (n+2) (.fn 603) [.ob t,.str 22,.ob ai] Q E σ:=
 X.df (vs:=[.ob t,.str 22,.ob ai]) rfl rfl (ly ha (ah trivial (rY X (n:=n) ht H hv (h σ L H (Ux.refl L σ) rfl))))
theorem TH (ht:L.st=t) (H:LI L c S P σ) (ha:σ.objs[ai]?=some (.lst [.lv x])) (hv:aL c x) (h:Due L c S P σ Q (gf c x)):C (n+2) (.fn 603) [.ob t,.str 23,.ob ai] Q E σ:=
 X.df (vs:=[.ob t,.str 23,.ob ai]) rfl rfl (ly ha (ah trivial (rZ X (n:=n) ht H hv (h σ L H (Ux.refl L σ) rfl))))
theorem tO (ht:L.st=t) (H:LI L c S P σ) (ha:σ.objs[ai]?=some (.lst [.lv x,.lv y])) (hf:L.fr ai) (h0:x.aE=false→Due L c S P σ Q none) (h1:∀i ab,x= .cell i→c[i]?=some ab→Due L (c.set i (y,ab.2)) S P σ Q (some y)) (hv:aL c x):C (n+1) (.fn 603) [.ob t,.str 11,.ob ai] Q E σ:=by
 subst ht
 refine X.df (vs:=[.ob L.st,.str 11,.ob ai]) rfl rfl (bg ha ?_)
 induction x with
 | cell i=>
  obtain ⟨ab,cW⟩:=hv i rfl
  refine cX (H.ce cW) fun q q1 qm qi q2=> ?_
  refine bO ha (aP H.st rfl (bg ha (ba H.lc H.sQ (dB _) q1 (ax q2 (dY rfl) (ah ⟨by decide,dY rfl⟩ (bO (a:=.lv (.cell i)) ?_ (h1 i ab rfl cW _ L (H.IF (ab:=(y,ab.2)) qi) (Ux.set (.tail _ (.tail _ (.tail _ (.tail _ (.tail _ (.tail _ qm))))))) rfl)))))))
  rw [aF (fun q=>hf (by rw [←q];exact .tail _ (.tail _ (.tail _ (.tail _ (.tail _ (.tail _ qm)))))))];exact ha
 | _=>exact h0 rfl σ L H (Ux.refl L σ) rfl
theorem tP (ht:L.st=t) (H:LI L c S P σ) (ha:σ.objs[ai]?=some (.lst [.lv x,.lv y])) (hf:L.fr ai) (h0:x.aE=false→Due L c S P σ Q none) (h1:∀i ab,x= .cell i→c[i]?=some ab→Due L (c.set i (ab.1,y)) S P σ Q (some y)) (hv:aL c x):C (n+1) (.fn 603) [.ob t,.str 12,.ob ai] Q E σ:=by
 subst ht
 refine X.df (vs:=[.ob L.st,.str 12,.ob ai]) rfl rfl (bg ha ?_)
 induction x with
 | cell i=>
  obtain ⟨ab,cW⟩:=hv i rfl
  refine cX (H.ce cW) fun q q1 qm qi q2=> ?_
  refine bO ha (aP H.st rfl (bg ha (ba H.lc H.sQ (dB _) q1 (ax q2 (dY rfl) (ah ⟨by decide,dY rfl⟩ (bO (a:=.lv (.cell i)) ?_ (h1 i ab rfl cW _ L (H.IF (ab:=(ab.1,y)) qi) (Ux.set (.tail _ (.tail _ (.tail _ (.tail _ (.tail _ (.tail _ qm))))))) rfl)))))))
  rw [aF (fun q=>hf (by rw [←q];exact .tail _ (.tail _ (.tail _ (.tail _ (.tail _ (.tail _ qm)))))))];exact ha
 | _=>exact h0 rfl σ L H (Ux.refl L σ) rfl
theorem DX {k:Nat} (ht:L.st=t) (H:LI L c S P σ) (ha:σ.objs[ai]?=some (.lst [.lv (.num k),.lv x])) (hc:∃l e,Chain c x l e) (h:Due L c S P σ Q (cP c k x)):C (n+3) (.fn 603) [.ob t,.str 25,.ob ai] Q E σ:=
 X.df (vs:=[.ob t,.str 25,.ob ai]) rfl rfl (bg ha (bO ha (ah trivial (oK X (n:=n) ht H hc (h σ L H (Ux.refl L σ) rfl)))))
theorem TJ {k:Nat} (ht:L.st=t) (H:LI L c S P σ) (ha:σ.objs[ai]?=some (.lst [.lv (.num k),.lv x])) (hc:∃l e,Chain c x l e) (h:Due L c S P σ Q ((cP c k x).bind (iu c))):C (n+3) (.fn 603) [.ob t,.str 24,.ob ai] Q E σ:=
 X.df (vs:=[.ob t,.str 24,.ob ai]) rfl rfl (bg ha (bO ha (ah trivial (oK X (n:=n) ht H hc (by
  have h':=h σ L H (Ux.refl L σ) rfl
  cases ho:cP c k x with
  | none=>rw [ho] at h';exact h'
  | some v=>
   rw [ho] at h'
   exact ah trivial (rY X (n:=n+1) ht H (fun i e=>by
    refine jX (fO hc ho) fun l e' hl=> ?_
    subst e
    cases hl with
    | cell hx=>exact ⟨_,hx⟩) h'))))))
theorem DY (ht:L.st=t) (H:LI L c S P σ) (ha:σ.objs[ai]?=some (.lst [.lv x])) (hc:Chain c x l e) (hl:l.length<900000) (h:Due L c S P σ Q (some (if e= .nil then .num l.length else .nil))):C (n+3) (.fn 603) [.ob t,.str 29,.ob ai] Q E σ:=
 X.df (vs:=[.ob t,.str 29,.ob ai]) rfl rfl (ly ha (ah trivial (y7 X (n:=n) ht H hc hl fun s i X1 h1=>by
  have h':=h s L (H.xt X1) (Ux.xt X1) X1.c
  by_cases he:e= .nil
  ·rw [bE he] at h' ⊢
   refine ax h1 (by simp;lia) ?_
   rw [←cL (f:=fun x:Nat × AV=>V.lv x.2)] at h';exact h'
  ·rw [aW he] at h' ⊢;exact h')))
theorem DZ {k:Nat} (ht:L.st=t) (H:LI L c S P σ) (ha:σ.objs[ai]?=some (.lst [.lv (.num k),.lv x])) (hk:k<9) (hc:Chain c x l e) (hb:c.length+l.length<899999) (h0:(x.isNum=true∨(l.map (·.2)).length<k∧e≠ .nil)→Due L c S P σ Q none)
  (h1:x.isNum=false→(k≤(l.map (·.2)).length∨e= .nil)→Due L (made c ((l.map (·.2)).take k) .nil).1 S P σ Q (some (made c ((l.map (·.2)).take k) .nil).2)):C (n+3) (.fn 603) [.ob t,.str 26,.ob ai] Q E σ:=
 X.df (vs:=[.ob t,.str 26,.ob ai]) rfl rfl (fX (l:=[.lv (.num k)]) ha (dY rfl) (ah trivial (cx X (n:=n+1) ht H hc (by lia) fun s u i j X1 f1 f2 O g1 g2 g3=>fY g3 (bO (X1.o ha) (by
  have cu:(l.map fun x=>V.lv x.2).length<1000000:=by simp;lia
  have g1':s.objs[i]?=some (.lst ((l.map (·.2)).map V.lv)):=by rw [dj];exact g1
  have D0:(x.isNum=true∨(l.map (·.2)).length<k∧e≠ .nil)→Q .none s:=fun hh=>h0 hh s L (H.xt X1) (Ux.xt X1) X1.c
  have D1:x.isNum=false→(k≤(l.map (·.2)).length∨e= .nil)→∀q s2,f6 s s2 q (.lst ((l.map fun x=>V.lv x.2).take (k:Int).toNat))→C (n+2) (.fn 575) [.ob t,.ob q,.lv .nil] Q E s2:=fun hn ho q s2 N2=>
   gP X (n:=n) (as:=(l.map fun (x:Nat × AV)=>x.2).take k) ht ((H.xt X1).xt N2.xt) (by have:=N2.at_;rw [List.map_take,dj];exact this) (by simp;omega) fun s3 L3 H3 U3 e3=>h1 hn ho s3 L3 H3 (((Ux.xt X1).trans (Ux.xt N2.xt)).trans U3) (by rw [e3,N2.c,X1.c])
  have J1:=X1.o ha
  have fin:x.isNum=false→(k≤(l.map (·.2)).length∨e= .nil)→vD s ai 0 (fun v=>opt v.An fun x=>bif (1:Int) == 1 then opt (Pj x) fun m=>gW s i fun l=>sd (0≤m∧m<1000000) (nw s (.lst (l.take m.toNat)) fun v s2=>sd (Js (.fn 575)) (C (n+2) (.fn 575) [.ob t,v,.lv .nil] Q E s2)) else False):=fun hn ho=>
   bg J1 (ax g1 cu (ah ⟨dB _,by lia⟩ (aR fun q s2 N2=>ah trivial (D1 hn ho q s2 N2))))
  have g3:x.isNum=false→gW s i fun l'=>vD s ai 0 fun v=>opt v.An fun y=>opt (Pj y) fun m=>ey (decide ((l'.length:Int)<m)) (ey (decide (e≠ .nil)) (Q .none s) (vD s ai 0 (fun v=>opt v.An fun x=>bif (1:Int) == 1 then opt (Pj x) fun m=>gW s i fun l=>sd (0≤m∧m<1000000) (nw s (.lst (l.take m.toNat)) fun v s2=>sd (Js (.fn 575)) (C (n+2) (.fn 575) [.ob t,v,.lv .nil] Q E s2)) else False)))
    (vD s ai 0 (fun v=>opt v.An fun x=>bif (1:Int) == 1 then opt (Pj x) fun m=>gW s i fun l=>sd (0≤m∧m<1000000) (nw s (.lst (l.take m.toNat)) fun v s2=>sd (Js (.fn 575)) (C (n+2) (.fn 575) [.ob t,v,.lv .nil] Q E s2)) else False)):=fun hn=>ax g1 cu (bg J1 (gu (fun hp=>gu (fun he=>D0 (.inr ⟨by simpa using hp,he⟩)) fun he=>fin hn (.inr (uL.mp he))) fun hp=>fin hn (.inl (by simpa using hp))))
  induction x with
  | num z=>exact D0 (.inl rfl)
  | cell z=>exact g3 rfl
  | nil=>exact g3 rfl)))))
end
end Mine.P
namespace Mine
theorem te {l:List (Nat × AV)} {z:Nat × AV} {f:Nat × AV→V} (h:l.getLast? =some z):l.map f=(l.dropLast.map f)++[f z]:=
 (List.getLast?_eq_some_iff.mp h).elim fun ys e=>by rw [e,List.dropLast_concat,bY];rfl
theorem x7 {l:List V} {x:V}:(l++[x]).isEmpty=false:=by cases l <;> rfl
theorem s9 {l:List (Nat × AV)} {f:Nat × AV→V} (h:l.length<900000):(l.dropLast.map f).length<1000000:=ml (cY (aN (bT List.length_dropLast) (nE _ _)) h)
end Mine
namespace Mine.P
section
variable {C:Nat→CW} (X:Calls C) {n t ai:Nat} {Q:PV} {E:PE} {σ:St} {L:Lo} {c:Cells} {S:List Nat} {P:List AV} {a b e g v x y:AV} {l:List (Nat × AV)}
include X
theorem DW (ht:L.st=t) (H:LI L c S P σ) (ha:σ.objs[ai]?=some (.lst [.lv x])) (hc:Chain c x l e) (hl:l.length<900000) (h0:x.isNum=true→Due L c S P σ Q none) (h1:x.isNum=false→Due L c S P σ Q (some (kQ l))):C (n+3) (.fn 603) [.ob t,.str 27,.ob ai] Q E σ:=
 X.df (vs:=[.ob t,.str 27,.ob ai]) rfl rfl (fX (l:=[]) ha (dY rfl) (ah trivial (cx X (n:=n+1) ht H hc hl fun s u i j X1 f1 f2 O g1 g2 g3=>fY g3 (ah trivial (X.df (n:=n+1) (vs:=[.ob t,.str 27,.ob ai,.ob i,.ob j,.lv e]) rfl rfl (ly (X1.o ha) (by
  have fin:x.isNum=false→nw s (.lst []) (fun v s2=>opt v.eM fun q=>gW s2 q fun m=>bif m.isEmpty then gW s2 j fun l'=>ey (!l'.isEmpty) (Ph s2 j fun O v=>Q v s2) (Q (.lv .nil) s2) else False):=fun hn=>aR fun q s2 N2=>ax N2.at_ (dY rfl) (by
   have h':=h1 hn s2 L ((H.xt X1).xt N2.xt) ((Ux.xt X1).trans (Ux.xt N2.xt)) (N2.c.trans X1.c)
   have g2':=N2.xt.o g2
   refine ax g2' (ml hl) ?_
   cases hz:l.getLast? with
   | none=>
    have e:l=[]:=List.getLast?_eq_none_iff.mp hz
    rw [e] at h' ⊢;exact h'
   | some z=>
    unfold kQ at h'
    rw [hz] at h'
    rw [te hz] at g2' ⊢
    exact UG (by rw [x7];rfl) (fX g2' (s9 hl) h'))
  cases x with
  | num z=>exact h0 rfl s L (H.xt X1) (Ux.xt X1) X1.c
  | cell z=>exact fin rfl
  | nil=>exact fin rfl)))))))
theorem pg (ht:L.st=t) (H:LI L c S P σ) (ha:σ.objs[ai]?=some (.lst [.lv x])) (hc:Chain c x l e) (hb:c.length+l.length<899999) (h0:e≠ .nil→Due L c S P σ Q none) (h1:e= .nil→Due L (made c (l.map (·.2)).dropLast .nil).1 S P σ Q (some (made c (l.map (·.2)).dropLast .nil).2)):C (n+4) (.fn 603) [.ob t,.str 28,.ob ai] Q E σ:=
 have hl:l.length<900000:=cV (add_r hb) (iO _)
 X.df (vs:=[.ob t,.str 28,.ob ai]) rfl rfl (fX (l:=[]) ha (dY rfl) (ah trivial (cx X (n:=n+2) ht H hc hl fun s u i j X1 f1 f2 O g1 g2 g3=>fY g3 (ah trivial (X.df (n:=n+2) (vs:=[.ob t,.str 28,.ob ai,.ob i,.ob j,.lv e]) rfl rfl (
  gu (fun he=>h0 he s L (H.xt X1) (Ux.xt X1) X1.c) fun he=>ax g1 (ml hl) (aR fun q s2 N2=>ah trivial (gP X (n:=n) (as:=(l.map fun (x:Nat × AV)=>x.2).dropLast) ht ((H.xt X1).xt N2.xt) (by rw [FF,dj];exact N2.at_) (cY (dA (by rw [List.length_dropLast,cL];exact nE _ _) _) hb)
   fun s3 L3 H3 U3 e3=>h1 (uL.mp he) s3 L3 H3 (((Ux.xt X1).trans (Ux.xt N2.xt)).trans U3) (e3.trans (N2.c.trans X1.c))))))))))
omit X in
theorem Bm {z:Nat × AV} (hc:Chain c x l e) (hz:l.getLast? =some z):x≠ .nil:=fun q=>by
 rw [q] at hc
 cases hc
 cases hz
omit X in
theorem y9 (hc:Chain c x [] e) (hn:x.isNum=false):x= .nil:=by
 cases hc with
 | nil=>rfl
 | num=>cases hn
theorem yd {l2 e2} (ht:L.st=t) (H:LI L c S P σ) (ha:σ.objs[ai]?=some (.lst [.lv x,.lv y])) (hf:L.fr ai) (hc:Chain c x l e) (hl:l.length<900000) (MK:Chain c y l2 e2) (O8:l2.length<900000) (h0:x.isNum=true→Due L c S P σ Q none) (h1:x.isNum=false→Due L (d9 c l y) S P σ Q (some (if x= .nil then y else x))):C (n+3) (.fn 603) [.ob t,.str 13,.ob ai] Q E σ:=by
 have jy:=ht▸H.st
 exact X.df (vs:=[.ob t,.str 13,.ob ai]) rfl rfl (fX (l:=[.lv x]) ha (dY rfl) (ah trivial (cx X (n:=n+1) ht H MK O8 fun s u i j X1 f1 f2 O g1 g2 g3=>fY g3 (ah trivial (X.df (n:=n+1) (vs:=[.ob t,.str 13,.ob ai,.ob i,.ob j,.lv e2]) rfl rfl (bO (X1.o ha) (bg (X1.o ha) (by
  have fin:x.isNum=false→vD s ai 0 (fun v=>sd (Js (.fn 561)) (C (n+1) (.fn 561) [.ob t,v] (fun v s2=>opt v.eM fun q=>HN s2 q 1 fun own=>nw s2 (.lst []) fun e0 s3=>opt own.eM fun q=>opt e0.eM fun r=>gW s3 r fun m=>bif m.isEmpty then gW s3 q fun l'=>ey l'.isEmpty (Q (.lv y) s3) (HM s3 t 3 fun cs=>opt own.eM fun q=>Ph s3 q fun O lc=>opt lc.An fun z=>opt (Pj z) fun m=>opt cs.eM fun cs=>vD s3 cs m fun ob=>opt ob.eM fun r=>gW s3 r fun l=>sd ((0:Int)≤1∧(1:Int).toNat<l.length) (vD (s3.aV r (.lst (l.set (1:Int).toNat (.lv y)))) ai 0 fun v=>Q v (s3.aV r (.lst (l.set (1:Int).toNat (.lv y)))))) else False) E s)):=fun hn=>bg (X1.o ha) (ah trivial (cx X (n:=n) ht (H.xt X1) hc hl fun s2 u i j X2 f1 f2 O g1 g2 g3=>
   vE g3 (dY rfl) (by decide) rfl (aR fun q s3 N3=>ax N3.at_ (dY rfl) (by
    have X3:=(X1.to X2).to N3.xt
    have H3:=H.xt X3
    have h1:=h1 hn
    have g2':=N3.xt.o g2
    refine ax g2' (ml hl) ?_
    cases hz:l.getLast? with
    | none=>
     have e1:l=[]:=List.getLast?_eq_none_iff.mp hz
     have e2:=y9 (e1▸hc) hn
     rw [e1,bE e2] at h1
     rw [e1]
     exact h1 s3 L H3 (Ux.xt X3) X3.c
    | some z=>
     rw [show d9 c l y=c.set z.1 (z.2,y) from by unfold d9;rw [hz],if_neg (Bm hc hz)] at h1
     rw [te hz] at g2' ⊢
     refine rR x7 (cX (H3.ce (hc.jf hz)) fun p p1 pm pi p2=> ?_)
     have hm:p∈L.st::L.dk::L.d0::L.lc::L.pr::L.pl::L.ids:=.tail _ (.tail _ (.tail _ (.tail _ (.tail _ (.tail _ pm)))))
     refine aP (X3.o jy) rfl (fX g2' (s9 hl) (ba H3.lc H.sQ (dB _) p1 (ax p2 (dY rfl) (ah ⟨by decide,dY rfl⟩ (bg (b:=.lv y) ((aF fun q:p=ai=>hf (q▸hm)).trans (X3.o ha)) (h1 _ L (H3.IF (ab:=(z.2,y)) pi) ((Ux.xt X3).trans (Ux.set hm)) X3.c))))))))))
  cases x with
  | num z=>exact h0 rfl s L (H.xt X1) (Ux.xt X1) X1.c
  | cell z=>exact fin rfl
  | nil=>exact fin rfl))))))))
end
end Mine.P
namespace Mine
theorem oH {α:Type} {f:α→Bool} {l:List α}:boolsOf (l.map fun z=>V.bool (f z))=some (l.map f):=by
 induction l with
 | nil=>rfl
 | cons x l ih=>exact aD (Option.map (f x:: ·)) ih
theorem BJ {α:Type} {f:α→Bool} {z:α} {l:List α}:l.find? f=some z→∃i,(l.map f).findIdx? (· =true)=some i∧l[i]?=some z:=by
 induction l with
 | nil=>exact fun h=>(fg h rfl).elim
 | cons x l ih=>
  intro h
  rw [dh,List.findIdx?_cons]
  by_cases hx:f x=true
  ·exact ⟨0,bE (hM hx),(yF hx).symm.trans h⟩
  ·exact bc (ih ((Fn hx).symm.trans h)) fun i h1 h2=>⟨i+1,(aW fun q=>hx (f3 q)).trans (aD (Option.map (· +1)) h1),h2⟩
theorem BI {α:Type} {f:α→Bool} {l:List α}:(l.map f).contains true=(l.find? f).isSome:=by
 induction l with
 | nil=>rfl
 | cons x l ih=>
  rw [dh,Fp,ih,List.find?_cons]
  cases f x with
  | true=>rfl
  | false=>exact Bool.false_or _
theorem Jx {f:Nat × AV→V} {zs R:List V} {y:Nat × AV} {ys:List (Nat × AV)} (h:zs++(y::ys).map f=R):zs++[f y]++ys.map f=R:=(fA zs [f y] _).trans h
end Mine
namespace Mine.P
section
variable {C:Nat→CW} (X:Calls C) {n t ai:Nat} {Q:PV} {E:PE} {σ:St} {L:Lo} {c:Cells} {S:List Nat} {P:List AV} {a b e g v x y:AV} {l:List (Nat × AV)}
include X
noncomputable abbrev Lq (t w ai i j q:Nat) (e:AV):aO:=[some (.ob t),some (.str w),some (.ob ai),some (.ob i),some (.ob j),some (.lv e),none,some (.ob q),none,none,none,none,none,none,none,none,none,none,none]
structure LS (σ:St) (l:List (Nat × AV)) (sm:AV→Bool) (i j q:Nat) (s:St):Prop where
 x:Xt σ.cells σ s
 fi:σ.objs[i]?=none
 fj:σ.objs[j]?=none
 fq:σ.objs[q]?=none
 i:s.objs[i]?=some (.lst (l.map fun z=>.lv z.2))
 j:s.objs[j]?=some (.lst (l.map fun z=>.lv (.cell z.1)))
 q:s.objs[q]?=some (.lst (l.map fun z=>.bool (sm z.2)))
theorem fR {w:Nat} {A pre r:List V} (hw:w≠17) (ht:L.st=t) (H:LI L c S P σ) (ha:σ.objs[ai]?=some (.lst A)) (h0:A= .lv b::r) (h1:A=pre++[.lv y]) (WI:A.length<1000000) (hc:Chain c y l e) (hl:l.length<900000)
  (h:∀s i j q,LS σ l (fun z=>decide (b=z)) i j q s→qB (C (n+1)) (aY.drop 2) (Lq t w ai i j q e) (cI Q) (fun O=>E) s):C (n+2) (.fn 615) [.ob t,.str w,.ob ai] Q E σ:=
 X.dc (vs:=[.ob t,.str w,.ob ai]) rfl rfl (fX (l:=pre) (v:=.lv y) (h1▸ha) (by rw [h1,bK] at WI;exact cY (b9 _ _) WI) (ah trivial (cx X (n:=n) ht H hc hl fun s u i j X1 f1 f2 O g1 g2 g3=>fY g3 (ax g1 (ml hl) (ah (Pk hl)
  (cC (fun z:Nat × AV=>[.lv z.2]) (fun l2 zs s'=>zs++l2.map (fun z=>.bool (decide (b=z.2)))=l.map (fun z=>V.bool (decide (b=z.2)))∧Xt s.cells s s'∧s'.objs[i]?=some (.lst (l.map fun z=>.lv z.2))) (fun O O O H=>H.2.2)
   (fun zs s' H1=>aR fun q s2 N2=>h s2 i j q ⟨(X1.to H1.2.1).to N2.xt,f1,f2,(X1.to H1.2.1).fr N2.gj,N2.xt.o H1.2.2,N2.xt.o (H1.2.1.o g2),N2.at_.trans (aD (fun z=>some (Ob.lst z)) ((gq zs).symm.trans H1.1))⟩)
   (fun z zs as s' K' H1 hN O=>rR (jY hw) (ba (v:=.lv b) (H1.2.1.o (X1.o ha)) WI (lB _) (by rw [h0];rfl) (hN _ _ ⟨Jx (f:=fun z=>.bool (decide (b=z.2))) H1.1,H1.2⟩)))
   dj ⟨rfl,Xt.refl s,g1⟩))))))
theorem Es {d:Nat} {sm:AV→Bool} (ht:L.st=t) (H:LI L c S P σ) (ha:σ.objs[ai]?=some (.lst [.lv b,.lv y])) (hc:Chain c y l e) (hl:l.length<900000) (hk:∀z∈l,∃m,Lk c d b z.2 (sm z.2) m)
  (h:∀s i j q,LS σ l sm i j q s→qB (C (n+d+1)) (aY.drop 2) (Lq t 17 ai i j q e) (cI Q) (fun O=>E) s):C (n+d+2) (.fn 615) [.ob t,.str 17,.ob ai] Q E σ:=
 X.dc (n:=n+d+1) (vs:=[.ob t,.str 17,.ob ai]) rfl rfl (fX (l:=[.lv b]) ha (show 1<1000000 from by decide) (ah trivial (cx X (n:=n+d) ht H hc hl fun s u i j X1 f1 f2 O g1 g2 g3=>fY g3 (ax g1 (ml hl) (ah (Pk hl)
  (cC (fun z:Nat × AV=>[.lv z.2]) (fun l2 zs s'=>(zs++l2.map (fun z=>.bool (sm z.2))=l.map (fun z=>V.bool (sm z.2))∧∀z∈l2,z∈l)∧Xt s.cells s s'∧s'.objs[i]?=some (.lst (l.map fun z=>.lv z.2))) (fun O O O H=>H.2.2)
   (fun zs s' H1=>aR fun q s2 N2=>h s2 i j q ⟨(X1.to H1.2.1).to N2.xt,f1,f2,(X1.to H1.2.1).fr N2.gj,N2.xt.o H1.2.2,N2.xt.o (H1.2.1.o g2),N2.at_.trans (aD (fun z=>some (Ob.lst z)) ((gq zs).symm.trans H1.1.1))⟩)
   (fun z zs as s' K' H1 hN O=>bg (H1.2.1.o (X1.o ha)) (ah trivial ((hk z (H1.1.2 z (.head _))).elim fun m hk=>xd X hk (n:=n) ht ((H.xt X1).xt H1.2.1) fun s3 X3=>hN _ _ ⟨⟨Jx (f:=fun z=>.bool (sm z.2)) H1.1.1,fun z hz=>H1.1.2 z (.tail _ hz)⟩,H1.2.1.to X3,X3.o H1.2.2⟩)))
   dj ⟨⟨rfl,fun z h=>h⟩,Xt.refl s,g1⟩))))))
theorem Ep {w i j q m:Nat} {sm:AV→Bool} {s:St} (hw:w=16∨w=17) (H:LI L c S P σ) (I:LS σ l sm i j q s) (hl:l.length<900000)
  (h1:(l.find? (fun x=>sm x.2)).isSome=true∨e= .nil→Due L c S P σ Q (some (cM (l.find? fun x=>sm x.2)))) (h0:l.find? (fun x=>sm x.2)=none→e≠ .nil→Due L c S P σ Q none) :
  qB (C m) (aY.drop 2) (Lq t w ai i j q e) (cI Q) (fun O=>E) s:=by
 have D0:l.find? (fun x=>sm x.2)=none→e≠ .nil→Q .none s:=fun a b=>h0 a b s L (H.xt I.x) (Ux.xt I.x) I.x.c
 have D1:(l.find? (fun x=>sm x.2)).isSome=true∨e= .nil→Q (.lv (cM (l.find? fun x=>sm x.2))) s:=fun a=>h1 a s L (H.xt I.x) (Ux.xt I.x) I.x.c
 have hq:(l.map fun z=>V.bool (sm z.2)).length<1000000:=ml hl
 have core:Va s q fun bs=>ey (bs.contains true) (Nr .index (.ob q) s (xQ s q fun n=>vD s j n fun v=>Q v s)) (ey (decide (e= .nil)) (Q (.lv .nil) s) (Q .none s)):=by
  refine RJ I.q hq (oH (f:=fun z:Nat × AV=>sm z.2)) ?_
  rw [BI (f:=fun z:Nat × AV=>sm z.2)]
  cases hz:l.find? (fun x=>sm x.2) with
  | none=>
   exact Zf (gu (fun he=>aD (fun o=>Q (.lv (cM o)) s) hz▸D1 (.inr he)) fun he=>D0 hz he)
  | some z=>
   exact bc (BJ hz) fun k k1 k2=>brT (eJ I.q rfl (HI I.q hq (oH (f:=fun z:Nat × AV=>sm z.2)) k1 (ba I.j (ml hl) (dB _) (gp.trans (aD (Option.map fun z:Nat × AV=>V.lv (.cell z.1)) k2)) (aD (fun o=>Q (.lv (cM o)) s) hz▸D1 (.inl (hz▸rfl))))))
 clear h1 h0 D0 D1 H I hl hq
 rcases hw with rfl | rfl <;> exact core
noncomputable def PL:ME:=.or (.op .eqV (.cons (.loc 9) (.cons (.op .aw (.cons (.loc 2) (.cons (.k (.num 0)) .nil))) .nil))) (.and (.op .eqS (.cons (.loc 1) (.cons (.k (.str 19)) .nil))) (.op .call (.cons (.g (.fn 582)) (.cons (.loc 0) (.cons (.loc 9) (.cons (.op .aw (.cons (.loc 2) (.cons (.k (.num 0)) .nil))) .nil))))))
noncomputable abbrev UE (t w ai i j q:Nat) (e:AV) (at_:Int) (own:Option V) (key:Option V):aO:=[some (.ob t),some (.str w),some (.ob ai),some (.ob i),some (.ob j),some (.lv e),own,some (.ob q),some (.num at_),key,none,none,none,none,none,none,none,none,none]
omit X in
theorem IJ (hw:w=18∧bb=false∨w=19∧bb=false∨w=20∧bb=true) (core:gW s i fun l'=>forL (fun s'=>s'.objs[i]?=some (.lst l')) (fun x d7 K' s'=>rB (.cons (.ifs (.op .eqS (.cons (.op .idxA (.cons (.loc 6) (.cons (.k (.num 0)) .nil))) (.cons (.k (.str 0)) .nil))) (.cons (.asg 9 (.op .aw (.cons (.op .aw (.cons (.op .idxS (.cons (.loc 0) (.cons (.k (.str 3)) .nil))) (.cons (.op .idxB (.cons (.loc 6) (.cons (.k (.num 1)) .nil))) .nil))) (.cons (.loc 8) .nil)))) (.cons (.ifs PL (.cons (.ret (.loc 6)) .nil) .nil) .nil)) .nil) .nil) (C m) (dJ d7 [6] x) K' (fun O=>E) s') (l'.map fun x=>[x])
   (UE t w ai i j q e (if bb then 1 else 0) none none)
   (ID (rB (.cons (.ret (.jK (.op .eqV (.cons (.loc 5) (.cons (.op .tlv (.cons (.k (.str 2)) .nil)) .nil))) (.op .tlv (.cons (.k (.str 2)) .nil)) (.k .none))) .nil)) (C m) (cI Q) (fun O=>E)) s) :
  qB (C m) (aY.drop 2) (Lq t w ai i j q e) (cI Q) (fun O=>E) s:=by
 rcases hw with ⟨rfl,rfl⟩ | ⟨rfl,rfl⟩ | ⟨rfl,rfl⟩ <;> exact core
theorem Eo (hw:w=18∧bb=false∨w=19∧bb=false∨w=20∧bb=true) (ht:L.st=t) (H:LI L c S P σ) (I:LS σ l sm i j q s) (hl:l.length<900000) (hg:∀x∈l,aL c x.2)
  (hT:∀x∈l,∀k ab,x.2= .cell k→c[k]?=some ab→∀ {s':St} {K:Bool→St→Prop},Xt σ.cells σ s'→(∀vQ,Xt s'.cells s' vQ→K (p (if bb then ab.2 else ab.1)) vQ)→(rE PL).2 (C m) (UE t w ai i j q e (if bb then 1 else 0) (some (.lv (.cell k))) (some (.lv (if bb then ab.2 else ab.1)))) K E s')
  (h1:(l.find? (fun x=>cg c bb p x.2)).isSome=true∨e= .nil→Due L c S P σ Q (some (iC (l.find? fun x=>cg c bb p x.2)))) (h0:l.find? (fun x=>cg c bb p x.2)=none→e≠ .nil→Due L c S P σ Q none) :
  qB (C m) (aY.drop 2) (Lq t w ai i j q e) (cI Q) (fun O=>E) s:=by
 subst ht
 have D0:∀s',Xt σ.cells σ s'→l.find? (fun x=>cg c bb p x.2)=none→e≠ .nil→Q .none s':=fun s' x a b=>h0 a b s' L (H.xt x) (Ux.xt x) x.c
 have D1:∀s' {o},Xt σ.cells σ s'→l.find? (fun x=>cg c bb p x.2)=o→o.isSome=true∨e= .nil→Q (.lv (iC o)) s':=fun s' o x eo a=>eo▸h1 (eo.symm▸a) s' L (H.xt x) (Ux.xt x) x.c
 have H1:=H.xt I.x
 refine IJ hw (ax I.i (ml hl) (jJ (fun z:Nat × AV=>[.lv z.2]) (fun (z:Option V × Option V)=>UE L.st w ai i j q e (if bb then 1 else 0) z.1 z.2)
   (fun l2 z s'=>(l.find? (fun x=>cg c bb p x.2)=l2.find? (fun x=>cg c bb p x.2)∧∀x∈l2,x∈l)∧Xt s.cells s s'∧s'.objs[i]?=some (.lst (l.map fun z=>.lv z.2))) (l:=l) (z:=(none,none)) (fun O O O H=>H.2.2) (fun z s' H2=>gu (fun he=>D1 s' (I.x.to H2.2.1) H2.1.1 (.inr he)) fun he=>D0 s' (I.x.to H2.2.1) H2.1.1 he) (fun z zs u s' K' H2 hN hR=> ?_) dj ⟨⟨rfl,fun O h=>h⟩,Xt.refl s,I.i⟩))
 have hm:=H2.1.2 _ (.head _)
 have fs:=qn H2.1.1
 have nx:∀ {u:Option V × Option V} {s2:St},Xt s'.cells s' s2→¬cg c bb p z.2=true→K' .next (UE L.st w ai i j q e (if bb then 1 else 0) u.1 u.2) s2:=fun {u s2} X2 hp=>hN u s2 ⟨⟨fs.2 (wI.mpr hp),fun x hx=>H2.1.2 x (.tail _ hx)⟩,H2.2.1.to X2,X2.o H2.2.2⟩
 obtain ⟨zi,za⟩:=z
 induction za with
 | cell k=>
  refine (hg _ hm k rfl).elim fun ab cW=>cX (H1.ce cW) fun o o1 O O o2=> ?_
  have Zw:cg c bb p (.cell k)=p (if bb then ab.2 else ab.1):=xg cW
  refine aP (H2.2.1.o H1.st) rfl (ba (H2.2.1.o H1.lc) (ml (H.n▸H.c.1)) (dB _) o1 (ba (v:=.lv (if bb then ab.2 else ab.1)) (H2.2.1.o o2) (show 2<1000000 from by decide) (by cases bb <;> decide) (by cases bb <;> rfl) ?_))
  exact hT _ hm k ab rfl cW (I.x.to H2.2.1) fun s2 X2=>br (fun hp=>hR _ _ _ (D1 s2 ((I.x.to H2.2.1).to X2) (H2.1.1.trans (yF (Zw.trans hp))) (.inl rfl))) fun hp=>nx (u:=(some (.lv (.cell k)),some (.lv (if bb then ab.2 else ab.1)))) X2 (wI.mp (Zw.trans hp))
 | _=>exact nx (u:=(_,u.2)) (Xt.refl s') rx
end
end Mine.P
namespace Mine
theorem xu (h:z++((y::ys).filter (dT b)).map f=R):(¬b=y.2→z++[f y]++(ys.filter (dT b)).map f=R)∧(b=y.2→z++(ys.filter (dT b)).map f=R):=by
 rw [oA] at h
 exact ⟨fun hb=>(fA z [f y] _).trans ((aD (fun l=>z++List.map f l) (bE (x6 hb))).symm.trans h),fun hb=>(aD (fun l=>z++List.map f l) (aW (x5 hb))).symm.trans h⟩
noncomputable def FZ:List (Nat × AV)→List ((Nat × AV) × AV)
 | []=>[]
 | h::r=>(h,hd r .nil)::FZ r
theorem Io:(((K.map fun z=>V.lv (.cell z.1)).zip (((K.map fun z=>V.lv (.cell z.1)).drop 1)++[.lv .nil])).map fun x=>[x.1,x.2])=(FZ K).map fun x=>[.lv (.cell x.1.1),.lv x.2]:=by
 induction K with
 | nil=>rfl
 | cons h r ih=>cases r with
  | nil=>rfl
  | cons y r=>exact aD (List.cons _) ih
theorem Im:FZ K=[]→K=[]:=mS (P:=fun K=>FZ K=[]→K=[]) K (fun O=>rfl) fun y r h=>absurd h (Fy _ _)
theorem DG {y ys}:FZ K=y::ys→∃K',K=y.1::K'∧ys=FZ K'∧∀c:Cells,aT c K=aT (c.set y.1.1 (y.1.2,y.2)) K':=
 mS (P:=fun K=>FZ K=y::ys→∃K',K=y.1::K'∧ys=FZ K'∧∀c:Cells,aT c K=aT (c.set y.1.1 (y.1.2,y.2)) K') K (fun h=>absurd h.symm (Fy _ _)) fun k r h=>(lC h).1▸⟨r,rfl,(lC h).2.symm,fun c=>rfl⟩
theorem t8 {α:Type} {f g:α→V} {l:List α}:((l.map f).zip (l.map g)).map (fun x=>[x.1,x.2])=l.map fun z=>[f z,g z]:=by
 induction l with
 | nil=>rfl
 | cons x l ih=>exact aD (List.cons _) ih
end Mine
namespace Mine.P
section
variable {C:Nat→CW} (X:Calls C) {n t ai:Nat} {Q:PV} {E:PE} {σ:St} {L:Lo} {c:Cells} {S:List Nat} {P:List AV} {a b e g v x y:AV} {l:List (Nat × AV)}
include X
theorem yi (ht:L.st=t) (H:LI L c S P σ) (ha:σ.objs[ai]?=some (.lst [.lv b,.lv y])) (I:LS σ l sm i j q s) (hb:c.length+l.length<899999)
  (h0:e≠ .nil→Due L c S P σ Q none) (h1:e= .nil→Due L (made c ((l.filter (dT b)).map (·.2)) .nil).1 S P σ Q (some (made c ((l.filter (dT b)).map (·.2)) .nil).2)) :
  qB (C (n+2)) (aY.drop 2) (Lq t 15 ai i j q e) (cI Q) (fun O=>E) s:=by
 have hl:l.length<900000:=cV (add_r hb) (by decide)
 refine gu (fun he=>h0 he s L (H.xt I.x) (Ux.xt I.x) I.x.c) fun he=>ax I.i (ml hl) (ah (Pk hl) ?_)
 exact cC (fun z:Nat × AV=>[.lv z.2]) (fun l2 zs s'=>zs++(l2.filter (dT b)).map (fun z=>V.lv z.2)=(l.filter (dT b)).map (fun z=>V.lv z.2)∧Xt s.cells s s'∧s'.objs[i]?=some (.lst (l.map fun z=>.lv z.2))) (fun O O O H=>H.2.2)
  (fun zs s' H1=>aR fun w s2 N2=>ah trivial (gP X (n:=n) (as:=(l.filter (dT b)).map fun (z:Nat × AV)=>z.2) ht ((H.xt (I.x.to H1.2.1)).xt N2.xt) (N2.at_.trans (aD (fun z=>some (Ob.lst z)) (((gq zs).symm.trans H1.1).trans dj.symm))) ((cL (f:=fun z:Nat × AV=>z.2)).symm▸cY (dA (uC _ _) _) hb) fun s3 L3 H3 U3 e3=>h1 (uL.mp he) s3 L3 H3 (((Ux.xt (I.x.to H1.2.1)).trans (Ux.xt N2.xt)).trans U3) (e3.trans (N2.c.trans (H1.2.1.c.trans I.x.c)))))
  (fun z zs as s' K' H1 hN hS=>bg (H1.2.1.o (I.x.o ha)) (gu (fun hb=>hN _ _ ⟨(xu (f:=fun z=>V.lv z.2) H1.1).1 (fun h=>hb h.symm),H1.2⟩) fun hb=>hS _ ⟨(xu (f:=fun z=>V.lv z.2) H1.1).2 (uL.mp hb).symm,H1.2⟩))
  dj ⟨rfl,Xt.refl s,I.i⟩
structure Y2 (L:Lo) (c:Cells) (S:List Nat) (P as0:List AV) (o:Ob) (s:St) (i N:Nat) (l2:List AV) (zs:List V) (s':St) (L':Lo) (c1:Cells) (za:List AV):Prop where
 z:za.map V.lv=zs
 e:ay c as0=((ay c1 l2).1,za++(ay c1 l2).2)
 g:∀i,AV.cell i∈l2→∃ab,c1[i]?=some ab
 li:LI L' c1 S P s'
 u:Ux L L' s s'
 c:s'.cells=s.cells
 o:s'.objs[i]?=some o
 f:L'.fr i
 b:c1.length+l2.length≤N
theorem yg (ht:L.st=t) (H:LI L c S P σ) (I:LS σ l sm i j q s) (hb:c.length+l.length+l.length<899999) (hg:∀i,AV.cell i∈l.map (·.2)→∃ab,c[i]?=some ab)
  (h0:e≠ .nil→Due L c S P σ Q none) (h1:e= .nil→Due L (made (ay c (l.map (·.2))).1 (ay c (l.map (·.2))).2 .nil).1 S P σ Q (some (made (ay c (l.map (·.2))).1 (ay c (l.map (·.2))).2 .nil).2)) :
  qB (C (n+2)) (aY.drop 2) (Lq t 21 ai i j q e) (cI Q) (fun O=>E) s:=by
 have hl:l.length<900000:=cV (add_r hb) (by decide)
 refine gu (fun he=>h0 he s L (H.xt I.x) (Ux.xt I.x) I.x.c) fun he=>ax I.i (ml hl) (ah (Pk hl) ?_)
 refine cC (fun z:AV=>[.lv z]) (fun l2 zs s'=>∃L' c1 za,Y2 L c S P (l.map (·.2)) (.lst (l.map fun z=>.lv z.2)) s i (c.length+l.length) l2 zs s' L' c1 za)
  (fun O O O H=>E1 H fun O O O J=>J.o)
  (fun zs s' H2=>E1 H2 fun L' c1 za J=> ?_) (fun z zs as s' K' H2 hN hS=>E1 H2 fun L' c1 za J=> ?_) (l:=l.map (·.2)) ((aD (List.map fun x=>[x]) dj.symm).trans dj) ⟨L,c,[],rfl,rfl,hg,H.xt I.x,Ux.refl L s,rfl,I.i,H.fr I.fi,bT (aD (_+ ·) (cL ..))⟩
 ·have e2:(ay c (l.map (·.2))).1=c1:=aD Prod.fst J.e
  have e3:(ay c (l.map (·.2))).2=za:=(aD Prod.snd J.e).trans (gq za)
  refine aR fun w s2 N2=>ah trivial (gP X (n:=n) (as:=(ay c (l.map (·.2))).2) (J.u.st.trans ht) (J.li.xt N2.xt) (N2.at_.trans (aD (fun z=>some (Ob.lst z)) (J.z.symm.trans (aD (List.map V.lv) e3.symm)))) ?_ fun s3 L3 H3 U3 e4=>(e2▸h1 (uL.mp he):Due L (made c1 (ay c (l.map (·.2))).2 .nil).1 S P σ Q (some (made c1 (ay c (l.map (·.2))).2 .nil).2)) s3 L3 H3 ((((Ux.xt I.x).trans J.u).trans (Ux.xt N2.xt)).trans U3) (e4.trans (N2.c.trans (J.c.trans I.x.c))))
  exact cY (ka J.b (bT (eY.trans (cL ..)))) hb
 ·have jy:=J.u.st.trans ht▸J.li.st
  have ZJ:(L'.ids.map V.ob).length<1000000:=ml (J.li.n▸J.li.c.1)
  have nc:∀z,z.aE=false→Y2 L c S P (l.map (·.2)) (.lst (l.map fun z=>.lv z.2)) s i (c.length+l.length) (z::zs) as s' L' c1 za→K' (some (.lv z)) s':=fun z q J=>
   hN _ _ ⟨L',c1,za++[z],(bY ..).trans (aD (· ++[V.lv z]) J.z),Bs J.e q,fun i hi=>J.g i (.tail _ hi),J.li,J.u,J.c,J.o,J.f,pD J.b⟩
  induction z with
  | nil=>exact nc _ rfl J
  | num=>exact nc _ rfl J
  | cell k=>
   refine (J.g k (.head _)).elim fun ab cW=>cX (J.li.ce cW) fun o o1 O O o2=> ?_
   refine aP jy rfl (ba J.li.lc ZJ (dB _) o1 (bg o2 (aP jy rfl (ba J.li.lc ZJ (dB _) o1 (bO o2 (ah trivial (pL X (n:=n+1) (J.u.st.trans ht) J.li (cY (aN (b9 _ _) J.b) (cY (b9 _ _) hb)) fun s3 L3 H3 U3 c3=> ?_)))))))
   exact hN _ _ ⟨L3,c1++[ab],za++[.cell c1.length],(bY ..).trans (aD (· ++[V.lv (.cell c1.length)]) J.z),Br J.e cW,fun i hi=>(J.g i (.tail _ hi)).imp fun O h'=>(ow (bl.mp h').1).trans h',H3,J.u.trans U3,c3.trans J.c,(U3.o J.o J.f).1,(U3.o J.o J.f).2,bK (as:=c1) (bs:=[ab])▸(j8 _ 1 _).symm▸J.b⟩
noncomputable abbrev dqF (t ai i j q k:Nat) (e:AV) (z:Option V × Option V):aO:=[some (.ob t),some (.str 14),some (.ob ai),some (.ob i),some (.ob j),some (.lv e),none,some (.ob q),none,none,none,z.1,some (.ob k),z.2,none,none,none,none,none]
structure DqJ (L:Lo) (S:List Nat) (P:List AV) (R:Cells) (o o':Ob) (σ:St) (k k5:Nat) (r:List ((Nat × AV) × AV)) (s':St) (K':List (Nat × AV)) (c1:Cells):Prop where
 e:FZ K'=r
 li:LI L c1 S P s'
 r:aT c1 K'=R
 u:Ux L L σ s'
 c:s'.cells=σ.cells
 m:∀h∈K',∃d,c1[h.1]?=some (h.2,d)
 nd:(K'.map (·.1)).Nodup
 o:s'.objs[k]?=some o
 o':s'.objs[k5]?=some o'
theorem yh (ht:L.st=t) (H:LI L c S P σ) (hc:Chain c y l e) (I:LS σ l (fun z=>decide (b=z)) i j q s) (hl:l.length<900000)
  (h0:e≠ .nil→Due L c S P σ Q none) (h1:e= .nil→Due L (aT c (l.filter (dT b))) S P σ Q (some (hd (l.filter (dT b)) .nil))) :
  qB (C m) (aY.drop 2) (Lq t 14 ai i j q e) (cI Q) (fun O=>E) s:=by
 subst ht
 refine gu (fun he=>h0 he s L (H.xt I.x) (Ux.xt I.x) I.x.c) fun he=>ax I.j (ml hl) (ax I.q (ml hl) (ah (bT ((cL ..).trans (cL ..).symm)) (ah (by rw [t8];exact ml hl) ?_)))
 have he:=uL.mp he
 have ZI:=uC (dT b) l
 have zt:=cY ZI hl
 refine cC (fun z:Nat × AV=>[.lv (.cell z.1),.bool (decide (b=z.2))]) (fun l2 zs s'=>s=s'∧zs++(l2.filter (dT b)).map (fun z=>V.lv (.cell z.1))=(l.filter (dT b)).map (fun z=>V.lv (.cell z.1))) (fun O O O H=>H.1▸⟨I.j,I.q⟩)
  (fun zs s' H1=>H1.1▸(gq zs).symm.trans H1.2▸ ?_)
  (fun z zs as s' K' H1 hN hS=>JC (fun hb=>hN _ _ ⟨H1.1,(xu (f:=fun z=>V.lv (.cell z.1)) H1.2).1 hb⟩) fun hb=>hS _ ⟨H1.1,(xu (f:=fun z=>V.lv (.cell z.1)) H1.2).2 hb⟩)
  t8 ⟨rfl,rfl⟩
 generalize hK:l.filter (dT b)=K at *
 have UX:(K.map fun z=>V.lv (.cell z.1)).length<1000000:=ml zt
 have Zx:((K.map fun z=>V.lv (.cell z.1)).drop 1).length≤K.length:=aN (wK▸nE _ _) (bT (cL ..))
 have hd2:((K.map fun z=>V.lv (.cell z.1)).drop 1).length+1<1000000:=cV (uz (cY Zx zt)) (by decide)
 have hd4:(K.map fun z=>V.lv (.cell z.1)).length≤(((K.map fun z=>V.lv (.cell z.1)).drop 1)++[V.lv .nil]).length:=by
  rw [bK,wK];exact Nat.sub_le_iff_le_add.mp (bz _)
 refine aR fun k s2 N2=>ax N2.at_ UX (aR fun k3 s3 N3=>aR fun k4 s4 N4=>ax (N4.xt.o N3.at_) (wz hd2) (ax N4.at_ (show 1<1000000 from by decide) (ah hd2 (aR fun k5 s5 N5=> ?_))))
 have X5:Xt σ.cells σ s5:=(((I.x.to N2.xt).to N3.xt).to N4.xt).to N5.xt
 have ZH:=N5.xt.o (N4.xt.o (N3.xt.o N2.at_))
 have fk:L.fr k:=H.fr (I.x.fr N2.gj)
 have f5:L.fr k5:=H.fr ((((I.x.to N2.xt).to N3.xt).to N4.xt).fr N5.gj)
 have rk:=hc.pe (dT b)
 rw [hK] at rk
 refine ax ZH UX (ax N5.at_ (bK▸hd2) (ah hd4 ?_))
 refine jJ (fun x:(Nat × AV) × AV=>[.lv (.cell x.1.1),.lv x.2]) (fun (z:Option V × Option V)=>dqF L.st ai i j q k e z)
  (fun r z s'=>∃K' c1,DqJ L S P (aT c K) (.lst (K.map fun z=>V.lv (.cell z.1))) (.lst (((K.map fun z=>V.lv (.cell z.1)).drop 1)++[.lv .nil])) σ k k5 r s' K' c1)
  (fun O O O H=>jX H fun O O J=>⟨J.o,J.o'⟩) (fun z s' H2=>jX H2 fun K' c1 J=> ?_) (fun y ys z s' K' H2 hN O=>jX H2 fun K1 c1 J=> ?_) (l:=FZ K) (z:=(none,none)) Io ⟨_,c,rfl,H.xt X5,rfl,Ux.xt X5,X5.c,rk.1,rk.2,ZH,N5.at_⟩
 ·have e2:c1=aT c K:=(aD (aT c1) (Im J.e)).symm.trans J.r
  refine aR fun k7 s7 N7=>ax N7.at_ (show 0<1000000 from by decide) (ax (N7.xt.o J.o) UX ?_)
  have h':=h1 he s7 L (e2▸J.li.xt N7.xt) (J.u.trans (Ux.xt N7.xt)) (N7.c.trans J.c)
  have hk7:=N7.xt.o J.o
  cases K with
  | nil=>exact h'
  | cons z r=>exact ba hk7 UX (lB _) rfl h'
 ·refine iL (DG J.e) fun K2 eK e4 e5=> ?_
  have m:=eK▸J.m
  have nd:=bV.mp ((aD (fun K=>(K.map (fun h:Nat × AV=>h.1)).Nodup) eK).mp J.nd:(y.1.1::K2.map (·.1)).Nodup)
  refine (m _ (.head _)).elim fun d hd=>cX (J.li.ce hd) fun p p1 pm pi p2=> ?_
  have hm:p∈L.st::L.dk::L.d0::L.lc::L.pr::L.pl::L.ids:=.tail _ (.tail _ (.tail _ (.tail _ (.tail _ (.tail _ pm)))))
  exact aP J.li.st rfl (ba J.li.lc (ml (J.li.n▸J.li.c.1)) (dB _) p1 (ax p2 (show 2<1000000 from by decide) (ah ⟨by decide,(show 1<2 from by decide)⟩ (hN (some (.lv (.cell y.1.1)),some (.lv y.2)) _ ⟨K2,c1.set y.1.1 (y.1.2,y.2),e4.symm,J.li.IF (ab:=(y.1.2,y.2)) pi,(e5 c1).symm.trans J.r,J.u.trans (Ux.set hm),J.c,
   fun h hh=>(m h (.tail _ hh)).imp fun d' nK=>(uI fun e:y.1.1=h.1=>nd.1 (e▸ru hh)).trans nK,nd.2,(aF fun q:p=k=>fk (q▸hm)).trans J.o,(aF fun q:p=k5=>f5 (q▸hm)).trans J.o'⟩))))
end
structure Step (C:Nat→CW) (c:Cells) (S:List Nat) (w fw fl:Nat) (xs:List AV) (o:Option AV) (c':Cells):Prop where
 gi:GI c'
 si:SI S c'
 cl:lD S c'
 ov:∀v,o=some v→aL c' v
 no:o=none→c'=c
 pr:∀ {n σ Q E ai},σ.cells=c→σ.objs[ai]?=some (.lst (xs.map .av))→(∀v,o=some v→∀af,Xt c' σ af→Q (.av v) af)→(o=none→∀af,Xt c σ af→E af)→C (n+20) (.fn fw) [.none,.ob ai] Q E σ
 la:∀ {n t L P σ Q E ai},L.st=t→LI L c S P σ→σ.objs[ai]?=some (.lst (xs.map .lv))→L.fr ai→Due L c' S P σ Q o→C (n+130) (.fn fl) [.ob t,.str w,.ob ai] Q E σ
structure Pre (c:Cells) (S:List Nat):Prop where
 gi:GI c
 si:SI S c
 cl:lD S c
theorem Pre.v {c S v} (H:Pre c S) (h:bH S v):aL c v:=fun i e=>H.si.lt i (h i e)
theorem Pre.ch {c S v} (H:Pre c S) (h:aL c v):∃l e,Chain c v l e∧l.length≤72:=by
 obtain ⟨rk,hr⟩:=H.gi.rk
 refine jX (Bj hr H.gi.ok _ v (bz _) h) fun l e hc=> ?_
 exact ⟨l,e,hc,aN hc.mT H.gi.len⟩
theorem Pre.lk {c S} (H:Pre c S):∀v w,aL c v→aL c w→∃r m,Lk c 101 v w r m∧m≤8000000:=by
 obtain ⟨rk,hr⟩:=H.gi.rk
 refine jX H.gi.wt fun N f W=> ?_
 exact HO hr H.gi.ok W (aN H.gi.len (by decide))
theorem Bw {l:List (Nat × AV)} (h:l.length≤72):(l.map cv).length<1000000:=by rw [cL];lia
section
variable {C:Nat→CW} (X:Calls C) {c:Cells} {S:List Nat} (H:Pre c S) {x y:AV}
include X H
theorem IQ (hl:c.length≤24) (hx:aL c x) (hy:aL c y):∃o c',Step C c S 9 291 603 [x,y] o c':=by
 obtain ⟨G,v,_⟩:=gS (as:=[x]) (e:=y) H.gi hl hy (fun a ha=>by cases dX.mp ha;exact hx) (by simp)
 exact ⟨some (.cell c.length),c++[(x,y)],G,H.si.app,H.cl.app H.si,fun u e=>by cases e;exact v,(fun h=>nomatch h),fun hc ha hq O=>by
  subst hc;exact Md X ha (hq _ rfl _ ⟨rfl,id⟩),fun ht HL ha hf h=>Of X ht HL ha (by lia) h⟩
theorem IX (hl:c.length≤24) (hx:∀a∈xs,aL c a) (hn:xs.length≤24):∃o c',Step C c S 10 298 603 xs o c':=by
 refine Uu (gS (as:=xs) (e:=.nil) H.gi hl (aL.nc rfl) hx hn) fun G v l e=> ?_
 exact ⟨some (made c xs .nil).2,(made c xs .nil).1,G,e▸H.si.app,e▸H.cl.app H.si,fun u e=>by cases e;exact v,(fun h=>nomatch h),fun hc ha hq O=>by
  subst hc;exact AR X ha (by simp;lia) (hq _ rfl),fun ht HL ha hf h=>Og X ht HL ha (by lia) h⟩
theorem Ov (hx:aL c x):∃o c',Step C c S 22 277 603 [x] o c':=by
 refine b8 (H.ch hx) fun l e hc O=> ?_
 exact ⟨iu c x,c,H.gi,H.si,H.cl,fun u e=>xf H.gi.ok hx e,fun O=>rfl,fun cq ha hq he=>by
  subst cq;exact PS X ha hc (fun v hv=>hq v hv _ (Xt.refl _)) fun hn=>he (Bd hn) _ (Xt.refl _),fun ht HL ha hf h=>TG X ht HL ha hx h⟩
theorem Ow (hx:aL c x):∃o c',Step C c S 23 284 603 [x] o c':=by
 refine b8 (H.ch hx) fun l e hc O=> ?_
 exact ⟨gf c x,c,H.gi,H.si,H.cl,fun u e=>GK H.gi.ok hx e,fun O=>rfl,fun cq ha hq he=>by
  subst cq;exact PT X ha hc (fun v hv=>hq v hv _ (Xt.refl _)) fun hn=>he (Be hn) _ (Xt.refl _),fun ht HL ha hf h=>TH X ht HL ha hx h⟩
theorem zU (hl:c.length≤24) (hx:aL c x) (hy:aL c y) (hs:bH S y) (hr:∀i,x= .cell i→¬Rc c y i):∃o c',Step C c S 11 305 603 [x,y] o c':=by
 induction x with
 | cell i=>
  obtain ⟨ab,cW⟩:=hx i rfl
  refine ⟨some y,c.set i (y,ab.2),vp H.gi hl cW (hr i rfl) hy (.inr rfl) (.inl rfl),H.si.set,H.cl.set cW fun hi=>⟨hs,(H.cl i hi _ cW).2⟩,fun u e=>by cases e;exact hy.set,(fun h=>nomatch h),fun cq ha hq he=> ?_,fun ht HL ha hf h=> ?_⟩
  ·subst cq
   exact r3 X ha (fun j Gh e h'=>by cases e;rw [cW] at h';cases h';exact hq _ rfl _ ⟨rfl,id⟩) (fun j e=>by cases e;exact ⟨ab,cW⟩) (fun h=>nomatch h)
  ·exact tO X ht HL ha hf (fun h=>nomatch h) (fun j Gh e h'=>by cases e;rw [cW] at h';cases h';exact h) hx
 | _=>exact ⟨none,c,H.gi,H.si,H.cl,(fun u e=>nomatch e),fun O=>rfl,fun cq ha hq he=>r3 X ha (fun j Gh e h'=>nomatch e) (fun j e=>nomatch e) (fun O=>he rfl _ (cq▸Xt.refl _)),fun ht HL ha hf h=>tO X ht HL ha hf (fun O=>h) (fun j Gh e h'=>nomatch e) hx⟩
theorem zV (hl:c.length≤24) (hx:aL c x) (hy:aL c y) (hs:bH S y) (hr:∀i,x= .cell i→¬Rc c y i):∃o c',Step C c S 12 312 603 [x,y] o c':=by
 induction x with
 | cell i=>
  obtain ⟨ab,cW⟩:=hx i rfl
  refine ⟨some y,c.set i (ab.1,y),vp H.gi hl cW (hr i rfl) hy (.inl rfl) (.inr rfl),H.si.set,H.cl.set cW fun hi=>⟨(H.cl i hi _ cW).1,hs⟩,fun u e=>by cases e;exact hy.set,(fun h=>nomatch h),fun cq ha hq he=> ?_,fun ht HL ha hf h=> ?_⟩
  ·subst cq
   exact r4 X ha (fun j Gh e h'=>by cases e;rw [cW] at h';cases h';exact hq _ rfl _ ⟨rfl,id⟩) (fun j e=>by cases e;exact ⟨ab,cW⟩) (fun h=>nomatch h)
  ·exact tP X ht HL ha hf (fun h=>nomatch h) (fun j Gh e h'=>by cases e;rw [cW] at h';cases h';exact h) hx
 | _=>exact ⟨none,c,H.gi,H.si,H.cl,(fun u e=>nomatch e),fun O=>rfl,fun cq ha hq he=>r4 X ha (fun j Gh e h'=>nomatch e) (fun j e=>nomatch e) (fun O=>he rfl _ (cq▸Xt.refl _)),fun ht HL ha hf h=>tP X ht HL ha hf (fun O=>h) (fun j Gh e h'=>nomatch e) hx⟩
theorem zS {k:Nat} (hx:aL c x):∃o c',Step C c S 25 413 603 [.num k,x] o c':=by
 refine b8 (H.ch hx) fun l e hc O=> ?_
 exact ⟨cP c k x,c,H.gi,H.si,H.cl,fun u e=>by obtain ⟨_,_,h⟩:=fO ⟨_,_,hc⟩ e;exact h.okv,fun O=>rfl,fun cq ha hq he=>by
  subst cq;exact AX X ha hc (fun b hb=>hq b hb) he,fun ht HL ha hf h=>DX X ht HL ha ⟨_,_,hc⟩ h⟩
theorem Ox {k:Nat} (hx:aL c x):∃o c',Step C c S 24 420 603 [.num k,x] o c':=by
 refine b8 (H.ch hx) fun l e hc O=> ?_
 refine ⟨(cP c k x).bind (iu c),c,H.gi,H.si,H.cl,fun u e=> ?_,fun O=>rfl,fun cq ha hq he=> ?_,fun ht HL ha hf h=>TJ X ht HL ha ⟨_,_,hc⟩ h⟩
 ·refine bc (Fe.mp e) fun b hb e=> ?_
  refine jX (fO ⟨_,_,hc⟩ hb) fun O O h=> ?_
  exact xf H.gi.ok h.okv e
 ·subst cq;exact PW X ha hc (fun b v hb hv=>hq v (by rw [hb];exact hv)) he
theorem zT (hx:aL c x):∃o c',Step C c S 29 319 603 [x] o c':=by
 refine b8 (H.ch hx) fun l e hc hl=> ?_
 exact ⟨some (if e= .nil then .num l.length else .nil),c,H.gi,H.si,H.cl,fun u q=>by cases q;split <;> exact aL.nc rfl,(fun h=>nomatch h),fun cq ha hq he=>by
  subst cq;exact AY X ha hc (Bw hl) fun s X1=>by have:=hq _ rfl s X1;split <;> rename_i q <;> simp only [q,if_true,ou] at this <;> exact this,fun ht HL ha hf h=>DY X ht HL ha hc (by lia) h⟩
theorem IW (hx:aL c x):∃o c',Step C c S 27 434 603 [x] o c':=by
 refine b8 (H.ch hx) fun l e hc hl=> ?_
 have lv:aL c (kQ l):=by
  unfold kQ
  cases hz:l.getLast? with
  | none=>exact aL.nc rfl
  | some z=>exact fun i q=>by cases q;exact ⟨_,hc.jf hz⟩
 cases hn:x.isNum with
 | true=>exact ⟨none,c,H.gi,H.si,H.cl,(fun u q=>nomatch q),fun O=>rfl,fun cq ha hq he=>by
   subst cq;exact AQ X ha hc (Bw hl) (fun h=>by rw [hn] at h;cases h) fun O=>he rfl _ (Xt.refl _),fun ht HL ha hf h=>DW X ht HL ha hc (by lia) (fun O=>h) fun h'=>by rw [hn] at h';cases h'⟩
 | false=>exact ⟨some (kQ l),c,H.gi,H.si,H.cl,fun u q=>by cases q;exact lv,(fun h=>nomatch h),fun cq ha hq he=>by
   subst cq;exact AQ X ha hc (Bw hl) (fun O=>hq _ rfl) (fun h=>by rw [hn] at h;cases h),fun ht HL ha hf h=>DW X ht HL ha hc (by lia) (fun h'=>by rw [hn] at h';cases h') fun O=>h⟩
end
end Mine.P
namespace Mine
theorem Chain.kW {c v l e} (hc:Ok c) (h:Chain c v l e):(∀z∈l,aL c z.2∧aL c (.cell z.1))∧aL c e:=by
 refine ⟨fun z hz=> ?_,?_⟩
 ·obtain ⟨d,hd⟩:=h.mem z hz
  exact ⟨(hc _ _ hd).1,fun i q=>by cases q;exact ⟨_,hd⟩⟩
 ·exact aL.nc h.gE
theorem je {c:Cells} {l:List (Nat × AV)} {p:Nat × AV→Bool} (h:∀z∈l,aL c z.2∧aL c (.cell z.1)):aL c (cM (l.find? p))∧aL c (iC (l.find? p)):=by
 cases hz:l.find? p with
 | none=>exact ⟨aL.nc rfl,aL.nc rfl⟩
 | some z=>have:=h z (Ff hz);exact ⟨this.2,this.1⟩
theorem qM {c:Cells} {l:List (Nat × AV)} (h:∀z∈l,aL c z.2∧aL c (.cell z.1)):∀a∈l.map (·.2),aL c a:=fun a ha=>by
 obtain ⟨z,hz,rfl⟩:=dC.mp ha;exact (h z hz).1
end Mine
namespace Mine.P
section
variable {C:Nat→CW} (X:Calls C) {c:Cells} {S:List Nat} (H:Pre c S) {x y:AV}
include X H
theorem I1 {k:Nat} (hl:c.length≤24) (hk:k<9) (hx:aL c x):∃o c',Step C c S 26 427 603 [.num k,x] o c':=by
 refine b8 (H.ch hx) fun l e hc hn=> ?_
 have mL:=hc.mT
 by_cases q:x.isNum=true∨(l.map (·.2)).length<k∧e≠ .nil
 ·exact ⟨none,c,H.gi,H.si,H.cl,(fun u q=>nomatch q),fun O=>rfl,fun cq ha hq he=>by
   subst cq;exact A0 X ha hc (by simp;lia) (fun a b=>absurd q (by simp [a];rcases b with b | b;exact fun h=>absurd h (by simp at b;lia);exact fun O=>b)) fun O=>he rfl,fun ht HL ha hf h=>DZ X ht HL ha hk hc (by lia) (fun O=>h) fun a b=>absurd q (by simp [a];rcases b with b | b;exact fun h=>absurd h (by simp at b;lia);exact fun O=>b)⟩
 ·obtain ⟨G,v,m,em⟩:=gS (as:=(l.map (·.2)).take k) (e:=.nil) H.gi hl (aL.nc rfl) (fun a ha=>qM (hc.kW H.gi.ok).1 a (List.mem_of_mem_take ha)) (by simp;lia)
  exact ⟨some (made c ((l.map (·.2)).take k) .nil).2,(made c ((l.map (·.2)).take k) .nil).1,G,em▸H.si.app,em▸H.cl.app H.si,fun u e=>by cases e;exact v,(fun h=>nomatch h),fun cq ha hq he=>by
   subst cq;exact A0 X ha hc (by simp;lia) (fun O O=>hq _ rfl) fun h=>absurd h q,fun ht HL ha hf h=>DZ X ht HL ha hk hc (by lia) (fun h=>absurd h q) fun O O=>h⟩
theorem vX (hl:c.length≤24) (hx:aL c x):∃o c',Step C c S 28 441 603 [x] o c':=by
 refine b8 (H.ch hx) fun l e hc hn=> ?_
 have mL:=hc.mT
 by_cases q:e= .nil
 ·obtain ⟨G,v,m,em⟩:=gS (as:=(l.map (·.2)).dropLast) (e:=.nil) H.gi hl (aL.nc rfl) (fun a ha=>qM (hc.kW H.gi.ok).1 a (List.dropLast_subset _ ha)) (by simp;lia)
  exact ⟨some (made c (l.map (·.2)).dropLast .nil).2,(made c (l.map (·.2)).dropLast .nil).1,G,em▸H.si.app,em▸H.cl.app H.si,fun u e=>by cases e;exact v,(fun h=>nomatch h),fun cq ha hq he=>by
   subst cq;exact oI X ha hc (Bw hn) (fun O=>hq _ rfl) fun h=>absurd q h,fun ht HL ha hf h=>pg X ht HL ha hc (by lia) (fun h=>absurd q h) fun O=>h⟩
 ·exact ⟨none,c,H.gi,H.si,H.cl,(fun u q=>nomatch q),fun O=>rfl,fun cq ha hq he=>by
   subst cq;exact oI X ha hc (Bw hn) (fun h=>absurd h q) fun O=>he rfl,fun ht HL ha hf h=>pg X ht HL ha hc (by lia) (fun O=>h) fun h=>absurd h q⟩
theorem EA (hl:c.length≤24) (hx:aL c x) (hy:aL c y) (hs:bH S y) (hr:∀l e,Chain c x l e→∀z∈l,¬Rc c y z.1):∃o c',Step C c S 13 455 603 [x,y] o c':=by
 refine b8 (H.ch hx) fun l e hc hn=> ?_
 refine b8 (H.ch hy) fun l2 e2 MK oS=> ?_
 cases hnm:x.isNum with
 | true=>exact ⟨none,c,H.gi,H.si,H.cl,(fun u q=>nomatch q),fun O=>rfl,fun cq ha hq he=>by
   subst cq;exact xe X ha hc (fun h=>by rw [hnm] at h;cases h) fun O=>he rfl _ (Xt.refl _),fun ht HL ha hf h=>yd X ht HL ha hf hc (by lia) MK (by lia) (fun O=>h) fun h'=>by rw [hnm] at h';cases h'⟩
 | false=>
  have main:GI (d9 c l y)∧(∀v,aL c v→aL (d9 c l y) v)∧SI S (d9 c l y)∧lD S (d9 c l y):=by
   unfold d9
   cases hz:l.getLast? with
   | none=>exact ⟨H.gi,fun v h=>h,H.si,H.cl⟩
   | some z=>
    have sP:=hc.jf hz
    exact ⟨vp (v:=y) H.gi hl sP (hr l e hc z (List.mem_of_getLast? hz)) hy (.inl rfl) (.inr rfl),fun v h=>h.set,H.si.set,H.cl.set sP fun hi=>⟨(H.cl _ hi _ sP).1,hs⟩⟩
  refine jW main fun G ov s1 c1=> ?_;clear main
  exact ⟨some (if x= .nil then y else x),d9 c l y,G,s1,c1,fun u q=>by cases q;split;exact ov _ hy;exact ov _ hx,(fun h=>nomatch h),fun cq ha hq he=>by
   subst cq;exact xe X ha hc (fun O=>hq _ rfl) (fun h=>by cases (hnm).symm.trans h),fun ht HL ha hf h=>yd X ht HL ha hf hc (by lia) MK (by lia) (fun h'=>by rw [hnm] at h';cases h') fun O=>h⟩
theorem lO {w fw:Nat} {xs:List AV} {F:Option (Nat × AV)→AV} {p:Nat × AV→Bool} {l:List (Nat × AV)} {e:AV} (hF:aL c (F (l.find? p)))
  (pr:∀ {n σ Q E ai},σ.cells=c→σ.objs[ai]?=some (.lst (xs.map .av))→((l.find? p).isSome=true∨e= .nil→∀af,Xt c σ af→Q (.av (F (l.find? p))) af)→(l.find? p=none→e≠ .nil→∀af,Xt c σ af→E af)→C (n+20) (.fn fw) [.none,.ob ai] Q E σ)
  (la:∀ {n t L P σ Q E ai},L.st=t→LI L c S P σ→σ.objs[ai]?=some (.lst (xs.map .lv))→L.fr ai→((l.find? p).isSome=true∨e= .nil→Due L c S P σ Q (some (F (l.find? p))))→(l.find? p=none→e≠ .nil→Due L c S P σ Q none)→C (n+130) (.fn 615) [.ob t,.str w,.ob ai] Q E σ):∃o c',Step C c S w fw 615 xs o c':=by
 by_cases q:(l.find? p).isSome=true∨e= .nil
 ·exact ⟨some (F (l.find? p)),c,H.gi,H.si,H.cl,fun u h=>by cases h;exact hF,(fun h=>nomatch h),fun hc ha hq he=>pr hc ha (fun O=>hq _ rfl) fun h1 h2=>absurd q (by simp [h1,h2]),fun ht HL ha hf h=>la ht HL ha hf (fun O=>h) fun h1 h2=>absurd q (by simp [h1,h2])⟩
 ·exact ⟨none,c,H.gi,H.si,H.cl,(fun u h=>nomatch h),fun O=>rfl,fun hc ha hq he=>pr hc ha (fun h=>absurd h q) fun O O=>he rfl,fun ht HL ha hf h=>la ht HL ha hf (fun h=>absurd h q) fun O O=>h⟩
theorem IY (hy:aL c y):∃o c',Step C c S 16 462 615 [x,y] o c':=by
 refine b8 (H.ch hy) fun l e hc hn=> ?_
 refine lO (l:=l) (e:=e) (p:=fun z=>decide (x=z.2)) (F:=cM) X H (je (hc.kW H.gi.ok).1).1 (fun cq ha hq he=>by subst cq;exact Me X ha hc hq he) fun {n t L P σ Q E ai} ht HL ha hf h1 h0=> ?_
 exact fR (n:=n+128) (pre:=[.lv x]) (r:=[.lv y]) X (by decide) ht HL ha rfl rfl (dY rfl) hc (by lia) fun s i j q I=>Ep X (.inl rfl) HL I (by lia) h1 h0
theorem xP (hx:aL c x):∃sm:AV→Bool,∀z,aL c z→∃m,Lk c 101 x z (sm z) m∧m≤8000000:=by
 classical
 refine ⟨fun z=>if h:∃m,Lk c 101 x z true m∧m≤8000000 then true else false,fun z hz=> ?_⟩
 refine b8 (H.lk x z hx hz) fun r m k hm=> ?_
 by_cases h:∃m,Lk c 101 x z true m∧m≤8000000
 ·simp only [h,dif_pos]
 ·simp only [h,dif_neg,not_false_eq_true]
  induction r with
  | true=>exact absurd ⟨m,k,hm⟩ h
  | false=>exact ⟨m,k,hm⟩
theorem AE:∀(i:Nat) z,c[i]?=some z→(∃l e,Chain c z.1 l e)∧∃l e,Chain c z.2 l e:=fun i z hz=>by
 refine b8 (H.ch (H.gi.ok _ _ hz).1) fun l e h O=> ?_
 refine b8 (H.ch (H.gi.ok _ _ hz).2) fun l' e' h' O=> ?_
 exact ⟨⟨l,e,h⟩,l',e',h'⟩
theorem zR (hx:aL c x) (hy:aL c y):∃o c',Step C c S 17 469 615 [x,y] o c':=by
 refine b8 (H.ch hy) fun l e hc hn=> ?_
 have hk:=(hc.kW H.gi.ok).1
 obtain ⟨sm,hs⟩:=xP X H hx
 have UY:∀z∈l,∃m,Lk c 101 x z.2 (sm z.2) m∧m≤8000000:=fun z hz=>hs z.2 (hk z hz).1
 refine lO (l:=l) (e:=e) (p:=fun z=>sm z.2) (F:=cM) X H (je hk).1 (fun {n σ Q E ai} cq ha hq he=> ?_) fun {n t L P σ Q E ai} ht HL ha hf h1 h0=> ?_
 ·subst cq
  refine b8 (H.ch hx) fun lx ex Wo O=> ?_
  refine AW (n:=n+19) X ha (kN (n:=n+15) (p:=sm) X hc (fun z hz s Q' X1 k=> ?_) hq he)
  refine bc (UY z hz) fun m h1 h2=> ?_
  refine b8 (H.ch (hk z hz).1) fun lz ez QR O=> ?_
  exact w7 (n:=n+12) X (X1.c▸h1) (by decide) h2 (X1.c▸⟨_,_,Wo⟩) (X1.c▸⟨_,_,QR⟩) (X1.c▸AE X H) fun s' X2=>k s' (X1.c▸X2)
 ·exact Es (n:=n+27) (d:=101) (sm:=sm) X ht HL ha hc (by lia) (fun z hz=>(UY z hz).imp fun m h=>h.1) fun s i j q I=>Ep X (.inr rfl) HL I (by lia) h1 h0
end
section
variable {C:Nat→CW} (X:Calls C) {c:Cells} {S:List Nat} (H:Pre c S) {x y:AV}
include X H
theorem Ey (hy:aL c y) (hw:w=18∧fw=516∧bb=false∨w=20∧fw=530∧bb=true):∃o c',Step C c S w fw 615 [x,y] o c':=by
 refine b8 (H.ch hy) fun l e hc hn=> ?_
 have hk:=(hc.kW H.gi.ok).1
 refine lO (l:=l) (e:=e) (p:=fun z=>cg c bb (fun k=>decide (x=k)) z.2) (F:=iC) X H (je hk).2 (fun {n σ Q E ai} cq ha hq he=> ?_) fun {n t L P σ Q E ai} ht HL ha hf h1 h0=> ?_
 ·subst cq
  have:=Mb (n:=n+14) (bb:=bb) (b:=x) X hc (fun z hz i q=>(hk z hz).1 i q) hq he
  rcases hw with ⟨rfl,rfl,rfl⟩ | ⟨rfl,rfl,rfl⟩
  ·exact Mc (n:=n+19) X ha this
  ·exact GD (n:=n+19) X ha this
 ·have Rm:w≠17∧w≠19:=by rcases hw with ⟨rfl,_⟩ | ⟨rfl,_⟩ <;> decide
  refine fR (n:=n+128) (pre:=[.lv x]) (r:=[.lv y]) X Rm.1 ht HL ha rfl rfl (dY rfl) hc (by lia) fun s i j q I=>Eo X (by rcases hw with ⟨rfl,_,rfl⟩ | ⟨rfl,_,rfl⟩;exact .inl ⟨rfl,rfl⟩;exact .inr (.inr ⟨rfl,rfl⟩)) ht HL I (by lia) (fun z hz=>(hk z hz).1) (fun z hz k ab e1 e2 s' K X1 hK=> ?_) h1 h0
  refine bg (X1.o ha) (gu (fun h=> ?_) fun h=>rR (jY Rm.2) ?_)
  ·have:=hK s' (Xt.refl s');rwa [hM h.symm] at this
  ·have:=hK s' (Xt.refl s');rwa [jY (fun q=>h q.symm)] at this
theorem Ez (hx:aL c x) (hy:aL c y):∃o c',Step C c S 19 523 615 [x,y] o c':=by
 refine b8 (H.ch hy) fun l e hc hn=> ?_
 have hk:=(hc.kW H.gi.ok).1
 obtain ⟨sm,hs⟩:=xP X H hx
 refine b8 (H.ch hx) fun lx ex Wo O=> ?_
 refine lO (l:=l) (e:=e) (p:=fun z=>cg c false sm z.2) (F:=iC) X H (je hk).2 (fun {n σ Q E ai} cq ha hq he=> ?_) fun {n t L P σ Q E ai} ht HL ha hf h1 h0=> ?_
 ·subst cq
  refine Gu (n:=n+19) X ha (kM (n:=n+15) (p:=sm) (bb:=false) X hc (fun z hz i ab e1 e2 s Q' X1 k=> ?_) (fun z hz i q=>(hk z hz).1 i q) hq he)
  have ho:=(H.gi.ok _ _ e2).1
  refine bc (hs _ ho) fun m g1 g2=> ?_
  refine b8 (H.ch ho) fun lz ez QR O=> ?_
  exact w7 (n:=n+12) X (X1.c▸g1) (by decide) g2 (X1.c▸⟨_,_,Wo⟩) (X1.c▸⟨_,_,QR⟩) (X1.c▸AE X H) fun s' X2=>k s' (X1.c▸X2)
 ·refine fR (n:=n+128) (pre:=[.lv x]) (r:=[.lv y]) X (by decide) ht HL ha rfl rfl (dY rfl) hc (by lia) fun s i j q I=>Eo (bb:=false) (p:=sm) X (.inr (.inl ⟨rfl,rfl⟩)) ht HL I (by lia) (fun z hz=>(hk z hz).1) (fun z hz k ab e1 e2 s' K X1 hK=> ?_) h1 h0
  refine bc (hs _ (H.gi.ok _ _ e2).1) fun m g1 g2=> ?_
  refine bg (X1.o ha) (gu (fun h=> ?_) fun h=>bg (X1.o ha) (ah trivial (xd X g1.symm (n:=n+27) ht (HL.xt X1) fun s2 X2=>hK s2 X2)))
  have h':ab.1=x:=h
  have:=hK s' (Xt.refl s')
  rw [show sm (if false=true then ab.2 else ab.1)=true from (by rw [←h'] at g1;exact (g1:Lk c 101 ab.1 ab.1 (sm ab.1) m).same.1)] at this
  exact this
theorem IZ (hl:c.length≤24) (hy:aL c y):∃o c',Step C c S 15 502 615 [x,y] o c':=by
 refine b8 (H.ch hy) fun l e hc hn=> ?_
 have mL:=hc.mT
 have ZI:=uC (dT x) l
 by_cases q:e= .nil
 ·obtain ⟨G,v,m,em⟩:=gS (as:=(l.filter (dT x)).map (·.2)) (e:=.nil) H.gi hl (aL.nc rfl) (qM fun z hz=>(hc.kW H.gi.ok).1 z (uB.mp hz).1) (by simp;lia)
  exact ⟨some (made c ((l.filter (dT x)).map (·.2)) .nil).2,(made c ((l.filter (dT x)).map (·.2)) .nil).1,G,em▸H.si.app,em▸H.cl.app H.si,fun u e=>by cases e;exact v,(fun h=>nomatch h),fun {n σ Q E ai} cq ha hq he=>by
   subst cq;exact AZ (n:=n+16) X ha hc (Bw hn) (fun O=>hq _ rfl) fun h=>absurd q h,fun {n t L P σ Q E ai} ht HL ha hf h=>fR (n:=n+128) (pre:=[.lv x]) (r:=[.lv y]) X (by decide) ht HL ha rfl rfl (dY rfl) hc (by lia) fun s i j k I=>yi (n:=n+127) X ht HL ha I (by lia) (fun h=>absurd q h) fun O=>h⟩
 ·exact ⟨none,c,H.gi,H.si,H.cl,(fun u q=>nomatch q),fun O=>rfl,fun {n σ Q E ai} cq ha hq he=>by
   subst cq;exact AZ (n:=n+16) X ha hc (Bw hn) (fun h=>absurd h q) fun O=>he rfl,fun {n t L P σ Q E ai} ht HL ha hf h=>fR (n:=n+128) (pre:=[.lv x]) (r:=[.lv y]) X (by decide) ht HL ha rfl rfl (dY rfl) hc (by lia) fun s i j k I=>yi (n:=n+127) X ht HL ha I (by lia) (fun O=>h) fun h=>absurd h q⟩
theorem IU (hl:c.length≤24) (hy:aL c y):∃o c',Step C c S 21 535 615 [y] o c':=by
 refine b8 (H.ch hy) fun l e hc hn=> ?_
 have mL:=hc.mT
 have hk:=qM (hc.kW H.gi.ok).1
 have hg:∀i,AV.cell i∈l.map (·.2)→∃ab,c[i]?=some ab:=fun i hi=>hk _ hi i rfl
 by_cases q:e= .nil
 ·obtain ⟨G,v,m,em⟩:=G8 (as:=l.map (·.2)) H.gi hl hk (by simp;lia)
  exact ⟨some (made (ay c (l.map (·.2))).1 (ay c (l.map (·.2))).2 .nil).2,(made (ay c (l.map (·.2))).1 (ay c (l.map (·.2))).2 .nil).1,G,em▸H.si.app,em▸H.cl.app H.si,fun u e=>by cases e;exact v,(fun h=>nomatch h),fun {n σ Q E ai} cq ha hq he=>by
   subst cq;exact jc (n:=n+16) X ha hc (Bw hn) hg (fun O=>hq _ rfl) fun h=>absurd q h,fun {n t L P σ Q E ai} ht HL ha hf h=>fR (n:=n+128) (b:=y) (pre:=[]) (r:=[]) X (by decide) ht HL ha rfl rfl (dY rfl) hc (by lia) fun s i j k I=>yg (n:=n+127) X ht HL I (by lia) hg (fun h=>absurd q h) fun O=>h⟩
 ·exact ⟨none,c,H.gi,H.si,H.cl,(fun u q=>nomatch q),fun O=>rfl,fun {n σ Q E ai} cq ha hq he=>by
   subst cq;exact jc (n:=n+16) X ha hc (Bw hn) hg (fun h=>absurd h q) fun O=>he rfl,fun {n t L P σ Q E ai} ht HL ha hf h=>fR (n:=n+128) (b:=y) (pre:=[]) (r:=[]) X (by decide) ht HL ha rfl rfl (dY rfl) hc (by lia) fun s i j k I=>yg (n:=n+127) X ht HL I (by lia) hg (fun O=>h) fun h=>absurd h q⟩
theorem IV (hy:aL c y) (hs:bH S y):∃o c',Step C c S 14 497 615 [x,y] o c':=by
 refine b8 (H.ch hy) fun l e hc hn=> ?_
 by_cases q:e= .nil
 ·subst q
  refine wg (zk H.gi hc (dT x)) fun G v s1=> ?_
  obtain ⟨s1,c1⟩:=s1 S H.si H.cl hs
  exact ⟨some (hd (l.filter (dT x)) .nil),aT c (l.filter (dT x)),G,s1,c1,fun u e=>by cases e;exact v,(fun h=>nomatch h),fun {n σ Q E ai} cq ha hq he=>by
   subst cq;exact AP (n:=n+15) X ha hc (Bw hn) (fun O=>hq _ rfl) fun h=>absurd rfl h,fun {n t L P σ Q E ai} ht HL ha hf h=>fR (n:=n+128) (pre:=[.lv x]) (r:=[.lv y]) X (by decide) ht HL ha rfl rfl (dY rfl) hc (by lia) fun s i j k I=>yh X ht HL hc I (by lia) (fun h=>absurd rfl h) fun O=>h⟩
 ·exact ⟨none,c,H.gi,H.si,H.cl,(fun u q=>nomatch q),fun O=>rfl,fun {n σ Q E ai} cq ha hq he=>by
   subst cq;exact AP (n:=n+15) X ha hc (Bw hn) (fun h=>absurd h q) fun O=>he rfl,fun {n t L P σ Q E ai} ht HL ha hf h=>fR (n:=n+128) (pre:=[.lv x]) (r:=[.lv y]) X (by decide) ht HL ha rfl rfl (dY rfl) hc (by lia) fun s i j k I=>yh X ht HL hc I (by lia) (fun O=>h) fun h=>absurd h q⟩
end
end Mine.P
namespace Mine
noncomputable def Dt:List (Nat × V):=[(9,.fn 291),(10,.fn 298),(22,.fn 277),(23,.fn 284),(11,.fn 305),(12,.fn 312),(24,.fn 420),(25,.fn 413),(26,.fn 427),(27,.fn 434),(28,.fn 441),(13,.fn 455),(16,.fn 462),(17,.fn 469),(14,.fn 497),(15,.fn 502),(18,.fn 516),(19,.fn 523),(20,.fn 530),(21,.fn 535),(29,.fn 319)]
def A1 (P xs:List AV):Prop:=∃x∈P,xs=[x]
def Ak (P xs:List AV):Prop:=∃k:Nat,k<4∧∃x∈P,xs=[.num k,x]
def Vn (P xs:List AV):Prop:=∃x∈P,∃y∈P,xs=[x]∨xs=[x,y]
def As (P xs:List AV):Prop:=∃x,∃y∈P,(x∈P∨x.isNum=true)∧xs=[x,y]
def A2 (P xs:List AV):Prop:=∃x∈P,∃y∈P,xs=[x,y]
def k8 (P:List AV) (w:Nat) (xs:List AV):Prop:=
 if ([22,23,27,28,21,29]:List Nat).contains w=true then A1 P xs
 else if ([24,25,26]:List Nat).contains w=true then Ak P xs
 else if w=10 then Vn P xs
 else if ([16,17,14,15,18,19,20]:List Nat).contains w=true then As P xs
 else A2 P xs
section
variable {P xs:List AV} {R:List AV→Prop}
theorem k8.c1 (h1:([22,23,27,28,21,29]:List Nat).contains w=true) (h:A1 P xs):k8 P w xs:=Eq.mpr (show k8 P w xs=_ from bE h1) h
theorem k8.c2 (h1:([22,23,27,28,21,29]:List Nat).contains w=false) (h:(if ([24,25,26]:List Nat).contains w=true then Ak P xs else if w=10 then Vn P xs else if ([16,17,14,15,18,19,20]:List Nat).contains w=true then As P xs else A2 P xs)):k8 P w xs:=Eq.mpr (show k8 P w xs=_ from aW (wI.mp h1)) h
theorem k8.c3 (h1:([22,23,27,28,21,29]:List Nat).contains w=false) (h2:([24,25,26]:List Nat).contains w=false) (h:(if w=10 then Vn P xs else if ([16,17,14,15,18,19,20]:List Nat).contains w=true then As P xs else A2 P xs)):k8 P w xs:=k8.c2 h1 ((aW (wI.mp h2)).symm▸h)
theorem A1.k (h:A1 P xs) (k:∀x,x∈P→R [x]):R xs:=bc h fun x hx e=>e▸k x hx
theorem Ak.k (h:Ak P xs) (k:∀n x,n<4→x∈P→R [.num (n:Nat),x]):R xs:=h.elim fun n h=>bc h.2 fun x hx e=>e▸k n x h.1 hx
theorem As.k (h:As P xs) (k:∀x y,y∈P→x∈P∨x.isNum=true→R [x,y]):R xs:=fZ h fun x y hy hx e=>e▸k x y hy hx
theorem A2.k (h:A2 P xs) (k:∀x y,x∈P→y∈P→R [x,y]):R xs:=bc h fun x hx h=>bc h fun y hy e=>e▸k x y hx hy
end
end Mine
namespace Mine.P
section
variable {C:Nat→CW} (X:Calls C) {n t ai dk:Nat} {Q:PV} {E:PE} {σ:St} {L:Lo} {c:Cells} {S:List Nat} {P:List AV} {a b e g v x y:AV} {l:List (Nat × AV)}
include X
theorem GB (hw:Dt.lookup w=some (.fn fw)) (ha:∃l,σ.objs[ai]?=some (.lst l))
  (h:∀s,Xt σ.cells σ s→C n (.fn fw) [.none,.ob ai] (fun v s=>nw s (.lst [.str 6,v]) Q) (fun s=>nw s (.lst [.str 7,.str 8]) Q) s):C (n+1) (.fn 648) [.str w,.ob ai] Q E σ:=
 X.df (vs:=[.str w,.ob ai]) rfl rfl (ah ⟨rfl,by decide,by decide⟩ (aR fun di s N=>ah rfl (aP (l:=Dt) N.at_ hw (ah trivial (h s N.xt)))))
theorem o8 (hd:L.dk=dk) (H:LI L c S P σ) (hP:0<P.length) {K:PV} (h:∀x s,x∈P→LI L c S P s→Ux L L σ s→s.cells=σ.cells→K (.lv x) s) :
  gW σ L.pl fun l=>sd (Js (.fn 547)) (C (n+1) (.fn 547) [.ob dk,.num l.length] (fun v s=>opt (some L.pl) fun i=>opt v.num? fun n=>vD s i n fun v=>K v s) E σ):=by
 have hl:(P.map V.lv).length<1000000:=cL (f:=V.lv)▸cV H.c.2.2 (by decide)
 refine ax H.pl hl (ah trivial (dm X (n:=n) hd H (nC.mpr (cL (f:=V.lv)▸hP)) fun r s h0 h1 Hs U e=> ?_))
 have hr:r.toNat<P.length:=(um h0).mpr (cL (f:=V.lv)▸h1)
 exact ba (v:=.lv P[r.toNat]) Hs.pl hl h0 (gp.trans (aD (Option.map V.lv) (gm hr))) (h _ s (yK _) Hs U e)
theorem Gz {w:Nat} (hd:L.dk=dk) (ht:L.st=t) (H:LI L c S P σ) (hP:0<P.length)
  (h:∀s i xs,LI L c S P s→Ux L L σ s→s.cells=σ.cells→k8 P w xs→s.objs[i]?=some (.lst (xs.map .lv))→L.fr i→Q (.ob i) s):C (n+2) (.fn 655) [.ob dk,.ob t,.str w] Q E σ:=by
 subst ht
 refine X.df (vs:=[.ob dk,.ob L.st,.str w]) rfl rfl (aP H.st rfl (o8 X (n:=n) hd H hP fun x s1 hx H1 U1 e1=>o8 X (n:=n) hd H1 hP fun y s2 hy H2 U2 e2=> ?_))
 have U:=U1.trans U2
 have e:=e2.trans e1
 have fin:∀ {s3:St} {xs:List AV},LI L c S P s3→Ux L L σ s3→s3.cells=σ.cells→k8 P w xs→nw s3 (.lst (xs.map .lv)) Q:=fun H3 U3 e3 ok=>aR fun i s4 N4=>h s4 i _ (H3.xt N4.xt) (U3.trans (Ux.xt N4.xt)) (N4.c.trans e3) ok N4.at_ (H3.fr N4.gj)
 refine br (fun h1=> ?_) fun h1=>br (fun h2=> ?_) fun h2=>gu (fun h3=> ?_) fun h3=>br (fun h4=> ?_) fun h4=> ?_
 ·exact fin (xs:=[x]) H2 U e (.c1 h1 ⟨x,hx,rfl⟩)
 ·exact ah trivial (dm X (n:=n) hd H2 (by decide) fun r s3 h0 uQ H3 U3 e3=>(pA h0).elim fun k ek=>ek ▸
   fin (xs:=[.num k,x]) H3 (U.trans U3) (e3.trans e) (.c2 h1 ((bE h2).symm▸⟨k,nC.mp (ek▸uQ),x,hx,rfl⟩)))
 ·refine aR fun i s3 N3=>ah trivial (dm X (n:=n) hd (H2.xt N3.xt) (by decide) fun r s4 h0 uQ H4 U4 e4=> ?_)
  refine ax (U4.o N3.at_ (H2.fr N3.gj)).1 (show 2<1000000 from by decide) (ah ⟨Int.add_nonneg (by decide) h0,ub (Int.add_lt_add_left uQ 1) (by decide)⟩ ?_)
  have ok:∀xs,xs=[x]∨xs=[x,y]→k8 P w xs:=fun xs bx=>.c3 h1 h2 ((bE h3).symm▸⟨x,hx,y,hy,bx⟩)
  have U4':=(U.trans (Ux.xt N3.xt)).trans U4
  have e4':=e4.trans (N3.c.trans e)
  have hr:r=0∨r=1:=(Int.lt_or_eq_of_le (Int.le_of_lt_add_one uQ)).imp (fun q=>Int.le_antisymm (Int.le_of_lt_add_one q) h0) id
  exact hr.elim (fun hr=>hr.symm▸fin (xs:=[x]) H4 U4' e4' (ok _ (.inl rfl))) fun hr=>hr.symm▸fin (xs:=[x,y]) H4 U4' e4' (ok _ (.inr rfl))
 ·exact ah trivial (dm X (n:=n) hd H2 (by decide) fun r s3 h0 uQ H3 U3 e3=>gu (fun hr=>ah trivial (dm X (n:=n) hd H3 (by decide) fun q s4 h0 uQ H4 U4 e4=> 
   fin (xs:=[.num q,y]) H4 ((U.trans U3).trans U4) (e4.trans (e3.trans e)) (.c3 h1 h2 ((aW h3).symm▸(bE h4).symm▸⟨_,y,hy,.inr rfl,rfl⟩))))
   fun hr=>fin (xs:=[x,y]) H3 (U.trans U3) (e3.trans e) (.c3 h1 h2 ((aW h3).symm▸(bE h4).symm▸⟨x,y,hy,.inl hx,rfl⟩)))
 ·exact fin (xs:=[x,y]) H2 U e (.c3 h1 h2 ((aW h3).symm▸(aW (wI.mp h4)).symm▸⟨x,hx,y,hy,rfl⟩))
end
end Mine.P
namespace Mine
noncomputable def ws:List Nat:=[9,9,10,11,12,13,14,15,16,17,18,19,20,21,22,23,24,25,26,27,28,29]
noncomputable def OH:List Nat:=[22,23,16,17,14,27,24,29]
noncomputable def sim:List Nat:=[9,10,22,23,11,12,24,25,26,27,28,13,29]
theorem sV {v:AV} (h:v.isNum=true):v.aE=false:=by
 cases v with
 | num=>rfl
 | _=>cases h
end Mine
namespace Mine.P
theorem Pre.pv {c S v} {P:List AV} (H:Pre c S) (hP:∀v∈P,bH S v) (h:v∈P):aL c v:=H.v (hP v h)
theorem Ij (h:v.isNum=true):aL c v:=aL.nc (sV h)
theorem YZ {R:Nat→Prop} (h0:R 9) (h1:R 10) (h2:R 11) (h3:R 12) (h4:R 13) (h5:R 14) (h6:R 15) (h7:R 16) (h8:R 17) (h9:R 18) (h10:R 19) (h11:R 20) (h12:R 21) (QI:R 22) (h14:R 23) (h15:R 24) (h16:R 25) (Wb:R 26) (h18:R 27) (h19:R 28) (h20:R 29):∀w∈ws,R w:=
 cc.mpr ⟨h0,cc.mpr ⟨h0,cc.mpr ⟨h1,cc.mpr ⟨h2,cc.mpr ⟨h3,cc.mpr ⟨h4,cc.mpr ⟨h5,cc.mpr ⟨h6,cc.mpr ⟨h7,cc.mpr ⟨h8,cc.mpr ⟨h9,cc.mpr ⟨h10,cc.mpr ⟨h11,cc.mpr ⟨h12,cc.mpr ⟨QI,cc.mpr ⟨h14,cc.mpr ⟨h15,cc.mpr ⟨h16,cc.mpr ⟨Wb,cc.mpr ⟨h18,cc.mpr ⟨h19,j9.mpr h20⟩⟩⟩⟩⟩⟩⟩⟩⟩⟩⟩⟩⟩⟩⟩⟩⟩⟩⟩⟩⟩
section
variable {C:Nat→CW} (X:Calls C) {n t ai dk:Nat} {Q:PV} {E:PE} {σ:St} {L:Lo} {c:Cells} {S:List Nat} {P:List AV} {a b e g v x y:AV} {l:List (Nat × AV)}
include X
def Res (C:Nat→CW) (c:Cells) (S:List Nat) (w:Nat) (xs:List AV):Prop:=∃fw o c',Dt.lookup w=some (.fn fw)∧Step C c S w fw (if sim.contains w then 603 else 615) xs o c'
omit X in
theorem cy (e:Dt.lookup w=some (.fn fw)) (h:∃o c',Step C c S w fw (if sim.contains w then 603 else 615) xs o c'):Res C c S w xs:=⟨fw,h.imp fun O h=>h.imp fun O h=>⟨e,h⟩⟩
def LP (c:Cells) (xs:List AV):Prop:=∀x y,xs=[x,y]→∀i,x= .cell i→¬Rc c y i
def UA (c:Cells) (xs:List AV):Prop:=∀x y,xs=[x,y]→∀l e,Chain c x l e→∀z∈l,¬Rc c y z.1
def Cse (C:Nat→CW) (c:Cells) (S:List Nat) (P:List AV) (w:Nat):Prop:=∀xs,k8 P w xs→(w∉OH→c.length≤24)→(w=11∨w=12→LP c xs)→(w=13→UA c xs)→Res C c S w xs
theorem EB {w:Nat} {xs:List AV} (H:Pre c S) (hP:∀v∈P,bH S v) (hw:w∈ws) (bx:k8 P w xs) (hl:c.length≤24∨w∈OH) (sO:w=11∨w=12→LP c xs) (WM:w=13→UA c xs):Res C c S w xs:=
 have hv:∀ {v},v∈P→aL c v:=fun h=>H.pv hP h
 have ZV:∀ {v},v∈P∨v.isNum=true→aL c v:=fun h=>h.elim hv Ij
 YZ (R:=Cse C c S P)
  (fun xs h hl O O=>A2.k h fun x y hx hy=>cy rfl (IQ X H (hl (by decide)) (hv hx) (hv hy)))
  (fun xs h hl O O=>bc h fun x hx h=>bc h fun y hy e=>cy rfl (IX X H (hl (by decide)) (e.elim (fun e=>e▸j9.mpr (hv hx)) fun e=>e▸cc.mpr ⟨hv hx,j9.mpr (hv hy)⟩) (e.elim (fun e=>e▸(by decide:1≤24)) fun e=>e▸(by decide:2≤24))))
  (fun xs h hl hs O=>A2.k (R:=fun xs=>LP c xs→Res C c S 11 xs) h (fun x y hx hy hs=>cy rfl (zU X H (hl (by decide)) (hv hx) (hv hy) (hP y hy) (hs x y rfl))) (hs (.inl rfl)))
  (fun xs h hl hs O=>A2.k (R:=fun xs=>LP c xs→Res C c S 12 xs) h (fun x y hx hy hs=>cy rfl (zV X H (hl (by decide)) (hv hx) (hv hy) (hP y hy) (hs x y rfl))) (hs (.inr rfl)))
  (fun xs h hl O hs=>A2.k (R:=fun xs=>UA c xs→Res C c S 13 xs) h (fun x y hx hy hs=>cy rfl (EA X H (hl (by decide)) (hv hx) (hv hy) (hP y hy) (hs x y rfl))) (hs rfl))
  (fun xs h hl O O=>As.k h fun x y hy hx=>cy rfl (IV X H (hv hy) (hP y hy)))
  (fun xs h hl O O=>As.k h fun x y hy hx=>cy rfl (IZ X H (hl (by decide)) (hv hy)))
  (fun xs h hl O O=>As.k h fun x y hy hx=>cy rfl (IY X H (hv hy)))
  (fun xs h hl O O=>As.k h fun x y hy hx=>cy rfl (zR X H (ZV hx) (hv hy)))
  (fun xs h hl O O=>As.k h fun x y hy hx=>cy rfl (Ey X H (hv hy) (.inl ⟨rfl,rfl,rfl⟩)))
  (fun xs h hl O O=>As.k h fun x y hy hx=>cy rfl (Ez X H (ZV hx) (hv hy)))
  (fun xs h hl O O=>As.k h fun x y hy hx=>cy rfl (Ey X H (hv hy) (.inr ⟨rfl,rfl,rfl⟩)))
  (fun xs h hl O O=>A1.k h fun x hx=>cy rfl (IU X H (hl (by decide)) (hv hx)))
  (fun xs h hl O O=>A1.k h fun x hx=>cy rfl (Ov X H (hv hx)))
  (fun xs h hl O O=>A1.k h fun x hx=>cy rfl (Ow X H (hv hx)))
  (fun xs h hl O O=>Ak.k h fun k x O hx=>cy rfl (Ox X H (hv hx)))
  (fun xs h hl O O=>Ak.k h fun k x O hx=>cy rfl (zS X H (hv hx)))
  (fun xs h hl O O=>Ak.k h fun k x hk hx=>cy rfl (I1 X H (hl (by decide)) (cV hk (by decide)) (hv hx)))
  (fun xs h hl O O=>A1.k h fun x hx=>cy rfl (IW X H (hv hx)))
  (fun xs h hl O O=>A1.k h fun x hx=>cy rfl (vX X H (hl (by decide)) (hv hx)))
  (fun xs h hl O O=>A1.k h fun x hx=>cy rfl (zT X H (hv hx))) w hw xs bx (fun h=>hl.resolve_right h) sO WM
structure LG (L:Lo) (c:Cells) (S:List Nat) (P:List AV) (k:Nat) (σ:St):Prop where
 li:LI L c S P σ
 ce:σ.cells=c
 pre:Pre c S
 pl:∀v∈P,bH S v
 n:0<P.length∧P.length≤k
noncomputable abbrev K8 (dk t wl:Nat) (w:Option V) (as:Option V):aO:=[some (.ob dk),some (.ob t),some (.ob wl),w,as,none,none,none,none,none,none,none,none,none,none,none,none,none]
theorem DT (U3:Ux L L s s3) (H3:LI L c S P s3) (e3:s3.cells=c') (ha:s.objs[ai]?=some (.lst (xs.map .lv))) (hf:L.fr ai) (nM:Step C c S w fw (if sim.contains w then 603 else 615) xs o c') (N4:f6 s3 s4 tk (.lst tl))
  (h:∀s6 L' si,LI L' c' S P s6→Ux L L' s s6→s6.cells=c'→s6.objs[tk]?=some (.lst tl)→qB (C (n+139)) (aH.drop 9) [some (.ob dk),some (.ob L.st),some (.ob wl),some (.str w),some (.ob ai),some (.ob tk),some (.ob si),some (oV o),none,none,none,none,none,none,none,none,none,none] (cI Q) (fun O=>E) s6) :
  qB (C (n+139)) (aH.drop 7) [some (.ob dk),some (.ob L.st),some (.ob wl),some (.str w),some (.ob ai),some (.ob tk),none,none,none,none,none,none,none,none,none,none,none,none] (cI Q) (fun O=>E) s4:=by
 refine aR fun si s5 N5=>M8 (bs:=sim) N5.at_ rfl ?_
 have U5:Ux L L s s5:=(U3.trans (Ux.xt N4.xt)).trans (Ux.xt N5.xt)
 have UL:=nM.la (n:=n+9) (E:=E) rfl ((H3.xt N4.xt).xt N5.xt) (U5.o ha hf).1 hf (Q:=fun v s=>qB (C (n+139)) (aH.drop 9) [some (.ob dk),some (.ob L.st),some (.ob wl),some (.str w),some (.ob ai),some (.ob tk),some (.ob si),some v,none,none,none,none,none,none,none,none,none,none] (cI Q) (fun O=>E) s) fun s6 L' H6 U6 e6=>
  h s6 L' si H6 (U5.trans U6) (e6.trans (N5.c.trans (N4.c.trans e3))) (U6.o (N5.xt.o N4.at_) (H3.fr N4.gj)).1
 cases hb:sim.contains w with
 | true=>rw [hb] at UL;exact ah trivial UL
 | false=>rw [hb] at UL;exact ah trivial UL
theorem NV (ht:L.st=t) (G:LG L c S P k s) (hk:k<1000) (bx:∀v∈xs,bH S v) (ha:s.objs[ai]?=some (.lst (xs.map .lv))) (hf:L.fr ai) (hn:xs.length<10) (hw:Dt.lookup w=some (.fn fw)) (nM:Step C c S w fw (if sim.contains w then 603 else 615) xs o c')
  (h:∀s' L' c' S' P',LG L' c' S' P' (k+1) s'→Ux L L' s s'→Q (.bool true) s'):qB (C (n+139)) (aH.drop 6) (K8 dk t wl (some (.str w)) (some (.ob ai))) (cI Q) (fun O=>E) s:=by
 subst ht
 have hl:(xs.map V.lv).length<1000000:=cL (f:=V.lv)▸cV hn (by decide)
 have hp:=cY G.n.2 hk
 refine ax ha hl (ah (by rw [cL];exact hl) (cC (fun z=>[.lv z]) (fun r zs s'=>s=s'∧zs++r.map V.av=xs.map V.av∧∀z∈r,z∈xs) (fun O O O H=>H.1▸ha) (fun zs s' H1=>H1.1▸(gq zs).symm.trans H1.2.1▸ ?_) (fun z r zs s' K' H1 hN O=>H1.1▸ah trivial (AU (n:=n+138) X rfl G.li (bx z (H1.2.2 z (.head _))) (hN _ _ ⟨rfl,(fA zs [V.av z] _).trans H1.2.1,fun y hy=>H1.2.2 y (.tail _ hy)⟩))) dj ⟨rfl,rfl,fun z h=>h⟩))
 refine aR fun ti s1 N1=>ah trivial (GB (n:=n+138) X hw ⟨_,N1.at_⟩ fun s2 X2=>
  have e2:=X2.c.trans (N1.c.trans G.ce)
  have U2:=(Ux.xt N1.xt).trans (Ux.xt X2)
  have H2:=(G.li.xt N1.xt).xt X2
  nM.pr (n:=n+118) e2 (X2.o N1.at_) (fun v ho s3 X3=>aR fun tk s4 N4=>DT X (U2.trans (Ux.xt X3)) (H2.xt X3) X3.c ha hf nM N4 fun s6 L' si H6 U6 e6 Vj=> ?_) fun ho s3 X3=>aR fun tk s4 N4=>DT X (U2.trans (Ux.xt X3)) (H2.xt X3) (X3.c.trans (nM.no ho).symm) ha hf nM N4 fun s6 L' si H6 U6 e6 Vj=> ?_)
 ·rw [ho]
  refine bg Vj (bO Vj (ah trivial (fG (n:=n+138) X U6.st H6 e6 nM.gi.ok (nM.ov v ho) nM.si nM.cl fun s7 S7 H7 U7 e7 I7 i7 C7 v7=> ?_)))
  have MU:(P.map V.lv).length<1000000:=cL (f:=V.lv)▸cV hp (by decide)
  refine aP (U6.st▸H7.st) rfl (eJ H7.pl rfl (ax H7.pl MU (ah trivial (rX (n:=n+137) X U6.st (cY nM.gi.len (by decide)) (H7.SD (v:=v) (cV hp (by decide))) e7 nM.gi.ok I7 C7 fun s8 S8 H8 U8 e8 I8 i8 C8=>
   h s8 L' c' S8 _ ⟨H8,e8,⟨nM.gi,I8,C8⟩,fun u hu=>(cU.mp hu).elim (fun hu i q=>i8 i (i7 i (G.pl u hu i q))) fun hu i q=>i8 i (v7 i (dX.mp hu▸q)),bK (as:=P) (bs:=[v])▸⟨pC _,ew G.n.2⟩⟩ ((U6.trans U7).trans ((Ux.set (.tail _ (.tail _ (.tail _ (.tail _ (.tail _ (.head _))))))).trans U8))))))
 ·have eo:=nM.no ho
  rw [ho]
  refine aR fun k7 s7 N7=>⟨_,_,_,_,_,_,rfl,rfl,N7.xt.o Vj,N7.at_,ah trivial (rX (n:=n+137) X U6.st (cY nM.gi.len (by decide)) (H6.xt N7.xt) (N7.c.trans e6) nM.gi.ok nM.si nM.cl fun s8 S8 H8 U8 e8 I8 i8 C8=>
   h s8 L' c' S8 P ⟨H8,e8,⟨nM.gi,I8,C8⟩,fun u hu i q=>i8 i (G.pl u hu i q),G.n.1,fS G.n.2⟩ ((U6.trans (Ux.xt N7.xt)).trans U8))⟩
end
end Mine.P
namespace Mine
theorem qC [Decidable p] (h:if p then A else B):A∨B:=if q:p then .inl (Eq.mp (bE q) h) else .inr (Eq.mp (aW q) h)
theorem rf (h1:bH S x) (h2:bH S y):(∀v∈[x,y],bH S v)∧[x,y].length<10:=⟨cc.mpr ⟨h1,j9.mpr h2⟩,(by decide:2<10)⟩
theorem DA (h1:bH S x):(∀v∈[x],bH S v)∧[x].length<10:=⟨j9.mpr h1,(by decide:1<10)⟩
theorem k8.in_ (h:k8 P w xs) (hP:∀v∈P,bH S v):(∀v∈xs,bH S v)∧xs.length<10:=
 (qC h).elim (fun h=>A1.k (R:=fun xs=>(∀v∈xs,bH S v)∧xs.length<10) h fun x hx=>DA (hP x hx)) fun h=>(qC h).elim (fun h=>Ak.k (R:=fun xs=>(∀v∈xs,bH S v)∧xs.length<10) h fun k x O hx=>rf (bH.nc rfl) (hP x hx)) fun h=>(qC h).elim
  (fun h=>bc h fun x hx h=>bc h fun y hy e=>e.elim (fun e=>e▸DA (hP x hx)) fun e=>e▸rf (hP x hx) (hP y hy))
  fun h=>(qC h).elim (fun h=>As.k (R:=fun xs=>(∀v∈xs,bH S v)∧xs.length<10) h fun x y hy hx=>rf (hx.elim (hP x) fun h=>bH.nc (sV h)) (hP y hy)) fun h=>A2.k (R:=fun xs=>(∀v∈xs,bH S v)∧xs.length<10) h fun x y hx hy=>rf (hP x hx) (hP y hy)
theorem LB {l:List Nat} {r:Int} (h0:0≤r) (h1:r<(l.length:Int)):∃w,w∈l∧(l.map V.str)[r.toNat]?=some (.str w):=
 have hr:=(um h0).mpr h1
 ⟨l[r.toNat],yK _,gp.trans (aD (Option.map V.str) (gm hr))⟩
theorem vS (e:d7=fr) (h:qB C m fr K E s):ID (rB .nil) C (ID (rB m) C K E) E .next d7 s:=e▸h
end Mine
namespace Mine.P
section
variable {C:Nat→CW} (X:Calls C) {n t ai dk:Nat} {Q:PV} {E:PE} {σ:St} {L:Lo} {c:Cells} {S:List Nat} {P:List AV} {a b e g v x y:AV} {l:List (Nat × AV)}
include X
abbrev OX (L:Lo) (k:Nat) (s:St) (Q:PV):Prop:=∀s' L' c' S' P',LG L' c' S' P' (k+1) s'→Ux L L' s s'→Q (.bool true) s'
theorem LG.xt {k s} (G:LG L c S P k σ) (x:Xt σ.cells σ s):LG L c S P k s:=⟨G.li.xt x,x.c.trans G.ce,G.pre,G.pl,G.n⟩
theorem NT (ht:L.st=t) (G:LG L c S P k s) (hk:k<1000) (ha:s.objs[ai]?=some (.lst (xs.map .lv))) (hf:L.fr ai) (hw:w∈ws) (bx:k8 P w xs) (hl:c.length≤24∨w∈OH) (sO:w=11∨w=12→LP c xs) (WM:w=13→UA c xs)
  (h:OX L k s Q):qB (C (n+139)) (aH.drop 6) (K8 dk t wl (some (.str w)) (some (.ob ai))) (cI Q) (fun O=>E) s:=by
 refine Uw (EB X G.pre G.pl hw bx hl sO WM) fun fw o c' hd nM=> ?_
 have:=bx.in_ G.pl
 exact NV X ht G hk this.1 ha hf this.2 hd nM h
theorem wR (hx:x∈P):k8 P 29 [x]:=⟨x,hx,rfl⟩
theorem wU (hw:w=11∨w=12∨w=13) (h:k8 P w xs):A2 P xs:=hw.elim (fun e=>(e▸h:k8 P 11 xs)) fun hw=>hw.elim (fun e=>(e▸h:k8 P 12 xs)) fun e=>(e▸h:k8 P 13 xs)
theorem NS (ht:L.st=t) (G:LG L c S P k s) (hk:k<1000) (ha:s.objs[ai]?=some (.lst (xs.map .lv))) (hf:L.fr ai) (hw:w∈ws) (bx:k8 P w xs) (hl:c.length≤24∨w∈OH) (sO:w=11∨w=12→LP c xs)
  (h:OX L k s Q):qB (C (n+139)) (aH.drop 5) (K8 dk t wl (some (.str w)) (some (.ob ai))) (cI Q) (fun O=>E) s:=by
 subst ht
 refine gu (fun QI=> ?_) fun QI=>NT X rfl G hk ha hf hw bx hl sO (fun q=>absurd q QI) h
 subst QI
 refine A2.k (R:=fun xs=>s.objs[ai]?=some (.lst (xs.map .lv))→k8 P 13 xs→(13=11∨13=12→LP c xs)→qB (C (n+139)) (aH.drop 5) (K8 dk L.st wl (some (.str 13)) (some (.ob ai))) (cI Q) (fun O=>E) s) (wU X (.inr (.inr rfl)) bx) (fun x y hx hy ha bx sO=> ?_) ha bx sO
 refine b8 (G.pre.ch (G.pre.pv G.pl hx)) fun l e hc hn=> ?_
 have Q8:l.length<900000:=cY hn (by decide)
 refine bg ha (ah trivial (cx X (n:=n+138) rfl G.li hc Q8 fun s1 u i j X1 f1 f2 O g1 g2 g3=>vE g3 (show 3<1000000 from by decide) (by decide) rfl (ax g2 (ml Q8) (ah (Pk Q8) ?_))))
 refine cC (fun z:Nat × AV=>[.lv (.cell z.1)]) (fun r zs s'=>(∃done,done++r=l∧zs.length≤done.length∧(zs=[]→∀z∈done,¬Rc c y z.1))∧Xt s.cells s s'∧s'.objs[j]?=some (.lst (l.map fun x=>.lv (.cell x.1)))) (fun O O O H=>H.2.2) (fun zs s' H1=>iL H1.1 fun done e1 e2 e3=> ?_) (fun z r zs s' K' H1 hN hS=>iL H1.1 fun done e1 e2 e3=> ?_) dj ⟨⟨[],rfl,bz _,fun O z h=>absurd h cS⟩,X1,g2⟩
 ·have ed:=(gq done).symm.trans e1
  refine aR fun k2 s2 N2=>aR fun k3 s3 N3=>ax N3.at_ (show 0<1000000 from by decide) (ax (N3.xt.o N2.at_) (cY e2 (ed▸cV Q8 (by decide))) ?_)
  have X3:=(H1.2.1.to N2.xt).to N3.xt
  have G3:=LG.xt X G X3
  have h3:OX L k s3 Q:=fun s' L' c' S' P' G' U'=>h s' L' c' S' P' G' ((Ux.xt X3).trans U')
  induction zs with
  | nil=>exact NT X rfl G3 hk (X3.o ha) hf hw bx hl sO (fun O x' y' q l' e' cq z hz=>(lC (lC q).2).1▸e3 rfl z (ed.symm▸(hc.det ((lC q).1.symm▸cq)).1.symm▸hz)) h3
  | cons z zs=>
   exact ax (X3.o ha) (show 2<1000000 from by decide) (ah ⟨by decide,by decide⟩ (aR fun k4 s4 N4=>NT (xs:=[x]) X rfl (LG.xt X G3 N4.xt) hk N4.at_ (G3.li.fr N4.gj) (by decide) (wR X hx) (.inr (by decide)) (fun q=>absurd q (by decide)) (fun q=>absurd q (by decide)) fun s' L' c' S' P' G' U'=>h3 s' L' c' S' P' G' ((Ux.xt N4.xt).trans U')))
 ·have ed:(done++[z])++r=l:=(fA done [z] r).trans e1
  have el:(done++[z]).length=done.length+1:=bK
  refine bO (H1.2.1.o ha) (ah trivial (mu X (n:=n+138) rfl (G.li.xt H1.2.1) G.pre.gi.ok (G.pre.pv G.pl hy) fun b s3 X3 hb=>br (fun hbt=>hN _ _ ⟨⟨done++[z],ed,el.symm▸(bK (as:=zs) (bs:=[V.num 1])).symm▸ew e2,fun q=>absurd q (List.concat_ne_nil _ _)⟩,H1.2.1.to X3,X3.o H1.2.2⟩)
   fun Wh=>hS _ ⟨⟨done++[z],ed,el.symm▸fS e2,fun q z' Rn=>(cU.mp Rn).elim (e3 q z') fun Rn=>dX.mp Rn▸hb Wh _ rfl⟩,H1.2.1.to X3,X3.o H1.2.2⟩))
theorem SR (hd:L.dk=dk) (ht:L.st=t) (G:LG L c S P k s) (hk:k<1000) (hw:w∈ws) (hl:c.length≤24∨w∈OH)
  (h:OX L k s Q):qB (C (n+139)) (aH.drop 3) (K8 dk t wl (some (.str w)) none) (cI Q) (fun O=>E) s:=by
 subst ht
 refine ah trivial (Gz X (n:=n+137) hd rfl G.li G.n.1 fun s1 ai xs H1 U1 e1 bx ha hf=> ?_)
 have G1:LG L c S P k s1:=⟨H1,e1.trans G.ce,G.pre,G.pl,G.n⟩
 have h1:OX L k s1 Q:=fun s' L' c' S' P' G' U'=>h s' L' c' S' P' G' (U1.trans U')
 refine br (fun hb=> ?_) fun hb=>NS X rfl G1 hk ha hf hw bx hl (fun q=>q.elim (fun e=>absurd (e▸hb) (by decide)) fun e=>absurd (e▸hb) (by decide)) h1
 have hw3:w=11∨w=12∨w=13:=(cF.mp (yG.mp hb)).imp id fun h=>(cF.mp h).imp id dX.mp
 refine A2.k (R:=fun xs=>s1.objs[ai]?=some (.lst (xs.map .lv))→k8 P w xs→_) (wU X hw3 bx) (fun x y hx hy ha bx=> ?_) ha bx
 refine bO ha (bg ha (ah trivial (mu X (n:=n+138) rfl H1 G.pre.gi.ok (G.pre.pv G.pl hy) fun b s3 X3 hbb=>br (fun hbt=> ?_) fun Wh=> ?_)))
 ·refine ax (X3.o ha) (show 2<1000000 from by decide) (ah ⟨by decide,by decide⟩ (aR fun k4 s4 N4=> ?_))
  have G3:=LG.xt X G1 X3
  exact vS (m:=aH.drop 5) (fr:=K8 dk L.st wl (some (.str 29)) (some (.ob k4))) rfl (NS (n:=n) (dk:=dk) (wl:=wl) (E:=E) (w:=29) (xs:=[x]) (Q:=Q) X rfl (LG.xt X G3 N4.xt) hk N4.at_ (G3.li.fr N4.gj) (by decide) (wR X hx) (.inr (by decide)) (fun q=>absurd q (by decide)) fun s' L' c' S' P' G' U'=>h1 s' L' c' S' P' G' (((Ux.xt X3).trans (Ux.xt N4.xt)).trans U'))
 ·exact NS X rfl (LG.xt X G1 X3) hk (X3.o ha) hf hw bx hl (fun O x' y' q i hi=>(lC (lC q).2).1▸hbb Wh i ((lC q).1.trans hi)) fun s' L' c' S' P' G' U'=>h1 s' L' c' S' P' G' ((Ux.xt X3).trans U')
theorem AS {k:Nat} (hd:L.dk=dk) (ht:L.st=t) (G:LG L c S P k σ) (hk:k<1000) (h:OX L k σ Q):C (n+140) (.fn 660) [.ob dk,.ob t] Q E σ:=by
 subst ht
 refine X.dc (n:=n+139) (vs:=[.ob dk,.ob L.st]) rfl rfl (aR fun wl s1 N1=>ax N1.at_ (by decide) (ah trivial (dm X (n:=n+138) hd (G.li.xt N1.xt) (by decide) fun r s2 h0 h1 H2 U2 e2=> ?_)))
 have fw:=G.li.fr N1.gj
 have g2:s2.objs[wl]?=some (.lst (ws.map V.str)):=(U2.o N1.at_ fw).1
 have e2':s2.cells=c:=e2.trans (N1.c.trans G.ce)
 have U:Ux L L σ s2:=(Ux.xt N1.xt).trans U2
 refine bc (LB (l:=ws) h0 h1) fun w hw Wx=>ba (v:=.str w) g2 (by decide) h0 Wx (aP H2.st rfl (ax H2.lc (ml (H2.n▸H2.c.1)) (gu (fun hg=> ?_) fun hg=> ?_)))
 ·refine aR fun w8 s3 N3=>ah trivial (dm X (n:=n+138) hd (H2.xt N3.xt) (by decide) fun q s4 h2 h3 H4 U4 e4=>bc (LB (l:=OH) h2 h3) fun w' hm hg4=> ?_)
  exact ba (v:=.str w') (U4.o N3.at_ (H2.fr N3.gj)).1 (by decide) h2 hg4 (vS (m:=aH.drop 3) (fr:=K8 dk L.st wl (some (.str w')) none) rfl (SR X hd rfl ⟨H4,e4.trans (N3.c.trans e2'),G.pre,G.pl,G.n⟩ hk ((by decide:∀w∈OH,w∈ws) _ hm) (.inr hm) fun s' L' c' S' P' G' U'=>h s' L' c' S' P' G' (((U.trans (Ux.xt N3.xt)).trans U4).trans U')))
 ·exact vS (m:=aH.drop 3) (fr:=K8 dk L.st wl (some (.str w)) none) rfl (SR X hd rfl ⟨H2,e2',G.pre,G.pl,G.n⟩ hk hw (.inl (H2.n▸cL (f:=V.ob)▸ry.mp (Int.not_lt.mp hg))) fun s' L' c' S' P' G' U'=>h s' L' c' S' P' G' (U.trans U'))
end
end Mine.P
namespace Mine
theorem Chain.app {v l e} (h:Chain c v l e):Chain (c++l') v l e:=by
 induction h with
 | nil=>exact .nil
 | num=>exact .num _
 | cell hx _ ih=>exact .cell ((ow (bl.mp hx).1).trans hx) ih
theorem vI:∃l,Chain (made c as .nil).1 (made c as .nil).2 l .nil∧l.map (·.2)=as:=by
 induction as with
 | nil=>exact ⟨[],.nil,rfl⟩
 | cons a as ih=>exact bc ih fun l h e=>⟨_::l,.cell (a:=a) (d:=(made c as .nil).2) nD h.app,aD (a:: ·) e⟩
end Mine
namespace Mine.P
section
variable {C:Nat→CW} (X:Calls C) {n t si dk:Nat} {Q:PV} {E:PE} {σ:St} {L:Lo} {c:Cells} {S:List Nat} {P:List AV} {a b e g v x y:AV} {l:List (Nat × AV)}
include X
theorem GA (hn:ns.length<1000000) (h:∀s dk d0 (D:List Int),Xt σ.cells σ s→dk≠d0→s.objs[dk]?=some (.lst [.ob d0,.num 0])→s.objs[d0]?=some (.lst (D.map V.num))→0<D.length∧D.length<1000000→Q (.ob dk) s):C (n+1) (.fn 540) [.sc ns] Q E σ:=by
 have Q8:(ns.map V.num).length<1000000:=cL (f:=V.num)▸hn
 have ht:((ns.map V.num).take (40:Int).toNat).length<1000000:=cY (List.length_take_le 40 _) (by decide)
 refine X.df (vs:=[.sc ns]) rfl rfl (ah ⟨by decide,by decide,hn⟩ (aR fun k1 s1 N1=>ax N1.at_ ht (ah ((cL ..).symm▸ht) ?_)))
 refine cC (fun z:Int=>[.num z]) (fun r zs s'=>(∃D:List Int,D.map V.num=zs∧D.length+r.length≤40)∧Xt σ.cells σ s'∧s'.objs[k1]?=some (.lst ((ns.map V.num).take (40:Int).toNat))) (fun O O O H=>H.2.2) (fun zs s' H1=>bc H1.1 fun D eD hD=> ?_) (fun z r zs s' K' H1 hN O=>bc H1.1 fun D eD hD=> ?_) (l:=ns.take 40) (by rw [←List.map_take,dj];rfl) ⟨⟨[],rfl,aN (bT (rt _)) (List.length_take_le 40 _)⟩,N1.xt,N1.at_⟩
 ·have hz:zs.length<900000:=eD▸(cL (f:=V.num)).symm▸cY hD (by decide)
  refine aR fun k2 s2 N2=>ah hn (aR fun k3 s3 N3=>ax (N3.xt.o N2.at_) (cV hz (by decide)) (ax N3.at_ (show 1<1000000 from by decide) (ah (cV (uz hz) (by decide)) (aR fun k4 s4 N4=>aR fun k5 s5 N5=> ?_))))
  exact h s5 k5 k4 (D++[(ns.length:Int)+5]) ((((H1.2.1.to N2.xt).to N3.xt).to N4.xt).to N5.xt) (fun e=>fg N4.at_ (e▸N5.gj)) N5.at_ ((N5.xt.o N4.at_).trans (aD (fun z=>some (Ob.lst z)) ((aD (· ++[V.num ((ns.length:Int)+5)]) eD.symm).trans (bY (f:=V.num) (l₁:=D) (l₂:=[(ns.length:Int)+5])).symm)))
   (bK (as:=D) (bs:=[(ns.length:Int)+5])▸⟨pC _,cY (ew hD) (by decide)⟩)
 ·exact ah (by decide) (hN _ _ ⟨⟨D++[(if z<0 then -z else z) % 1000003],bY.trans (aD (· ++[V.num ((if z<0 then -z else z) % 1000003)]) eD),bK (as:=D) (bs:=[(if z<0 then -z else z) % 1000003])▸aN (bT (FH _ _)) hD⟩,H1.2⟩)
theorem zy (hd:L.dk=dk) (ht:L.st=t) (G:LG L c S P k σ) (hk:k<100) (hl:c.length≤20) 
  (hK:∀s L' c' S' P' j5 j6,LG L' c' S' P' (k+1) s→Ux L L' σ s→c'.length≤c.length+3→K .next [a0,some (.ob dk),some (.ob t),some (.num q),j4,j5,j6,none,none,none,none,none,none,none,none] s) (hj:j3=some (.num q)) :
  rB (.cons (.asg 5 (.op .call (.cons (.g (.fn 575)) (.cons (.loc 2) (.cons (.comp [none,none,none,some 1] [1] (.op .tlv (.cons (.k (.str 1)) (.cons (.op .call (.cons (.g (.fn 547)) (.cons (.loc 3) (.cons (.k (.num 3)) .nil)))) .nil))) (.Pn (.op .add (.cons (.k (.num 1)) (.cons (.op .call (.cons (.g (.fn 547)) (.cons (.loc 1) (.cons (.k (.num 3)) .nil)))) .nil)))) .nil) (.cons (.op .tlv (.cons (.k (.str 2)) .nil)) .nil)))))) (.cons (.uV 6 (.comp [none,none] [1] (.op .idxB (.cons (.loc 1) (.cons (.k (.num 1)) .nil))) (.exp (.op .idxT (.cons (.op .call (.cons (.g (.fn 561)) (.cons (.loc 2) (.cons (.loc 5) .nil)))) (.cons (.k (.num 0)) .nil)))) .nil)) (.cons (.ifs (.not (.op .call (.cons (.g (.fn 627)) (.cons (.loc 2) (.cons (.op .call (.cons (.g (.fn 298)) (.cons (.k .none) (.cons (.loc 6) .nil)))) (.cons (.loc 5) .nil)))))) (.cons (.ret (.k (.bool false))) .nil) .nil) (.cons (.exp (.gG .app (.op .idxS (.cons (.loc 2) (.cons (.k (.str 5)) .nil))) (.cons (.loc 5) .nil))) .nil))))
   (C (n+20)) [a0,some (.ob dk),some (.ob t),j3,j4,j5,j6,none,none,none,none,none,none,none,none] K (fun O=>E) σ:=by
 subst ht hj
 have hp:=cY G.n.2 hk
 refine ah trivial (dm X (n:=n+19) hd G.li (by decide) fun r s1 h0 h1 H1 U1 e1=>(pA h0).elim fun m em=> ?_)
 have hm:m<3:=nC.mp (em▸h1)
 refine oZ (i:=1+m) (aD (1+ ·) em) (ah (cV (wx hm 1) (by decide)) (ah (by rw [qY,cL,uK];exact cV (wx hm 1) (by decide)) ?_))
 refine cC (fun z:Nat=>[.num (z:Int)]) (fun r zs s'=>LI L c S P s'∧Ux L L σ s'∧s'.cells=c∧∃za:List AV,za.map V.lv=zs∧(za.length+r.length≤3∧∀a∈za,∃k:Int,a= .num k)) (fun O O O O=>trivial) (fun zs s' H2=>EX H2 fun H2 U2 e2 za ez hz=> ?_) (fun z r zs s' K' H2 hN O=>EX H2 fun H2 U2 e2 za ez hz=> ?_) (l:=List.range (1+m)) rfl
  ⟨H1,U1,e1.trans G.ce,[],rfl,aN (bT ((rt _).trans (uK.trans (fy 1 m)))) hm,fun a h=>absurd h cS⟩
 case refine_2=>
  exact ah trivial (dm X (n:=n+19) hd H2 (by decide) fun r' s3 O O H3 U3 e3=>hN _ _ ⟨H3,U2.trans U3,e3.trans e2,za++[.num r'],bY.trans (aD (· ++[V.lv (.num r')]) ez),bK (as:=za) (bs:=[.num r'])▸aN (bT (FH _ _)) hz.1,fun a h=>(cU.mp h).elim (hz.2 a) fun h=>⟨r',dX.mp h⟩⟩)
 have hb:c.length+za.length≤23:=ka hl hz.1
 refine aR fun ti s3 N3=>ah trivial (gP X (n:=n+18) (as:=za) (e:=.nil) rfl (H2.xt N3.xt) (ez▸N3.at_) (cY hb (by decide)) fun s4 L4 H4 U4 e4=> ?_)
 refine Uu (gS (as:=za) (e:=.nil) G.pre.gi (aN hl (by decide)) (aL.nc rfl) (fun a ha=>(hz.2 a ha).elim fun k e=>aL.nc (e▸rfl)) (aN hz.1 (by decide))) fun G4 ov lx ex=> ?_
 refine bc (vI (c:=c) (as:=za)) fun l hc O9=> ?_
 have hll:l.length≤3:=aN (bT ((cL (f:=fun z:Nat × AV=>z.2)).symm.trans (aD List.length O9))) hz.1
 have WJ:l.length<900000:=cY hll (by decide)
 have U:Ux L L4 σ s4:=(U2.trans (Ux.xt N3.xt)).trans U4
 have c4:s4.cells=c:=e4.trans (N3.c.trans e2)
 refine ah trivial (cx X (n:=n+19) U4.st H4 hc WJ fun s5 u i j X5 f1 f2 O g1 g2 g3=>vE g3 (show 3<1000000 from by decide) (by decide) rfl (ax g1 (ml WJ) (ah (Pk WJ) ?_)))
 refine cC (fun z:Nat × AV=>[.lv z.2]) (fun r zs s'=>s5=s'∧zs++r.map cv=l.map cv∧∀z∈r,z∈l) (fun O O O H=>H.1▸g1) (fun zs s' H6=>H6.1▸(gq zs).symm.trans H6.2.1▸ ?_) (fun z r zs s' K' H6 hN O=>H6.1▸ ?_) dj ⟨rfl,rfl,fun z h=>h⟩
 case refine_2=>
  refine (hz.2 z.2 (O9▸ru (f:=fun z:Nat × AV=>z.2) (H6.2.2 z (.head _)))).elim fun k ek=> ?_
  have q:=wQ (f:=cv) H6.2.1
  rw [cv,ek] at q
  rw [ek]
  exact hN _ _ ⟨rfl,q,fun z hz=>H6.2.2 z (.tail _ hz)⟩
 refine aR fun q6 s6 N6=>ah trivial (AR X (n:=n+17) (as:=za) (N6.at_.trans (aD (fun z=>some (Ob.lst z)) (qL.trans (aD (List.map V.av) O9)))) (ml (cY hz.1 (by decide))) fun s7 X7=> ?_)
 have c6:s6.cells=c:=N6.c.trans (X5.c.trans c4)
 rw [c6] at X7 ⊢
 have H7:=((H4.xt X5).xt N6.xt).xt X7
 have U7:Ux L L4 σ s7:=((U.trans (Ux.xt X5)).trans (Ux.xt N6.xt)).trans (Ux.xt X7)
 refine ah trivial (fG X (n:=n+19) U4.st H7 X7.c G4.ok ov (ex▸G.pre.si.app) (ex▸G.pre.cl.app G.pre.si) fun s8 S8 H8 U8 e8 I8 i8 C8 v8=> ?_)
 exact aP (U4.st▸H8.st) rfl (eJ H8.pl rfl (ax H8.pl (ml (cV hp (by decide))) (hK _ L4 _ S8 _ _ _ ⟨H8.SD (v:=(made c za .nil).2) (cV hp (by decide)),e8,⟨G4,I8,C8⟩,
  fun u hu=>(cU.mp hu).elim (fun hu i q=>i8 i (G.pl u hu i q)) fun hu=>dX.mp hu▸v8,bK (as:=P) (bs:=[(made c za .nil).2])▸⟨pC _,ew G.n.2⟩⟩ ((U7.trans U8).trans (Ux.set (.tail _ (.tail _ (.tail _ (.tail _ (.tail _ (.head _))))))))
  (aN (bT fb) (dA hz.1 _)))))
end
section
variable {C:Nat→CW} (X:Calls C) {n t si dk:Nat} {Q:PV} {E:PE} {σ:St}
include X
theorem HH {s0 s1 s2 s3 s4:St} {d0 lc pr pl st:Nat} {D:List Int} (n9:dk≠d0) (Wv:s0.objs[dk]?=some (.lst [.ob d0,.num 0])) (Wr:s0.objs[d0]?=some (.lst (D.map V.num))) (hD:0<D.length∧D.length<1000000) (hc:s0.cells=[])
  (N1:f6 s0 s1 lc (.lst [])) (N2:f6 s1 s2 pr (.dI [])) (N3:f6 s2 s3 pl (.lst [.lv (.num 0),.lv (.num 1),.lv .nil])) (N4:f6 s3 s4 st (.dS [(3,.ob lc),(4,.ob pr),(5,.ob pl)])) :
  LG ⟨st,dk,d0,lc,pr,pl,D,[]⟩ [] [] [.num 0,.num 1,.nil] 3 s4:=by
 have H0:uN s0 [(dk,.lst [.ob d0,.num 0]),(d0,.lst (D.map V.num))]:=⟨bV.mpr ⟨fun h=>n9 (dX.mp h),bV.mpr ⟨cS,.nil⟩⟩,cc.mpr ⟨Wv,j9.mpr Wr⟩⟩
 exact ⟨⟨⟨0,lB _,((((H0.new N1).new N2).new N3).new N4).rot⟩,rfl,hD,by decide⟩,N4.c.trans (N3.c.trans (N2.c.trans (N1.c.trans hc))),⟨⟨fun i x h=>(fg h rfl).elim,⟨fun O=>0,fun i x h=>(fg h rfl).elim⟩,⟨0,fun O=>0,by decide,fun i x h=>(fg h rfl).elim,fun i x h=>(fg h rfl).elim,fun i x h=>(fg h rfl).elim⟩,by decide⟩,⟨.nil,fun i h=>absurd h cS⟩,fun i h=>absurd h cS⟩,
  cc.mpr ⟨bH.nc rfl,cc.mpr ⟨bH.nc rfl,j9.mpr (bH.nc rfl)⟩⟩,by decide⟩
def LgS (dk st:Nat) (N M:Nat) (r:List Nat) (s:St):Prop:=∃L c S P m,LG L c S P m s∧L.dk=dk∧L.st=st∧m+r.length≤N∧c.length+3*r.length≤M
omit X in
theorem Kr (h:m+(a+1)≤N):m+1+a≤N:=aN (bT (FH m a)) h
omit X in
theorem RH (h:c+3*(a+1)≤N) (h':c'≤c+3):c'+3*a≤N:=aN (iP h' _) (aN (bT ((uF _ _ _).trans (aD (c+ ·) (fy 3 (3*a))))) h)
theorem PU (hn:ns.length<1000000) (hc:σ.cells=[]) (h:∀s,Q (.bool true) s):C (n+145) (.fn 665) [.sc ns] Q E σ:=by
 refine X.dc (n:=n+144) (vs:=[.sc ns]) rfl rfl (ah trivial (GA X (n:=n+143) hn fun s0 dk d0 D X0 n9 Wv Wr hD=>aR fun lc s1 N1=>ah (by decide) (aR fun pr s2 N2=>aR fun pl s3 N3=>ah ⟨rfl,by decide,by decide⟩ (aR fun st s4 N4=> ?_))))
 refine oZ (i:=3) rfl (ah (by decide) ?_)
 refine jJ (fun z:Nat=>[.num (z:Int)]) (fun (z:Option V × Option V × Option V × Option V)=>[some (.sc ns),some (.ob dk),some (.ob st),z.1,z.2.1,z.2.2.1,z.2.2.2,none,none,none,none,none,none,none,none])
  (fun r z s=>LgS dk st 6 9 r s) (fun O O O O=>trivial) (fun z s H=> ?_) (fun q r z s K' H hN O=> ?_) (l:=List.range 3) (z:=(none,none,none,none)) rfl ⟨_,_,_,_,_,HH X n9 Wv Wr hD (X0.c.trans hc) N1 N2 N3 N4,rfl,rfl,by decide,by decide⟩
 ·refine iM H fun L c S P m G hd ht hm hl=>ah trivial (dm X (n:=n+143) hd G.li (by decide) fun r s5 h0 h1 H5 U5 e5=> ?_)
  refine (pA h0).elim fun k ek=> ?_
  have hk:k<9:=nC.mp (ek▸h1)
  refine oZ (i:=4+k) (aD (4+ ·) ek) (ah (cV (wx hk 4) (by decide)) ?_)
  refine jJ (fun z:Nat=>[.num (z:Int)]) (fun (y:Option V)=>[some (.sc ns),some (.ob dk),some (.ob st),z.1,y,z.2.2.1,z.2.2.2,none,none,none,none,none,none,none,none])
   (fun r y s=>∃L c S P m,LG L c S P m s∧L.dk=dk∧L.st=st∧m+r.length≤30) (fun O O O O=>trivial) (fun y s H=>h s) (fun q r y s K' H hN O=>z4 H fun L c S P m G hd ht hm=> ?_) (l:=List.range (4+k)) (z:=z.2.1) rfl
   ⟨L,c,S,P,m,⟨H5,e5.trans G.ce,G.pre,G.pl,G.n⟩,hd,ht,uK.symm▸aN (ka hm (dA (eu hk) 4)) (by decide)⟩
  exact ah trivial (AS X (n:=n+4) hd ht G (cY (aN (b9 _ _) hm) (by decide)) fun s' L' c' S' P' G' U'=>hN (some (.num q)) s' ⟨L',c',S',P',m+1,G',U'.dk.trans hd,U'.st.trans ht,Kr hm⟩)
 ·exact iM H fun L c S P m G hd ht hm hl=>zy X (n:=n+124) hd ht G (cY (aN (b9 _ _) hm) (by decide)) (aN (aN (b9 _ _) hl) (by decide))
   (fun s L' c' S' P' j5 j6 G' U' zt=>hN (some (.num q),z.2.1,j5,j6) s ⟨L',c',S',P',m+1,G',U'.dk.trans hd,U'.st.trans ht,Kr hm,RH hl zt⟩) rfl
end
end Mine.P
end
section
open PySem PySem.W PySem.Calls PyProof.Rows
namespace Mine
theorem y8 (aab:Program) (w:World):Calls (fun n=>aB aab w (n+7)):=
 ⟨A6,A5,A9,A4,Bc,Ba,Bb,A7,A8⟩
theorem Uk (X:(KK w).In h) (T:Top p loose mean mg mb h):Tp (KK w) h:=
 ⟨X,⟨_,_,_,_,topRead_of T⟩,⟨mg,T.bmain.imp fun bm=>cD fun ob b=>⟨T.g,b⟩⟩⟩
theorem post_true (a:List WData):WTm.value [] (.eq .res (.lit (.bool true))) { args:=a,res:=some (.bool true),after:=a}=some (.bool true):=by
 simp [WTm.value,same_self]
theorem law_run 
  (T:Top p loose mean mg mb s.heap) (X:(KK w).In s.heap) (hT:TabsAt [(508,504),(475,471)] s.heap) (hl:s.heap.IsList l xs.toArray) (hI:IntsAre xs ns) (hn:ns.length<1000000)
  (h:∀s',(∀b o,(ghostOf s.heap [(508,504),(475,471)]).get? b=some o→s'.heap.get? b=some o)→GrownAll [(508,504),(475,471)] s'.heap→f7 s s'→R (.ok (.ret (.bool true))) s') :
  codeAny (model aab w) callerA (.call (.ref 665) ⟨[.ref l],[]⟩) R s:=by
 refine LD hl fun o e hc n hd=> ?_;clear hl
 have h1:=(hT _ (.head _)).2
 have h2:=(hT _ (.tail _ (.head _))).2
 have TT:Tp (KK w) (ghostOf s.heap [(508,504),(475,471)]):=Uk (ghost_K hT X (by kernel_rfl)) (ghost_top hT T)
 have tb:∀P D,s.heap.get? P=some (tabObj #[])→kH ⟨[],[],[(l,o)]⟩ s.heap.get? P D:=fun P D e=>⟨#[],e,trivial,.inl rfl⟩
 have ne:∀P,s.heap.get? P=some (tabObj #[])→l≠P:=fun P e' q=>nomatch hc.symm.trans (aD Obj.cls (cH (e.symm.trans ((aD s.heap.get? q).trans e'))))
 have L:aB aab w 152 (.fn 665) [.sc ns] (fun v O=>v= .bool true) (fun O=>False) ⟨[],[]⟩:=P.PU (y8 aab w) (n:=0) hn rfl fun O=>rfl
 refine L (hT:=ghostOf s.heap [(508,504),(475,471)]) (aac:=[]) (γ:=⟨[],[],[(l,o)]⟩) (g:=s.heap.get?)
  ⟨TT,rfl,rfl,by decide,by decide⟩ ⟨fun b o e=>of_hideAll _ e,fun b o e=>e,(fun b hb=>nomatch hb),trivial⟩
  ⟨⟨rfl,.nil,.nil,(fun O h=>nomatch h),(fun O O O h=>nomatch h)⟩,rfl,(fun O O O h=>nomatch h),(fun O h=>nomatch h),fun x hx=> ?_,(by decide:[471,504].Nodup),⟨tb _ _ h2,tb _ _ h1⟩,hideAll_none _ (by decide),hideAll_none _ (by decide)⟩
  (.fn (by kernel_rfl)) (.cons (.sc (.head _) hc hd hI) .nil) (fun aj g' af s' v V G H hv q=> ?_) fun O O O O O O O O h=>h.elim
 ·rw [dX.mp hx]
  exact ⟨e,fun hm=>(cF.mp (show l∈[471,504] from hm)).elim (ne _ h2) fun q=>ne _ h1 (dX.mp q),fun hs=>hs.2.elim fun f hf=>nomatch hd.symm.trans hf⟩
 ·rw [q] at hv
  rw [show v= .bool true from hv]
  exact H.tb.1.elim fun p1 q1=>H.tb.2.elim fun p2 q2=>h s' (fun b o e=>G.at_.a5 _ _ (G.at_.base _ _ e)) ⟨⟨p2,G.at_.a5 _ _ q2.1⟩,⟨p1,G.at_.a5 _ _ q1.1⟩,trivial⟩ G.bk.same
end Mine
end
end
open PySem PySem.W PyProof.Rows
set_option Elab.async false
set_option maxRecDepth 100000
set_option maxHeartbeats 8000000
set_option pp.deepTerms false
set_option pp.deepTerms.threshold 4
theorem PySem.Challenge.cw_pq0283_01_holds : PySem.Challenge.rw_pq0283_01.Holds := by
  refine hd ?_
  k_fill
  intro w s₀ s₁ mg mb G Y fa o pm cd doc dV kV ho hd hcd hD hmg hg args vals as hpre hlay hrd hwl hlo
  have KX := km_in_of Y
  km_tabs Y
  refine Ground.open G ?_
  intro T B D TE TW
  km_lay T hmg ho hd cd
  clear ho hd hcd hD Y B D TE TW dV kV
  have e := mg_of KX T.g (n := "law") (v := .ref 665) (by kernel_rfl)
  have hmg' : mg "law" = some (.ref fa) := hmg
  rw [e] at hmg'
  cases hmg'
  clear hmg e
  wrow_args hpre hlay hrd hwl hlo
  all_goals (
    first | refine callC_kw (enter_call ?_) | refine enter_call ?_
    w_top on
    kn_posts)
  rename_i ns _ _ _ _ _ _ _ l xs _ hL _ _ _ hI _ hn _
  exact Mine.law_run T KX hT9 hL hI (by omega) fun s' hk hgr sm => ⟨⟨.inl ⟨.bool true, .bool true, [], rfl, fun _ => rfl, .bool _, postW_of (r := PySem.Challenge.rw_pq0283_01.row.toRowW) (X := true) (by rfl) (Mine.post_true _) rfl, fun _ => ⟨List.nodup_nil, fun _ h => nomatch h⟩⟩, hk, sm.os, sm.gens.trans hg⟩, hgr⟩
