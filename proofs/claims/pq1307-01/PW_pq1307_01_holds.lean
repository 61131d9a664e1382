import PyProof.Rows.All
import Wide.All
import OpenK.AllK
import Wide.FinOn
import PySem.Challenge.RW_pq1307_01
open PySem PySem.W PyProof.Rows
set_option Elab.async false
namespace Mine
open Lean Syntax
set_option compiler.extract_closed false
def sB:Syntax->Syntax:=Nat.repeat (fun f s=>setInfo .none (s.setArgs (s.getArgs.map f))) 999 id
def sM(a:Array Syntax):Syntax:=
 let c:=a[0]!
 .node .none `null ((if a.size==1 then c[1][2][0][0][1].getArgs.map fun i=>c.setArg 1 ((c[1].setArg 1 (c[1][1].setArg 0 i)).setArg 2 (c[1][2].setArg 0 (mkNullNode #[]))) else a).map sB)
end Mine
set_option compiler.extract_closed false in
local macro_rules
  | `(command|mutual $c* end)=>if c.size==2 then Lean.Macro.throwUnsupported else pure (Mine.sM c)
namespace PySem.W.Fast
mutual
theorem t(tw10007627690174824804 tw10010936943081839664 tw10015664371746657536 tw10029231156530900338 tw10042830170769951172 tw10045867985992453528 tw10054680653034459469 tw10057510723706494237 tw10073347824450446311 tw10205541121877940668 tw10236144576336239448 tw10308316962582663543 tw10314498396905981064 tw10317580896714288900 tw10323183001455561277 tw10352308551163946355 tw1041845030581493396 tw10424941004445345732 tw10470071008263537045 tw10487160056961263569 tw10500077913531017323 tw10508251915553800215 tw10528696920762540405 tw1055568401681811165 tw10670733350059645105 tw10706342367453228570 tw10833955939284561965 tw1085346719588807367 tw10887116778572429059 tw10919533547850550483 tw1092655722715705105 tw10938465397075749097 tw10939839348159177617 tw10942035263794033107 tw11013792430000457035 tw1107438419126420414 tw11108263761283441063 tw11130039905162102590 tw11161088081135249708 tw11270796479367742343 tw11277413387252134812 tw11277716924127702174 tw11306939235166856333 tw11310463157757771331 tw11317593695737139937 tw11333186260410459676 tw1139862187096482527 tw11420187438672877268 tw11445135464325071761 tw11452132507678324671 tw11493714872258299598 tw11495947367809530248 tw11518781747449614426 tw11519604305632133818 tw11543547407058413889 tw1156252341971683116 tw11566699232636054958 tw11588390666370768167 tw11625766737575182897 tw11636919720809706868 tw11682084944484805031 tw11707371222683016368 tw11707433790658880453 tw117213463901210413 tw11740888236361828772 tw11767421526060770920 tw11788150170368784547 tw11790162104776037713 tw11796506867022685745 tw11817470609975844035 tw11825729669827539873 tw11838138170533393997 tw1184552218554016812 tw11853533878840232495 tw11863081143760314161 tw11892598404827812706 tw11939915149646268982 tw11964429278604863157 tw11985326045990495214 tw11994158751524154303 tw1204117194425446250 tw12095823642532355627 tw12172078356533094185 tw12177639751122801600 tw12182807814244774211 tw1218959903707654005 tw12233582284571471492 tw12237943961548833269 tw12268644228514654432 tw12290603225136948437 tw12329403913580668285 tw12371321757623732685 tw12392613427281201732 tw12393455550290869266 tw12450158673883907302 tw12488000419048109807 tw1258299570235058372 tw1258717718454355964 tw12632203425335570320 tw12635297910168745909 tw12635813782599140982 tw12726346659333912481 tw12809422525583811893 tw12813236842856870187 tw12821735335276811757 tw12832477231654346042 tw12835720964997663042 tw12850107946570832962 tw12869064799731924824 tw12898947447245864913 tw1291980286583624508 tw12945451867199242903 tw12945968074294007009 tw12981051755390344553 tw13002492023102617099 tw13016732220969518872 tw13036272033356848781 tw13145125596335152023 tw13180171748994924942 tw1320183511955256522 tw13215998728584607739 tw13252181687094117063 tw13254397897704925713 tw13314330512976039754 tw13317431791736044220 tw1333364371103165705 tw13335737130258781183 tw13358618909089187005 tw13471461260053382970 tw1355338860687761863 tw13559156169165276386 tw13580328829973926956 tw13581749221687468397 tw13607416678640721797 tw13615603153576403970 tw136631920214876835 tw13674904513147759565 tw13678640442995254988 tw1370275717833778536 tw13721567128424951087 tw13725850141900786883 tw1377046205977697930 tw13776390136698705113 tw13809362725867891129 tw13833065179229638619 tw13900631225919944168 tw13915792640404377917 tw13925586954763233925 tw13987355940573415152 tw14023627001141898710 tw1402947280878808549 tw14073706353221006472 tw14097648870716263351 tw14108194823987119177 tw14112274594779413971 tw1414301608579184545 tw14186486079044719983 tw1419416864934026935 tw14209830616999942402 tw14210447440969649564 tw14214133299417103183 tw14223099787259518943 tw14305139224198610471 tw14311459727803291754 tw14323765505736481980 tw14326252917377295143 tw14333388528381170442 tw14386061602966655976 tw1440575883149458809 tw14433975572909055671 tw14487725735874088081 tw14537914154153760125 tw14553827428707814869 tw14608956597509229670 tw14714103240675001986 tw14821650378409806113 tw14837249469386935497 tw14884601019740666482 tw14896874001708588922 tw14971970265804392439 tw14973007898608030118 tw14979626087600564940 tw15007238320947547705 tw1503297043503765363 tw15034313371233782410 tw15041003319150489328 tw15066959818950650227 tw15079194523842364033 tw15108788842447611627 tw15112985482279097393 tw15168306246750427876 tw151948405760981731 tw15195428891847259777 tw15263041282635125899 tw15278061642289888581 tw15376083050721069600 tw1537898542681612871 tw15423634916342008072 tw15444884592583069058 tw15450981722951097364 tw15468230090516036684 tw15475462885187679331 tw15480198773659482676 tw15490439104401381959 tw15542503528162795033 tw15542691292777871779 tw15548232759531236198 tw15560500314895047343 tw15562837088269578035 tw15663404670287596823 tw1574873078441994576 tw15766043655864335149 tw15773981995205291829 tw15806122291839087668 tw15823609455315575823 tw15880737140895825463 tw15894407043143930727 tw15900120412870309639 tw15902184279288820625 tw15919542637913265678 tw15980859228951719591 tw16018607276475445134 tw16049961110935095269 tw16176465441171805009 tw1617757218408452269 tw16180483070735683940 tw16180582048198870337 tw16189536214700107852 tw1620339239838986703 tw1622879763869745584 tw16241802466949684156 tw16296994325663420285 tw1631149150583789468 tw16339471991904476338 tw16349216596472256690 tw16349804527192203551 tw1638017585896720355 tw16406328271908756883 tw16413264400604254196 tw16413963553889246368 tw16417370028952169744 tw16432479971616331241 tw16437185098154296904 tw16439824349840649037 tw16593013826814733010 tw16643379632663270332 tw16643706677886111943 tw16644606511662114574 tw16655555454665732581 tw16697116713213952808 tw16741492637210864865 tw16752143609539240740 tw16817318245366136608 tw16846860572762119324 tw16867206752494618739 tw16869277618539721502 tw16916688483869632129 tw16942194440817826258 tw16942504070071679284 tw16947794391021106201 tw16966814322356759819 tw16979880578912567463 tw17000155066101142889 tw17000458434675057986 tw17001327861769816259 tw17015423121036801654 tw17018628822417861297 tw17024950926791866790 tw1702518465993881591 tw17026713947507217902 tw17027116597318869337 tw17057272898397164401 tw1706496860858754268 tw17070079461858475408 tw17071476683966804577 tw1708024556718086227 tw17100903815162463580 tw17111948838632640456 tw17164873540382356111 tw17183712847048597117 tw17244072584429378644 tw17274371674624000324 tw17279654841073493023 tw17300597898927385350 tw17341736924252097559 tw17344680358763864322 tw17352973434858128600 tw1735497430108182060 tw17394056326795013819 tw17434858337260393937 tw17476080006546285661 tw17497748084772794779 tw1749818173716722547 tw17503288770812694035 tw17517737089405305841 tw17520869792638436183 tw17532440430192770315 tw17532718790514356516 tw17552769576498331613 tw17554001833073541016 tw1763209079605825380 tw17672482021469178181 tw1772237422875290029 tw17730428716208468724 tw17730448691065144110 tw17765544955259793912 tw17774800907425398282 tw17803129079492736432 tw17804436615005485693 tw17827458813498177553 tw17828083071136270317 tw17842620306162639686 tw17846936440860909165 tw17863021456227041891 tw17888162413812561239 tw17899373020297197333 tw17913803186225011329 tw17943406268862710625 tw17954471519018878134 tw17954736447514056666 tw17964007177503468958 tw17975652961387846372 tw17988542015724977305 tw18056578402003937789 tw18101931140130867144 tw18123110421147349612 tw18126140380344562322 tw18163708392712065173 tw18220123701641295943 tw18260038339965228139 tw18263319221461684349 tw18273839248471157720 tw1829445100760108279 tw18340240734955500558 tw18345786424863182364 tw18350330562280901221 tw18350638575300117064 tw183835017167291270 tw1869930749605803152 tw1886563365779066154 tw189603312586018693 tw1962928258387122110 tw2001226814458364393 tw2039238271031011813 tw2169543709445408213 tw2193789692954389824 tw2283851925072248500 tw2315820567201803617 tw2334299552400917057 tw2354101950205528012 tw2408619945344806742 tw2422670821966735624 tw2447775223705975068 tw2460228577881660442 tw2478078296215019888 tw2611137233208623240 tw2627984346626558326 tw2660918139993853925 tw2664551874359636763 tw2711585505577850959 tw2718901123391026995 tw2719445374943340272 tw2736616831223182526 tw2759451637364818457 tw276302929252808647 tw2862820112641550484 tw2902314222560053993 tw2905824091091238844 tw2922074901204462755 tw2948108419219029167 tw2951486255847992690 tw2958062672499776758 tw2968979199505139716 tw3039592710220408265 tw3093977132361051618 tw3094477031063562474 tw3105397867545767578 tw3118938333895590913 tw3125434132718643974 tw3131671291697673992 tw313226197891681235 tw3152983702415266003 tw3209381107111851631 tw3264259588550801142 tw3282434896037501709 tw3315324234476444515 tw3355348695024010778 tw3362959441861295915 tw3386650904741475044 tw3424931102881643321 tw3436264866546951355 tw3470799630455053000 tw347637069881736656 tw3560238982266916124 tw3577408171920636059 tw3619232141914619222 tw3636048126100218174 tw3695515675974049574 tw3698559305507148144 tw3764465048917985505 tw3766158894648301139 tw3820604794100220378 tw383695940523520267 tw3856783459128436802 tw387338674003428930 tw3891137856419664920 tw389472881494512206 tw392140993173905013 tw3972328310683599613 tw3976722010076183465 tw4011157648589011858 tw4039474712603431140 tw4071324889030633612 tw4075660801711882420 tw4172830789200971933 tw4224760802259116069 tw425412329055275883 tw4275521005467322725 tw4278798014809849964 tw4292500188555128830 tw4302124980754421698 tw4319705520415482375 tw43969757491396457 tw4405960384096086239 tw4407734736301137906 tw4525517667737911620 tw4527066259768149269 tw4544061382915670349 tw4549333791460862111 tw4558998842232669794 tw4575980220486274672 tw460243522976405022 tw4622596211255666275 tw4636218855388986860 tw4658958612460137192 tw4679858250743294509 tw4681523508651956083 tw470574548607681690 tw4748654258956052638 tw4775785305629353868 tw4795102484540819243 tw4797165386629745026 tw4904739604578439355 tw4921902886906138986 tw4936483359421988267 tw4966893808263662355 tw4978915544186085027 tw4980102563643897964 tw5032809538720368765 tw503676674663206642 tw505943868828395459 tw5068434257544371817 tw5076957145309523181 tw5135500740108067664 tw5149714755402479525 tw5152784196030571298 tw5189142188285759775 tw5200128776193632040 tw5248340912204065574 tw5268983451555188008 tw5345256250457102556 tw5349121933718820234 tw5357591511691535388 tw5396446701170858492 tw5529568453561195837 tw5565278806992967083 tw558745408833754511 tw5697894365363955025 tw5701610774189311196 tw5706481520468235054 tw5721027456603625697 tw5732905514179830355 tw5770868932273138760 tw5823794197072137003 tw5832503352825792928 tw5862295025349918931 tw5882768191206486792 tw5923252988546675246 tw5925582254088234700 tw5976474108018559520 tw5978237884098788730 tw6004533443673955352 tw6019396324639902685 tw6059929106960060952 tw607167704815816724 tw608726401823008365 tw6090905460779295987 tw6122645084068987007 tw6125931036764729998 tw6135381517318000843 tw6144853644547557980 tw6148621092414575339 tw6179359751918216688 tw618205885557783147 tw6213141578215901147 tw6214688769961185500 tw6245536207120538393 tw6309420706278071738 tw6363645014702824404 tw6380047634161181297 tw6434265647005701932 tw6448080314894763839 tw6587116730350146372 tw6589095468515690095 tw6654550962395885724 tw6662432510661729299 tw667198328695590252 tw6679490504615227074 tw6683783046931543321 tw6711915476519705758 tw6722154040420286063 tw6789855027759293466 tw6792406925840432001 tw6817277305950994716 tw682011567655089306 tw6834602518627153040 tw6838443636238091967 tw6909570525239066004 tw6929956602132211858 tw6967401301877209104 tw6993175162768986339 tw7009043117176579089 tw704327219915372674 tw7081425507203772304 tw7082770336023389322 tw7098571738820278039 tw7140130562030077042 tw7198390536060210744 tw7232422423428716515 tw724751600484774222 tw7250012664060256230 tw725871291056497461 tw7269565832213808900 tw7275051467321613617 tw7276740287692124622 tw7286323032743288035 tw7299303143086499733 tw7323676302269181137 tw7365555872484859036 tw7392212959928792091 tw7397068168572129948 tw7401281599722004195 tw7457235589161816955 tw7469732015759309437 tw7483462131439158144 tw7496433998918960881 tw7499937903120025604 tw757081541053455785 tw7581352650102555174 tw7581816359482902497 tw7585139358526817783 tw7619357645376055252 tw7650934615059315214 tw7670514497116975361 tw7745614565497352828 tw7783732958741208154 tw7788680626742099145 tw7802139600951554647 tw7892128664451923741 tw7987952416473584550 tw8017206721242287953 tw8032284361305108907 tw8047484207015712433 tw8075568018651887793 tw8098380416015320538 tw8119918657739134586 tw8172809164517127073 tw8206430501311747189 tw8253183596043897158 tw8376441433122354887 tw8400853705098224536 tw8424611434330503625 tw8459811325457737761 tw8488268690174267210 tw8537084889766193716 tw8579058602437062094 tw8595292554425487202 tw8603108125212654177 tw8620020772036689432 tw8642067239939848140 tw8656719876789144132 tw8708707556590381134 tw8719427161674164953 tw8727135674562949291 tw8753696776887207221 tw878741703135273975 tw8796240567053077481 tw8860024209350480642 tw8881496252177385917 tw8902219603052485911 tw8989982439271903415 tw900395245841561262 tw9011979029575296479 tw912392155897948271 tw9136488742655976645 tw9137105182441381901 tw9151444980202551346 tw9219426015542480343 tw9265879793445154701 tw9281714027785469542 tw9285146279643344392 tw9300948228871686676 tw930746551332336609 tw9315938663221665524 tw932993149863042379 tw9376109419431680627 tw939162767068533735 tw9396933662098498411 tw9407582987413476825 tw9413167413068371254 tw9467589175468403638 tw9504726810853072989 tw951843321253372498 tw9529234661008812162 tw9537544019596298400 tw9564595351457756722 tw9577309144901391297 tw9594665118957945026 tw9626621113073979434 tw9673203406766833760 tw9674257727999782656 tw9676229304581654039 tw973662469405803806 tw9759809726879904816 tw9763268239775435451 tw9787396351842916947 tw9787463984185863102 tw9800571698397750058 tw9821368406582625841 tw9908251947323293946 tw9931943479562821362 tw9948023125614773506 tw9951705424602377420 tw9979284746773624096:True):∀a:Prop,a→a:=fun a h=>h
end
end PySem.W.Fast
namespace Mine
set_option maxRecDepth 100000 in
set_option maxHeartbeats 0 in
open_top hd for PySem.Challenge.rw_pq1307_01
end Mine
open PySem.Calls PySem.Spec
set_option maxRecDepth 100000
set_option maxHeartbeats 1000000
set_option linter.all false
set_option genInjectivity false
set_option genSizeOf false
namespace Mine.Internal
noncomputable section
section
set_option compiler.extract_closed false
open Lean Parser Tactic Term
def sN (k : Name) (l : List Syntax) : Syntax := .node .none k l.toArray
def sId (s : String) : Syntax := mkIdent s.toName
def sHole : Syntax := sN ``hole [mkAtom "_"]
def sBnd : Syntax := mkIdent (.num (.str (.str (.str `x "_@") "Mine") "_hyg") 1)
def sFun (l : List String) : Syntax := l.foldr (fun n t => sN ``Term.fun [mkAtom "fun", sN ``basicFun [sN nullKind [if n == "" then sBnd else sId n], sN nullKind [], mkAtom "=>", t]]) (sN ``syntheticHole [mkAtom "?", mkAtom "_"])
def sApp (f : String) (l : List Syntax) : Syntax := sN ``app [sId f, sN nullKind l]
def sSeq (l : List Syntax) : Syntax := sN ``tacticSeq [sN ``tacticSeq1Indented [sN nullKind l]]
def sAlt (l : List Syntax) : Syntax := sN `group [mkAtom "|", sSeq l]
def sFirst (l : List Syntax) : Syntax := sN ``first [mkAtom "first", sN nullKind l]
def sRef (r : String) (l : List Syntax) : Syntax := sN ``refine [mkAtom "refine", sApp r l]
def sRfl : Syntax := sN ``tacticRfl [mkAtom "rfl"]
def sAss : Syntax := sN ``assumption [mkAtom "assumption"]
def sUnf : Syntax := sN ``withUnfoldingAll [mkAtom "with_unfolding_all", sSeq [sRfl]]
def sStep0 (l : List Syntax) : Syntax := sN ``withReducible [mkAtom "with_reducible", sSeq l]
def sBy (t : Syntax) : Syntax := sN ``byTactic [mkAtom "by", sSeq [t]]
def sWalk (s : String) : Syntax := sN `PyProof.Rows.tacticWalk_at_ [mkAtom "walk_at ", Syntax.mkStrLit s]
def aU : Syntax := sSeq [sUnf]
def aA : Syntax := sSeq [sAss]
def sDc : Syntax := sN ``Tactic.decide [mkAtom "decide", sN ``Tactic.optConfig [sN nullKind []]]
def aD : Syntax := sSeq [sDc]
def sAw (r : String) (l : List Syntax) : Syntax := sSeq [sN ``withUnfoldingAll [mkAtom "with_unfolding_all", sSeq [sRef r l]]]
def aZ : Syntax := sAw "Nat.le_of_ble_eq_true" [sId "rfl"]
def aN : Syntax := sAw "List.cons_ne_nil" [sHole, sHole]
def aC : Syntax := sSeq [sFirst [sAlt [sRef "Fs.fixed" [sBy sAss, sBy (sWalk "mem")]], sAlt [sRef "Fs.keep" [sBy sAss, sBy sAss]]]]
def aW : Syntax := sSeq [sFirst [sAlt [sRef "IntMulOk.of_left" [sBy sDc]], sAlt [sRef "IntMulOk.of_right" [sBy sDc]]]]
def aX : Syntax := sSeq [sRef "Exists.intro" [sHole, sBy sUnf]]
def aI : Syntax := sSeq [sN ``intro [mkAtom "intro", sN nullKind [sHole]], mkAtom ";", sUnf]
def aM : Syntax := sSeq [sRef "Fs.get1" [sBy sAss, sBy (sWalk "mem")]]
def aP : Syntax := sSeq [sWalk "put"]
def aK : Syntax := sSeq [sRef "Fs.kin" [sBy sAss]]
def sRw (l : List Syntax) : List Syntax := l.foldr (fun r k => sFirst [sAlt [sRef (if r[0].getNumArgs == 0 then "rwl" else "rwr") [r[1], sFun []]], sAlt [sN ``rewriteSeq [mkAtom "rewrite", sN ``Tactic.optConfig [sN nullKind []], sN ``rwRuleSeq [mkAtom "[", sN nullKind [r], mkAtom "]"], sN nullKind []]]] :: mkAtom ";" :: k) [sN ``tacticTry_ [mkAtom "try", sSeq [sStep0 [sRfl]]]]
def sApply (l : List String) : List Syntax := l.map fun t => sAlt [sN ``apply [mkAtom "apply", sId t]]
def sRep (t : Syntax) : Syntax := sN ``repeat' [mkAtom "repeat'", sSeq [t]]
def sRules (l : List String) : List Syntax := l.map fun t => match t.splitOn ":" with
    | r :: "!" :: b => sAlt [sRef r [sFun []], mkAtom ";", sN ``intro [mkAtom "intro", sN nullKind (b.map fun n => if n == "" then sBnd else sId n)]]
    | r :: b => sAlt [sRef r [sFun b]]
    | [] => sHole
def sGuard (t : Syntax) : Syntax := sN ``guardTarget [mkAtom "guard_target", sN ``equal [sN ``equalR [mkAtom "="]], sApp "Wp" [sHole, sHole, sHole, t, sHole, sHole]]
def sAll (l : List String) : Syntax := sStep0 [sRep (sFirst (sApply l)), mkAtom ";", sN ``done [mkAtom "done"]]
def sHeads (l : List String) : List Syntax := l.map fun g => match g.splitOn " " with
    | f :: n :: r => sAlt [sGuard (sApp f (.replicate n.toNat! sHole)), mkAtom ";", sFirst (sRules r)]
    | _ => sHole
def sAsc (t ty : Syntax) : Syntax := sN ``typeAscription [sN ``hygienicLParen [mkAtom "(", sN hygieneInfoKind [mkIdent .anonymous]], t, mkAtom ":", sN nullKind [ty], mkAtom ")"]
def sTy (ty : Syntax) : Syntax := sN ``refine [mkAtom "refine", sAsc (sFun []) ty]
def sDec : Syntax := sFirst [sAlt [sN ``withUnfoldingAll [mkAtom "with_unfolding_all", sSeq [sRef "of_decide_eq_true" [sId "rT"]]]], sAlt [sN ``Tactic.decide [mkAtom "decide", sN ``Tactic.optConfig [sN nullKind [sN ``Tactic.configItem [sN ``Tactic.negConfigItem [mkAtom "-", sId "revert"]]]]]]]
def sKon : Syntax := sAlt [sN ``refine [mkAtom "refine", sN ``app [sAsc (sBy sAss) (sApp "eg" [sHole, sHole]), sN nullKind [sHole, sHole, sFun []]]]]
def sStep (l : List Syntax) : Syntax := sStep0 [sFirst (l ++ sHeads ("eval 2 av6 cb9 ds6 dp8 ds4: do1 ci8 dp9 dr8 dp4 dq1 dr9: dp3 dq0 dp2 dn9 dp5 cf4 ds7 cb8 ds0 do0 dp7;isTrue 3 ci6 dr7 dt3 dp1 dr5 dr6 dj7 dj6 dn8;storeName 3 dk0:!:::S bx2:!:::S;execs 2 cT ds3;exec 2 dk5 ci9 ci7 bh4 dt4 bp0 dp6 ds5 cf3;spliced 1 ci3 dn4 dn3 du1 a74;truthy 1 bg3;binaryOp 3 dt1: ds8: ai8: ag3: a15:;compareOp 3 du0 dt5 dt6 dt7 dt8 dt9 do3 dk8 dk9 dl0 cj0;unaryOp 2 dt0: ds9;callWith 5 dr3 do7 dr4 do8 do6;an5 2 dr1 dr0;evalPairs 1 do2 dq2 cc4 cf6;valueOrNone 1 dp0 do9;newFields 2 do4:!:::::S;assign 3 dr2;assignInOrder 2 al9 bv1;getMethod 3 dl3 dt2 dl2;bindName 3 ak7;newTuple 1 a99:!::::::S;testChain 4 dn6 dn7".splitOn ";") ++ sRules ("d5.next d5.ret d5.cont BB.t BB.f BB.not dq3 do5 cz.next cz.cont cz.ret eK.step Krt.go Kco.go Ku.go Kx.go KnB.go KnV.go Kp3.go".splitOn " ") ++ sKon :: sRules ("dq9 dq8 CE.end CF.end ay1.mk::".splitOn " "))]
def sTac : String → Option Syntax
  | "s" => sStep []
  | "u" => sUnf
  | "go" => sRep (sStep [])
  | "gc" => sRep (sStep (sRules ["BB.pos1", "BB.neg1"]))
  | "put" => sAll ["dr.head", "dr.t1", "dr.t2", "dr.t3", "dr.t4"]
  | "mem" => sAll ["List.mem_cons_self", "dq7", "dq6", "dq5", "dq4"]
  | "st" => sRep (sFirst [sAlt [sN ``failIfSuccess [mkAtom "fail_if_success", sSeq [sStep0 [sGuard (sApp "execs" [sApp "List.cons" [sHole, sHole], sHole])]]], mkAtom ";", sStep []]])
  | "law" => sTy (sApp "Wp" [sHole, sHole, sHole, sApp "execs" [sApp "List.cons" [sHole, sHole], sHole], sHole, sHole])
  | _ => none
end
theorem rT : true = true := rfl
@[elab_as_elim] theorem rwl {α : Sort u} {a b : α} {P : α → Prop} (e : a = b) (k : P b) : P a := e ▸ k
@[elab_as_elim] theorem rwr {α : Sort u} {a b : α} {P : α → Prop} (e : b = a) (k : P b) : P a := e ▸ k
set_option compiler.extract_closed false
local macro_rules
  | `(tactic| walk_at $s) => match sTac s.getString with | some t => pure t | none => Lean.Macro.throwUnsupported
  | `(tactic| ext) => pure (sRep (sStep []))
  | `(tactic| rw [$r,*]) => pure (sN ``Lean.Parser.Tactic.paren [Lean.mkAtom "(", sSeq (sRw (r.getElems.toList.map (·.raw))), Lean.mkAtom ")"])
  | `(tactic| decide) => pure sDec
mutual
abbrev VP : Type := Value -> Heap -> Prop
abbrev FP : Type := Flow -> Heap -> Prop
abbrev RP : Type := Addr -> Obj -> Prop
abbrev LO : Type := List (Option Value)
abbrev ac : Type := List (Addr × Obj)
abbrev jb:=@wpAny_bind
abbrev jc:=@wpAny_pure
abbrev jd:=@wpAny_mono
abbrev je:=@List.mem_singleton
abbrev jf:=@List.mem_cons
abbrev jg:=@List.mem_append
abbrev jh:=@List.mem_append_right
abbrev ji:=@List.mem_append_left
abbrev jj:=@List.getElem?_eq_getElem
abbrev jk:=@List.getD_eq_getElem?_getD
abbrev jl:=@List.length_append
abbrev jm:=@List.not_mem_nil
abbrev jp:=@Heap.get?_push_of_some
abbrev jq:=@Heap.get?_push_size
abbrev jr:=@Nat.le_trans
abbrev js:=@Nat.lt_of_lt_of_le
abbrev ju:=@Nat.lt_of_le_of_lt
abbrev jv:=@Nat.ne_of_lt
abbrev jw:=@Heap.lt_size
abbrev jx:=@BindsTo.of_eq
abbrev jy:=@decide_eq_false
abbrev jz:=@decide_eq_true
abbrev jA:=@List.length_cons
abbrev jB:=@Nat.le_of_eq
abbrev jC:=@Bool.and_eq_true
abbrev jD:=@List.append_nil
abbrev jE:=@List.length_singleton
abbrev jF:=@List.take_length
abbrev jG:=@List.filter_cons
abbrev jH:=@Heap.size_push
abbrev jI:=@Nat.le_of_lt
abbrev jJ:=@Nat.ne_of_gt
abbrev jK:=@Nat.lt_trans
abbrev jL:=@List.length_take
abbrev jM:=@List.mem_map
abbrev jN:=@List.filter_append
abbrev jO:=@List.length_nil
abbrev jP:=@List.filter_nil
inductive Ln|v(i:Nat)|k (n:Int)|a (x y:Ln)|s (x y:Ln)|m (n:Int) (x:Ln)
noncomputable def at0:List Int->Nat->Int
 | [],_=>0
 | x::_,0=>x
 | _::r,n+1=>at0 r n
noncomputable def Ln.ev(c:List Int):Ln->Int
 | .v i=>at0 c i
 | .k n=>n
 | .a x y=>x.ev c+y.ev c
 | .s x y=>x.ev c-y.ev c
 | .m n x=>n*x.ev c
noncomputable def ag8:List Int->List Int->List Int
 | [],y=>y
 | x,[]=>x
 | a::x,b::y=>(a+b)::ag8 x y
noncomputable def aj2(n:Int)(x:List Int):List Int:=x.map (n*·)
noncomputable def a25:Nat->List Int
 | 0=>[1]
 | n+1=>0::a25 n
noncomputable def Ln.po:Ln->List Int
 | .v i=>0::a25 i
 | .k n=>[n]
 | .a x y=>ag8 x.po y.po
 | .s x y=>ag8 x.po (aj2 (-1) y.po)
 | .m n x=>aj2 n x.po
noncomputable def cN:List Int->List Int->Int
 | a::x,b::y=>a*b+cN x y
 | _,_=>0
theorem ac4(c:List Int):cN [] c=0:=by cases c<;>rfl
theorem af3(x:List Int):∀ (y c:List Int),cN (ag8 x y) c=cN x c+cN y c:=by
 induction x with
 | nil=>exact fun y c=>((congrArg (·+cN y c) (ac4 c)).trans (Int.zero_add _)).symm
 | cons a x ih =>
  intro y c
  cases y with
  | nil=>exact((congrArg (cN (a::x) c+·) (ac4 c)).trans (Int.add_zero _)).symm
  | cons b y =>
   cases c with
   | nil=>rfl
   | cons d c =>
    show(a+b)*d+cN (ag8 x y) c=a*d+cN x c+(b*d+cN y c)
    rw[ih,Int.add_mul,Int.add_assoc,Int.add_assoc,Int.add_left_comm (b*d)]
theorem af2(n:Int)(x:List Int):∀ c:List Int,cN (aj2 n x) c=n*cN x c:=by
 induction x with
 | nil=>exact fun c=>(ac4 c).trans ((congrArg (n*·) (ac4 c)).trans (Int.mul_zero n)).symm
 | cons a x ih =>
  intro c
  cases c with
  | nil=>exact(Int.mul_zero n).symm
  | cons d c =>
   show n*a*d+cN (aj2 n x) c=n*(a*d+cN x c)
   rw[ih,Int.mul_add,Int.mul_assoc]
theorem br5(i:Nat):∀ c:List Int,cN (a25 i) c=at0 c i:=by
 induction i with
 | zero =>
  intro c
  cases c with
  | nil=>rfl
  | cons x c=>exact(congrArg (1*x+·) (ac4 c)).trans ((Int.add_zero _).trans (Int.one_mul x))
 | succ i ih =>
  intro c
  cases c with
  | nil=>rfl
  | cons x c=>exact(congrArg (·+cN (a25 i) c) (Int.zero_mul x)).trans ((Int.zero_add _).trans (ih c))
theorem av9(x y:Int):x+-1*y=x-y:=by rw[Int.neg_mul,Int.one_mul]; rfl
theorem Ln.po_ev(c:List Int)(x:Ln):cN x.po (1::c)=x.ev c:=by
 induction x with
 | v i=>exact(congrArg (·+cN (a25 i) c) (Int.zero_mul 1)).trans ((Int.zero_add _).trans (br5 i c))
 | k n=>exact(congrArg (n*1+·) (ac4 c)).trans ((Int.add_zero _).trans (Int.mul_one n))
 | a x y p q=>exact(af3 _ _ _).trans (by rw[p,q]; rfl)
 | s x y p q=>exact(af3 _ _ _).trans (by rw[af2,p,q,av9]; rfl)
 | m n x p=>exact(af2 _ _ _).trans (by rw[p]; rfl)
noncomputable def dif(l r:Ln):List Int:=ag8 r.po (aj2 (-1) l.po)
theorem bj6(c:List Int)(l r:Ln):cN (dif l r) (1::c)=r.ev c-l.ev c:=(af3 _ _ _).trans (by rw[af2,Ln.po_ev,Ln.po_ev,av9])
def Imp(c:List Int)(hs:List (Ln×Ln×Nat))(g:Prop):Prop:=hs.foldr (fun p q=>p.1.ev c<=p.2.1.ev c->q) g
noncomputable def bn6(hs:List (Ln×Ln×Nat)):List Int:=hs.foldr (fun p q=>ag8 (aj2 p.2.2 (dif p.1 p.2.1)) q) []
noncomputable def okP(x:List Int):Bool:=decide (0<=x.headD 0)&&x.tail.all (·==0)
theorem br4(x:List Int):∀ c:List Int,x.all (·==0)=true->cN x c=0:=by
 induction x with
 | nil=>exact fun c Z=>ac4 c
 | cons a x ih =>
  intro c h
  cases c with
  | nil=>rfl
  | cons d c =>
   obtain⟨h1,h2⟩:=Bool.and_eq_true_iff.mp h
   show a*d+cN x c=0
   rw[ih c h2,eq_of_beq h1,Int.zero_mul]; rfl
theorem cc5(x c:List Int)(h:okP x=true):0<=cN x (1::c):=by
 obtain⟨h1,h2⟩:=Bool.and_eq_true_iff.mp h
 cases x with
 | nil=>exact Int.le_refl 0
 | cons a x =>
  show 0<=a*1+cN x c
  rw[br4 x c h2,Int.mul_one,Int.add_zero];exact of_decide_eq_true h1
theorem by9(c:List Int){g:Prop}(hs:List (Ln×Ln×Nat)):(0<=cN (bn6 hs) (1::c)->g)->Imp c hs g:=by
 induction hs with
 | nil=>exact fun H=>H (Int.le_refl 0)
 | cons p t ih =>
  refine fun H hp=>ih fun h=>H ?_
  show 0<=cN (ag8 (aj2 p.2.2 (dif p.1 p.2.1)) (bn6 t)) (1::c)
  rw[af3,af2,bj6];exact Int.add_nonneg (Int.mul_nonneg (Int.natCast_nonneg _) (Int.sub_nonneg_of_le hp)) h
theorem dl4{D x S:Int}(hD:0<D)(h:0<=D*x+(D-1-S))(hS:0<=S):0<=x:=Int.not_lt.mp fun q=>by
 have:=Int.mul_le_mul_of_nonneg_left (Int.add_one_le_of_lt q) (Int.le_of_lt hD);rw[Int.mul_add,Int.mul_one,Int.mul_zero] at this
 omega
theorem aa(D:Nat)(c:List Int)(hs:List (Ln×Ln×Nat))(l r:Ln)(ok:(decide (0<D)&&okP (ag8 (aj2 D (dif l r)) (ag8 [(D:Int)-1] (aj2 (-1) (bn6 hs)))))=true):Imp c hs (l.ev c<=r.ev c) :=
 by9 c hs fun hS=>by
  obtain⟨o1,o2⟩:=Bool.and_eq_true_iff.mp ok;have h:=cc5 _ c o2;rw[af3,af2,af3,af2,bj6,av9] at h;have e2:cN [(D:Int)-1] (1::c)=D-1:=(congrArg (((D:Int)-1)*1+·) (ac4 c)).trans ((Int.add_zero _).trans (Int.mul_one _));rw[e2] at h;exact Int.le_of_sub_nonneg (dl4 (Int.ofNat_lt.mpr (of_decide_eq_true o1)) h hS)
noncomputable abbrev qa:Ln:=.v 0
noncomputable abbrev qb:Ln:=.v 1
noncomputable abbrev qc:Ln:=.v 2
noncomputable abbrev qd:Ln:=.v 3
noncomputable abbrev qe:Ln:=.v 4
noncomputable abbrev qf:Ln:=.v 5
noncomputable abbrev qg:Ln:=.v 6
noncomputable abbrev qh:Ln:=.v 7
theorem tn{a:Int}(h:(0:Int)<=a):((a.toNat:Nat):Int)<=a:=Int.le_of_eq (Int.toNat_of_nonneg h)
theorem sb(a b:Nat):a<=(a-b)+b:=Nat.le_add_of_sub_le (Nat.le_refl _)
theorem sc{a b:Nat}(h:b<=a):(a-b)+b<=a:=jB (Nat.sub_add_cancel h)
theorem sz{a b:Nat}(h:a<=b):a-b<=0:=jB (Nat.sub_eq_zero_of_le h)
theorem dv(a k m:Nat)(h:k=m+1):a<=k*(a/k)+m:=jr (jB (Nat.div_add_mod a k).symm) (Nat.add_le_add_left (Nat.le_of_lt_succ (Nat.lt_of_lt_of_eq (Nat.mod_lt a (Nat.lt_of_lt_of_eq (Nat.succ_pos m) h.symm)) h)) _)
theorem di(a k:Int)(h:0<k):k*(a/k)<=a:=Int.mul_ediv_self_le (Int.ne_of_gt h)
theorem dj(a k m:Int)(h:0<k)(e:k=m+1):a<=k*(a/k)+m:=Int.le_of_lt_add_one (Int.lt_of_lt_of_le (Int.lt_mul_ediv_self_add h) (Int.le_of_eq ((congrArg (k*(a/k)+·) e).trans (Int.add_assoc _ _ _).symm)))
theorem nn(a:Nat):(0:Int)<=(a:Int):=Int.natCast_nonneg a
theorem h1{a b:Nat}(h:a<=b):(a:Int)<=(b:Int):=Int.ofNat_le.mpr h
theorem h2{a b:Nat}(h:a<b):(a:Int)+1<=(b:Int):=Int.ofNat_le.mpr h
theorem h3{a b:Nat}(h:a=b):(a:Int)<=(b:Int):=Int.ofNat_le.mpr (jB h)
theorem h4{a b:Nat}(h:a=b):(b:Int)<=(a:Int):=Int.ofNat_le.mpr (jB h.symm)
theorem h5{a b:Nat}(h:¬a<=b):(b:Int)+1<=(a:Int):=Int.ofNat_le.mpr (Nat.lt_of_not_le h)
theorem h6{a b:Nat}(h:¬a<b):(b:Int)<=(a:Int):=Int.ofNat_le.mpr (Nat.le_of_not_lt h)
theorem i3{a b:Int}(h:a=b):a<=b:=Int.le_of_eq h
theorem i4{a b:Int}(h:a=b):b<=a:=Int.le_of_eq h.symm
theorem i5{a b:Int}(h:¬a<=b):b+1<=a:=Int.lt_of_not_ge h
theorem i6{a b:Int}(h:¬a<b):b<=a:=Int.not_lt.mp h
theorem n1{a b:Nat}(h:(a:Int)<=(b:Int)):a<=b:=Int.ofNat_le.mp h
theorem n2{a b:Nat}(h:(a:Int)+1<=(b:Int)):a<b:=Int.ofNat_lt.mp h
theorem n3{a b:Nat}(h:(a:Int)<=(b:Int))(k:(b:Int)<=(a:Int)):a=b:=Nat.le_antisymm (n1 h) (n1 k)
theorem n6{a b:Nat}(h:(b:Int)<=(a:Int)):¬a<b:=Nat.not_lt.mpr (n1 h)
theorem n8{a b:Nat}(h:(b:Int)+1<=(a:Int)):a≠b:=jJ (n2 h)
theorem i2{a b:Int}(h:a+1<=b):a<b:=h
theorem c0{a b:Int}(h:a<=b)(k:b<=a):a=b:=Int.le_antisymm h k
theorem eS{a b:Int}(h:b+1<=a):¬a<=b:=Int.not_le.mpr h
theorem eo{a b:Int}(h:b<=a):¬a<b:=Int.not_lt.mpr h
theorem i7{a b:Int}(h:a+1<=b):a≠b:=Int.ne_of_lt h
theorem i8{a b:Int}(h:b+1<=a):a≠b:=Int.ne_of_gt h
theorem na{y:Int}{k:Nat}(h0:0<=y)(h:y<k):y.natAbs<k:=Int.ofNat_lt.mp (Int.lt_of_le_of_lt (Int.le_of_eq (Int.natAbs_of_nonneg h0)) h)
theorem n36{t:Int}{k:Nat}(h:1<=t/\t<=26)(hk:autoParam (36<=k) aD):(36-t).natAbs<k:=na (Int.sub_nonneg_of_le (Int.le_trans h.2 (by decide))) (Int.lt_of_lt_of_le (Int.sub_lt_self 36 (Int.lt_of_lt_of_le (by decide) h.1)) (Int.ofNat_le.mpr hk))
end
section
variable{a b c d e f g h i:Nat}
mutual
theorem z0(x0:c=b)(x1:a<c):a<b:=Nat.lt_of_lt_of_le x1 (Nat.le_of_eq x0)
theorem z1{a b:Int}(x0:((0:Int)<=a)/\(a<b)):a.toNat<b.toNat:=n2 (aa 1 [a,b,(a.toNat:Int),(b.toNat:Int)] [(.a qa (.k 1),qb,1),(qb,qd,1),(qc,qa,1)] (.a qc (.k 1)) qd rfl x0.2 (Int.self_le_toNat (b)) (tn (aa 1 [a,b,(a.toNat:Int),(b.toNat:Int)] [(.k 0,qa,1)] (.k 0) qa rfl x0.1)))
theorem z2(x0:(a+1)<=40):(40-a)=((40-(a+1))+1):=n3 (aa 1 [(a:Int),((40-a:Nat):Int),((40-(a+1):Nat):Int)] [(.k 40,.a qc (.a qa (.k 1)),1),(.a qb qa,.k 40,1)] qb (.a qc (.k 1)) rfl (h1 (sb (40) (a+1))) (h1 (sc (n1 (aa 1 [(a:Int),((40-a:Nat):Int),((40-(a+1):Nat):Int)] [(.a qa (.k 1),.k 40,1)] qa (.k 40) rfl (h1 x0)))))) (aa 1 [(a:Int),((40-a:Nat):Int),((40-(a+1):Nat):Int)] [(.k 40,.a qb qa,1),(.a qc (.a qa (.k 1)),.k 40,1)] (.a qc (.k 1)) qb rfl (h1 (sb (40) (a))) (h1 (sc (n1 (aa 1 [(a:Int),((40-a:Nat):Int),((40-(a+1):Nat):Int)] [(.a qa (.k 1),.k 40,1)] (.a qa (.k 1)) (.k 40) rfl (h1 x0))))))
theorem a20(x0:(b-a)=(c+1)):a<b:=Nat.sub_pos_iff_lt.mp (x0▸Nat.succ_pos c)
theorem z3{a c:Int}(x0:c.toNat<d)(x1:a<=(c/2))(x2:d=(2*b)):a.toNat<b:=by
  subst x2;exact(Int.toNat_lt' (Nat.pos_of_ne_zero fun e=>by subst e;exact Nat.not_lt_zero _ x0)).mpr (Int.lt_of_le_of_lt x1 (Int.ediv_lt_of_lt_mul (by decide) (Int.mul_comm 2 b▸(Int.toNat_lt' (Nat.zero_lt_of_lt x0)).mp x0)))
theorem z4(x0:(a-b)=(c+1)):(a-(((b+a)/2)+1))<=c:=Nat.le_trans (Nat.sub_le_sub_left (Nat.succ_le_succ ((Nat.le_div_iff_mul_le (Nat.succ_pos 1)).mpr (Nat.mul_two b▸Nat.add_le_add_left (Nat.le_of_lt (a20 x0)) b))) a) (Nat.le_of_eq ((Nat.sub_sub a b 1).symm.trans (congrArg (·-1) x0)))
theorem z5(x0:(b-a)=(c+1)):(((a+b)/2)-a)<=c:=Nat.le_trans (Nat.sub_le_sub_right (Nat.le_sub_one_of_lt (Nat.div_lt_of_lt_mul (Nat.two_mul b▸Nat.add_lt_add_right (a20 x0) b))) a) (Nat.le_of_eq ((Nat.sub_right_comm b 1 a).trans (congrArg (·-1) x0)))
theorem z6(x0:b<=30)(x1:a=b):a<=1000000:=Nat.le_trans (Nat.le_trans (Nat.le_of_eq x1) x0) (by decide)
theorem z7(x0:a<=1000):a<=1000000:=Nat.le_trans x0 (by decide)
theorem z8{a:Int}(x0:((1:Int)<=a)/\(a<=26)):(36-a)≠0:=i8 (aa 1 [a] [(qa,.k 26,1)] (.a (.k 0) (.k 1)) (.s (.k 36) qa) rfl x0.2)
theorem z9:(0:Int)<=(a:Int):=aa 1 [(a:Int)] [(.k 0,qa,1)] (.k 0) qa rfl (nn a)
theorem z10{a b c d:Int}(x0:d<=(b-c))(x1:(a*2)<=d):(a*2)<=(b-c):=Int.le_trans x1 x0
theorem z11(x0:b<a):(a-(b+1))<(a-b):=n2 (aa 1 [(b:Int),(a:Int),((a-(b+1):Nat):Int),((a-b:Nat):Int)] [(qb,.a qd qa,1),(.a qc (.a qa (.k 1)),qb,1)] (.a qc (.k 1)) qd rfl (h1 (sb (a) (b))) (h1 (sc (n1 (aa 1 [(b:Int),(a:Int),((a-(b+1):Nat):Int),((a-b:Nat):Int)] [(.a qa (.k 1),qb,1)] (.a qa (.k 1)) qb rfl (h2 x0))))))
theorem z12(x0:b<a):(a-b)=(((a-b)-1)+1):=n3 (aa 1 [(b:Int),(a:Int),((a-b:Nat):Int),(((a-b)-1:Nat):Int)] [(qc,.a qd (.k 1),1)] qc (.a qd (.k 1)) rfl (h1 (sb (a-b) (1)))) (aa 1 [(b:Int),(a:Int),((a-b:Nat):Int),(((a-b)-1:Nat):Int)] [(.a qd (.k 1),qc,1)] (.a qd (.k 1)) qc rfl (h1 (sc (n1 (aa 1 [(b:Int),(a:Int),((a-b:Nat):Int),(((a-b)-1:Nat):Int)] [(.a qa (.k 1),qb,1),(qb,.a qc qa,1)] (.k 1) qc rfl (h2 x0) (h1 (sb (a) (b))))))))
theorem z13{a:Int}(x0:(455:Int)<a):(0:Int)<=(a/35):=aa 35 [a,(a/35)] [(.a (.k 455) (.k 1),qa,1),(qa,.a (.m 35 qb) (.k 34),1)] (.k 0) qb rfl x0 (dj (a) 35 34 (by decide) rfl)
theorem z97{a:Int}(x0:a.toNat<=(b+1)):((a/35)).toNat<=b:=Int.toNat_le.mpr (Int.le_of_lt_add_one (Int.ediv_lt_of_lt_mul (by decide) (Int.lt_of_le_of_lt (Int.toNat_le.mp x0) (Int.ofNat_lt.mpr ((Nat.lt_mul_iff_one_lt_right (Nat.succ_pos b)).mpr (by decide:1<35))))))
theorem z14{a:Int}(x0:a.toNat=(b+1)):((a/35)).toNat<=b:=z97 (Nat.le_of_eq x0)
theorem z15:(((min a b)+1)+(b-a))=(b+1):=(Nat.le_total a b).elim (fun y0=>n3 (aa 1 [((min a b:Nat):Int),(a:Int),(b:Int),((b-a:Nat):Int)] [(qa,qb,1),(.a qd qb,qc,1)] (.a (.a qa (.k 1)) qd) (.a qc (.k 1)) rfl (h1 (Nat.min_le_left a b)) (h1 (sc (n1 (aa 1 [((min a b:Nat):Int),(a:Int),(b:Int),((b-a:Nat):Int)] [(qb,qc,1)] qb qc rfl (h1 y0)))))) (aa 1 [((min a b:Nat):Int),(a:Int),(b:Int),((b-a:Nat):Int)] [(qc,.a qd qb,1),(qb,qa,1)] (.a qc (.k 1)) (.a (.a qa (.k 1)) qd) rfl (h1 (sb (b) (a))) (h1 (Nat.le_min.mpr ⟨Nat.le_refl _,(n1 (aa 1 [((min a b:Nat):Int),(a:Int),(b:Int),((b-a:Nat):Int)] [(qb,qc,1)] qb qc rfl (h1 y0)))⟩)))) (fun y0=>n3 (aa 1 [((min a b:Nat):Int),(a:Int),(b:Int),((b-a:Nat):Int)] [(qa,qc,1),(qd,.k 0,1)] (.a (.a qa (.k 1)) qd) (.a qc (.k 1)) rfl (h1 (Nat.min_le_right a b)) (h1 (sz (n1 (aa 1 [((min a b:Nat):Int),(a:Int),(b:Int),((b-a:Nat):Int)] [(qc,qb,1)] qc qb rfl (h1 y0)))))) (aa 1 [((min a b:Nat):Int),(a:Int),(b:Int),((b-a:Nat):Int)] [(.k 0,qd,1),(qc,qa,1)] (.a qc (.k 1)) (.a (.a qa (.k 1)) qd) rfl (nn (b-a)) (h1 (Nat.le_min.mpr ⟨(n1 (aa 1 [((min a b:Nat):Int),(a:Int),(b:Int),((b-a:Nat):Int)] [(qc,qb,1)] qc qb rfl (h1 y0))),Nat.le_refl _⟩))))
theorem eP(x0:a<b):(a:Int)<(b:Int):=i2 (aa 1 [(a:Int),(b:Int)] [(.a qa (.k 1),qb,1)] (.a qa (.k 1)) qb rfl (h2 x0))
theorem z17(x0:c=(b-1))(x1:a<(min d c)):(a+1)<b:=n2 (aa 1 [(c:Int),((b-1:Nat):Int),(b:Int),(a:Int),((min d c:Nat):Int),(d:Int)] [(qa,qb,1),(.a qd (.k 1),qe,1),(qe,qa,1),(.a qb (.k 1),qc,1)] (.a (.a qd (.k 1)) (.k 1)) qc rfl (h3 x0) (h2 x1) (h1 (Nat.min_le_right d c)) (h1 (sc (n1 (aa 1 [(c:Int),((b-1:Nat):Int),(b:Int),(a:Int),((min d c:Nat):Int),(d:Int)] [(qa,qb,1),(.a qd (.k 1),qe,1),(qb,qc,1),(.k 0,qd,1),(qe,qa,1)] (.k 1) qc rfl (h3 x0) (h2 x1) (h1 (Nat.sub_le (b) (1))) (nn a) (h1 (Nat.min_le_right d c)))))))
theorem z18{a:Int}(x0:(455:Int)<a):((a/35)).toNat<a.toNat:=n2 (aa 35 [a,((((a/35)).toNat:Nat):Int),(a/35),(a.toNat:Int)] [(.a (.k 455) (.k 1),qa,34),(.m 35 qc,qa,1),(qa,qd,35),(qb,qc,35)] (.a qb (.k 1)) qd rfl x0 (di (a) 35 (by decide)) (Int.self_le_toNat (a)) (tn (aa 35 [a,((((a/35)).toNat:Nat):Int),(a/35),(a.toNat:Int)] [(.a (.k 455) (.k 1),qa,1),(qa,.a (.m 35 qc) (.k 34),1)] (.k 0) qc rfl x0 (dj (a) 35 34 (by decide) rfl))))
theorem z19:(min a (a-1))=(a-1):=n3 (aa 1 [((min a (a-1):Nat):Int),(a:Int),((a-1:Nat):Int)] [(qa,qc,1)] qa qc rfl (h1 (Nat.min_le_right a (a-1)))) (aa 1 [((min a (a-1):Nat):Int),(a:Int),((a-1:Nat):Int)] [(qc,qa,1)] qc qa rfl (h1 (Nat.le_min.mpr ⟨(n1 (aa 1 [((min a (a-1):Nat):Int),(a:Int),((a-1:Nat):Int)] [(qc,qb,1)] qc qb rfl (h1 (Nat.sub_le (a) (1))))),Nat.le_refl _⟩)))
theorem eB{a:Int}(x0:(0:Int)<=a):(0:Int)<=(a+1):=aa 1 [a] [(.k 0,qa,1)] (.k 0) (.a qa (.k 1)) rfl x0
theorem z21{b c:Int}(x0:b.toNat<(2^0))(x1:((1:Int)<=c)/\(c<=26))(x2:¬(b<c)):(a+1)<=40:=absurd (Int.lt_of_lt_of_le ((Int.toNat_lt' (by decide)).mp x0) x1.1) x2
theorem z22{a:Int}(x0:((0:Int)<=a)/\(a<44032)):(((0:Int)<=a)/\(a<=1114111))/\((a<55296)\/((57343:Int)<a)):=⟨⟨(aa 1 [a] [(.k 0,qa,1)] (.k 0) qa rfl x0.1),(aa 1 [a] [(.a qa (.k 1),.k 44032,1)] qa (.k 1114111) rfl x0.2)⟩,.inl (i2 (aa 1 [a] [(.a qa (.k 1),.k 44032,1)] (.a qa (.k 1)) (.k 55296) rfl x0.2))⟩
theorem z23{a b c:Int}(x0:((1:Int)<=c)/\(c<=26))(x1:a<=((b-c)/2)):a<=(b/2):=aa 2 [c,a,((b-c)/2),b,(b/2)] [(.k 1,qa,1),(qb,qc,2),(.m 2 qc,.s qd qa,1),(qd,.a (.m 2 qe) (.k 1),1)] qb qe rfl x0.1 x1 (di (b-c) 2 (by decide)) (dj (b) 2 1 (by decide) rfl)
theorem z24(x0:(0:Nat)<a):(a-1)<a:=n2 (aa 1 [(a:Int),((a-1:Nat):Int)] [(.a qb (.k 1),qa,1)] (.a qb (.k 1)) qa rfl (h1 (sc (n1 (aa 1 [(a:Int),((a-1:Nat):Int)] [(.a (.k 0) (.k 1),qa,1)] (.k 1) qa rfl (h2 x0))))))
theorem z25(x0:(a-b)<=(c+1)):(a-(((b+a)/2)+1))<=c:=(Nat.le_total (b) (a)).elim (fun y0=>(Nat.le_total (((b+a)/2)+1) (a)).elim (fun y1=>n1 (aa 1 [((a-b:Nat):Int),(a:Int),(b:Int),(c:Int),((a-(((b+a)/2)+1):Nat):Int),(((b+a)/2:Nat):Int)] [(qa,.a qd (.k 1),1),(.a qf (.k 1),qb,1),(qb,.a qa qc,1),(.a qc qb,.a (.m 2 qf) (.k 1),1),(.a qe (.a qf (.k 1)),qb,1)] qe qd rfl (h1 x0) (h1 y1) (h1 (sb (a) (b))) (h1 (dv (b+a) 2 1 rfl)) (h1 (sc (n1 (aa 1 [((a-b:Nat):Int),(a:Int),(b:Int),(c:Int),((a-(((b+a)/2)+1):Nat):Int),(((b+a)/2:Nat):Int)] [(.a qf (.k 1),qb,1)] (.a qf (.k 1)) qb rfl (h1 y1))))))) (fun y1=>n1 (aa 1 [((a-b:Nat):Int),(a:Int),(b:Int),(c:Int),((a-(((b+a)/2)+1):Nat):Int),(((b+a)/2:Nat):Int)] [(.k 0,qd,1),(qe,.k 0,1)] qe qd rfl (nn c) (h1 (sz (n1 (aa 1 [((a-b:Nat):Int),(a:Int),(b:Int),(c:Int),((a-(((b+a)/2)+1):Nat):Int),(((b+a)/2:Nat):Int)] [(qb,.a qf (.k 1),1)] qb (.a qf (.k 1)) rfl (h1 y1)))))))) (fun y0=>n1 (aa 1 [((a-b:Nat):Int),(a:Int),(b:Int),(c:Int),((a-(((b+a)/2)+1):Nat):Int),(((b+a)/2:Nat):Int)] [(.k 0,qd,1),(qe,.k 0,1)] qe qd rfl (nn c) (h1 (sz (n1 (aa 2 [((a-b:Nat):Int),(a:Int),(b:Int),(c:Int),((a-(((b+a)/2)+1):Nat):Int),(((b+a)/2:Nat):Int)] [(qb,qc,1),(.a qc qb,.a (.m 2 qf) (.k 1),1)] qb (.a qf (.k 1)) rfl (h1 y0) (h1 (dv (b+a) 2 1 rfl))))))))
theorem d9:(0:Int)<=((a:Int)+1):=aa 1 [(a:Int)] [(.k 0,qa,1)] (.k 0) (.a qa (.k 1)) rfl (nn a)
theorem z29(x0:(b:Int)<(a:Int)):(a-(((b+a)/2)+1))<(a-b):=n2 (aa 2 [(b:Int),(a:Int),((a-(((b+a)/2)+1):Nat):Int),(((b+a)/2:Nat):Int),((a-b:Nat):Int)] [(.a qa (.k 1),qb,1),(.a qa qb,.a (.m 2 qd) (.k 1),1),(qb,.a qe qa,2),(.a qc (.a qd (.k 1)),qb,2)] (.a qc (.k 1)) qe rfl x0 (h1 (dv (b+a) 2 1 rfl)) (h1 (sb (a) (b))) (h1 (sc (n1 (aa 2 [(b:Int),(a:Int),((a-(((b+a)/2)+1):Nat):Int),(((b+a)/2:Nat):Int),((a-b:Nat):Int)] [(.a qa (.k 1),qb,1),(.m 2 qd,.a qa qb,1)] (.a qd (.k 1)) qb rfl x0 (h1 (Nat.mul_div_le (b+a) 2)))))))
theorem eO(x0:a<=b):a<=(b+1):=n1 (aa 1 [(a:Int),(b:Int)] [(qa,qb,1)] qa (.a qb (.k 1)) rfl (h1 x0))
theorem z32{a d:Int}(x0:b<=60)(x1:c=b)(x2:((0:Int)<=d)/\(d<44032))(x3:e<c)(x4:a<=((d*61)+(e:Int))):a<(2^40):=Int.lt_of_le_of_lt (Int.le_trans x4 (Int.add_le_add (Int.mul_le_mul_of_nonneg_right (Int.le_of_lt x2.2) (by decide)) (Int.ofNat_le.mpr (Nat.le_of_lt (Nat.lt_of_lt_of_le (x1▸x3) x0))))) (by decide)
theorem z33(x0:(a:Int)<(b:Int)):(((a+b)/2)-a)<(b-a):=n2 (aa 2 [(a:Int),(b:Int),((((a+b)/2)-a:Nat):Int),(((a+b)/2:Nat):Int),((b-a:Nat):Int)] [(.a qa (.k 1),qb,1),(.m 2 qd,.a qa qb,1),(qb,.a qe qa,2),(.a qc qa,qd,2)] (.a qc (.k 1)) qe rfl x0 (h1 (Nat.mul_div_le (a+b) 2)) (h1 (sb (b) (a))) (h1 (sc (n1 (aa 2 [(a:Int),(b:Int),((((a+b)/2)-a:Nat):Int),(((a+b)/2:Nat):Int),((b-a:Nat):Int)] [(.a qa (.k 1),qb,1),(.a qa qb,.a (.m 2 qd) (.k 1),1)] qa qd rfl x0 (h1 (dv (a+b) 2 1 rfl)))))))
theorem z34{a:Int}(x0:(455:Int)<a):a.toNat=((a.toNat-1)+1):=n3 (aa 1 [a,(a.toNat:Int),((a.toNat-1:Nat):Int)] [(qb,.a qc (.k 1),1)] qb (.a qc (.k 1)) rfl (h1 (sb (a.toNat) (1)))) (aa 1 [a,(a.toNat:Int),((a.toNat-1:Nat):Int)] [(.a qc (.k 1),qb,1)] (.a qc (.k 1)) qb rfl (h1 (sc (n1 (aa 1 [a,(a.toNat:Int),((a.toNat-1:Nat):Int)] [(.a (.k 455) (.k 1),qa,1),(qa,qb,1)] (.k 1) qb rfl x0 (Int.self_le_toNat (a)))))))
theorem eI(x0:b<=1000)(x1:a=b):a<=1000000:=Nat.le_trans (Nat.le_trans (Nat.le_of_eq x1) x0) (by decide)
theorem z36{b:Int}(x0:b<5)(x1:c<=(((1+b)-0)).toNat)(x2:c=a):a<=5:=x2▸Nat.le_trans x1 (Int.toNat_le.mpr (Int.le_trans (Int.le_of_eq (Int.sub_zero _)) (Int.add_le_add_left (Int.le_of_lt_add_one (show b<4+1 from x0)) 1)))
theorem z38(x0:(b-a)<=(c+1)):(((a+b)/2)-a)<=c:=(Nat.le_total (a) (b)).elim (fun y0=>n1 (aa 2 [((b-a:Nat):Int),(b:Int),(a:Int),(c:Int),((((a+b)/2)-a:Nat):Int),(((a+b)/2:Nat):Int)] [(qa,.a qd (.k 1),1),(qb,.a qa qc,1),(.k 0,qd,1),(.m 2 qf,.a qc qb,1),(.a qe qc,qf,2)] qe qd rfl (h1 x0) (h1 (sb (b) (a))) (nn c) (h1 (Nat.mul_div_le (a+b) 2)) (h1 (sc (n1 (aa 2 [((b-a:Nat):Int),(b:Int),(a:Int),(c:Int),((((a+b)/2)-a:Nat):Int),(((a+b)/2:Nat):Int)] [(qc,qb,1),(.a qc qb,.a (.m 2 qf) (.k 1),1)] qc qf rfl (h1 y0) (h1 (dv (a+b) 2 1 rfl)))))))) (fun y0=>n1 (aa 1 [((b-a:Nat):Int),(b:Int),(a:Int),(c:Int),((((a+b)/2)-a:Nat):Int),(((a+b)/2:Nat):Int)] [(.k 0,qd,1),(qe,.k 0,1)] qe qd rfl (nn c) (h1 (sz (n1 (aa 2 [((b-a:Nat):Int),(b:Int),(a:Int),(c:Int),((((a+b)/2)-a:Nat):Int),(((a+b)/2:Nat):Int)] [(qb,qc,1),(.m 2 qf,.a qc qb,1)] qf qc rfl (h1 y0) (h1 (Nat.mul_div_le (a+b) 2))))))))
theorem z39:(0:Int)<((a:Int)+1):=i2 (aa 1 [(a:Int)] [(.k 0,qa,1)] (.a (.k 0) (.k 1)) (.a qa (.k 1)) rfl (nn a))
theorem z40(x0:b=a)(x1:(1:Int)<(b:Int)):(0:Nat)<a:=n2 (aa 1 [(b:Int),(a:Int)] [(qa,qb,1),(.a (.k 1) (.k 1),qa,1)] (.a (.k 0) (.k 1)) qb rfl (h3 x0) x1)
theorem z41{a b c d:Int}(x0:a<=(d*61))(x1:((0:Int)<=b)/\(b<=((c-d)*61))):(a+b)<=((c*61)+((0:Nat):Int)):=Int.le_trans (Int.add_le_add x0 x1.2) (Int.le_of_eq ((Int.add_mul d (c-d) 61).symm.trans ((congrArg (·*61) ((Int.add_comm d (c-d)).trans (Int.sub_add_cancel c d))).trans (Int.add_zero _).symm)))
theorem eN(x0:a=4):a<(2^60):=n2 (aa 1 [(a:Int)] [(qa,.k 4,1)] (.a qa (.k 1)) (.k 1152921504606846976) rfl (h3 x0))
theorem z44(x0:a<b):(a-1)<b:=n2 (aa 1 [(a:Int),(b:Int),((a-1:Nat):Int)] [(.a qa (.k 1),qb,1),(qc,qa,1)] (.a qc (.k 1)) qb rfl (h2 x0) (h1 (Nat.sub_le (a) (1))))
theorem z45{a c:Int}(x0:c.toNat<(b+1))(x1:((0:Int)<=a)/\(a<c)):a.toNat<b:=n2 (aa 1 [(c.toNat:Int),c,(b:Int),a,(a.toNat:Int)] [(.a qa (.k 1),.a qc (.k 1),1),(.a qd (.k 1),qb,1),(qb,qa,1),(qe,qd,1)] (.a qe (.k 1)) qc rfl (h2 x0) x1.2 (Int.self_le_toNat (c)) (tn (aa 1 [(c.toNat:Int),c,(b:Int),a,(a.toNat:Int)] [(.k 0,qd,1)] (.k 0) qd rfl x1.1)))
theorem z46(x0:a<b):((a:Int)).toNat<b:=n2 (aa 1 [(a:Int),(b:Int),((((a:Int)).toNat:Nat):Int)] [(.a qa (.k 1),qb,1),(qc,qa,1)] (.a qc (.k 1)) qb rfl (h2 x0) (tn (aa 1 [(a:Int),(b:Int),((((a:Int)).toNat:Nat):Int)] [(.k 0,qa,1)] (.k 0) qa rfl (nn a))))
theorem z47:((a:Int)).toNat=a:=n3 (aa 1 [((((a:Int)).toNat:Nat):Int),(a:Int)] [(qa,qb,1)] qa qb rfl (tn (aa 1 [((((a:Int)).toNat:Nat):Int),(a:Int)] [(.k 0,qb,1)] (.k 0) qb rfl (nn a)))) (aa 1 [((((a:Int)).toNat:Nat):Int),(a:Int)] [(qb,qa,1)] qb qa rfl (Int.self_le_toNat ((a:Int))))
theorem z48(x0:b<=60)(x1:c<=b)(x2:a=c):a<(2^60):=n2 (aa 1 [(b:Int),(c:Int),(a:Int)] [(qa,.k 60,1),(qb,qa,1),(qc,qb,1)] (.a qc (.k 1)) (.k 1152921504606846976) rfl (h1 x0) (h1 x1) (h3 x2))
theorem z49(x0:c<=60)(x1:b=d)(x2:d=e)(x3:e<c):(((min a b)+1)+(b-a))<=1000000:=n1 (aa 1 [(c:Int),(b:Int),(d:Int),(e:Int),((min a b:Nat):Int),(a:Int),((b-a:Nat):Int)] [(qa,.k 60,2),(qb,qc,2),(qc,qd,2),(.a qd (.k 1),qa,2),(qe,qb,1),(qg,qb,1)] (.a (.a qe (.k 1)) qg) (.k 1000000) rfl (h1 x0) (h3 x1) (h3 x2) (h2 x3) (h1 (Nat.min_le_right a b)) (h1 (Nat.sub_le (b) (a))))
theorem z50(x0:(40:Nat)<=a):(40-a)=0:=n3 (aa 1 [(a:Int),((40-a:Nat):Int)] [(qb,.k 0,1)] qb (.k 0) rfl (h1 (sz (n1 (aa 1 [(a:Int),((40-a:Nat):Int)] [(.k 40,qa,1)] (.k 40) qa rfl (h1 x0)))))) (aa 1 [(a:Int),((40-a:Nat):Int)] [(.k 0,qb,1)] (.k 0) qb rfl (nn (40-a)))
theorem z51(x0:c<=60)(x1:b=d)(x2:d<c):(((min a b)+1)+(b-a))<=1000000:=n1 (aa 1 [(c:Int),(b:Int),(d:Int),((min a b:Nat):Int),(a:Int),((b-a:Nat):Int)] [(qa,.k 60,2),(qb,qc,2),(.a qc (.k 1),qa,2),(qd,qb,1),(qf,qb,1)] (.a (.a qd (.k 1)) qf) (.k 1000000) rfl (h1 x0) (h3 x1) (h2 x2) (h1 (Nat.min_le_right a b)) (h1 (Nat.sub_le (b) (a))))
theorem z52{a c:Int}(x0:(b:Int)=(c+(d:Int)))(x1:(0:Int)<=a):((253:Nat)<(a.toNat+b))↔((253:Int)<(((a+c)+(((d+1):Nat):Int))-1)):=⟨fun y0=>i2 (aa 1 [(b:Int),c,(d:Int),a,(a.toNat:Int)] [(qa,.a qb qc,1),(.a (.k 253) (.k 1),.a qe qa,1),(qe,qd,1)] (.a (.k 253) (.k 1)) (.s (.a (.a qd qb) (.a qc (.k 1))) (.k 1)) rfl (i3 x0) (h2 y0) (tn (aa 1 [(b:Int),c,(d:Int),a,(a.toNat:Int)] [(.k 0,qd,1)] (.k 0) qd rfl x1))),fun y0=>n2 (aa 1 [(b:Int),c,(d:Int),a,(a.toNat:Int)] [(.a qb qc,qa,1),(.a (.k 253) (.k 1),.s (.a (.a qd qb) (.a qc (.k 1))) (.k 1),1),(qd,qe,1)] (.a (.k 253) (.k 1)) (.a qe qa) rfl (i4 x0) y0 (Int.self_le_toNat (a)))⟩
theorem z53(x0:c<=60)(x1:d<c)(x2:a<=d):((min a b)+1)<=1000000:=Nat.le_trans (Nat.succ_le_succ (Nat.min_le_left a b)) (Nat.le_trans (Nat.lt_of_le_of_lt x2 x1) (Nat.le_trans x0 (by decide)))
theorem z54(x0:(c-a)=(b+d))(x1:(0:Nat)<b):((a+b)<=c)/\((0:Nat)<b):=⟨Nat.le_trans (Nat.add_le_add_left (Nat.le_add_right b d) a) (Nat.le_of_eq ((congrArg (a+·) x0.symm).trans (Nat.add_sub_of_le (Nat.le_of_lt (Nat.sub_pos_iff_lt.mp (x0▸Nat.lt_of_lt_of_le x1 (Nat.le_add_right b d))))))),x1⟩
theorem z55(x0:c<=120)(x1:d<=(61+(41*c)))(x2:a=d)(x3:e<=(40+1))(x4:b=e):(a+b)<=1000000:=n1 (aa 1 [(c:Int),(d:Int),(a:Int),(e:Int),(b:Int)] [(qa,.k 120,41),(qb,.a (.k 61) (.m 41 qa),1),(qc,qb,1),(qd,.a (.k 40) (.k 1),1),(qe,qd,1)] (.a qc qe) (.k 1000000) rfl (h1 x0) (h1 x1) (h3 x2) (h1 x3) (h3 x4))
theorem z57{a b c d:Int}(x0:(0:Int)<=a)(x1:((0:Int)<=b)/\(b<=((c-d)*61))):(0:Int)<=(a+b):=aa 1 [a,b,c,d] [(.k 0,qa,1),(.k 0,qb,1)] (.k 0) (.a qa qb) rfl x0 x1.1
theorem z58{a:Int}(x0:((1:Int)<=a)/\(a<=26)):(0:Int)<=(36-a):=aa 1 [a] [(qa,.k 26,1)] (.k 0) (.s (.k 36) qa) rfl x0.2
theorem z59:(((a:Int)-1)).toNat=(a-1):=Int.toNat_sub a 1
theorem z60{a c f g:Int}(x0:b<=60)(x1:(0:Int)<=c)(x2:d<b)(x3:e<=d)(x4:((f+c)+a)=(g+(e:Int)))(x5:g<=(44032*61))(x6:(0:Int)<=f):a<(2^40):=i2 (aa 1 [(b:Int),c,(d:Int),(e:Int),f,a,g] [(qa,.k 60,1),(.k 0,qb,1),(.a qc (.k 1),qa,1),(qd,qc,1),(.a (.a qe qb) qf,.a qg qd,1),(qg,.m 44032 (.k 61),1),(.k 0,qe,1)] (.a qf (.k 1)) (.k 1099511627776) rfl (h1 x0) x1 (h2 x2) (h1 x3) (i3 x4) x5 x6)
theorem eM{a b:Int}(x0:b<=a):(0:Int)<=(a-b):=aa 1 [b,a] [(qa,qb,1)] (.k 0) (.s qb qa) rfl x0
theorem z62(x0:b<=1000)(x1:a<b):(1001-(a+1))<(1001-a):=n2 (aa 1 [(b:Int),(a:Int),((1001-(a+1):Nat):Int),((1001-a:Nat):Int)] [(.k 1001,.a qd qb,1),(.a qc (.a qb (.k 1)),.k 1001,1)] (.a qc (.k 1)) qd rfl (h1 (sb (1001) (a))) (h1 (sc (n1 (aa 1 [(b:Int),(a:Int),((1001-(a+1):Nat):Int),((1001-a:Nat):Int)] [(qa,.k 1000,1),(.a qb (.k 1),qa,1)] (.a qb (.k 1)) (.k 1001) rfl (h1 x0) (h2 x1))))))
theorem z63{a:Int}(x0:a<5):(((1+a)-0)).toNat<=1000000:=Int.toNat_le.mpr (Int.le_trans (Int.le_of_eq (Int.sub_zero _)) (Int.le_trans (Int.add_le_add_left (Int.le_of_lt x0) 1) (by decide)))
theorem z64(x0:c=(b-1))(x1:a<(min d c)):a<b:=n2 (aa 1 [(c:Int),((b-1:Nat):Int),(b:Int),(a:Int),((min d c:Nat):Int),(d:Int)] [(qa,qb,1),(.a qd (.k 1),qe,1),(qe,qa,1),(.a qb (.k 1),qc,1)] (.a qd (.k 1)) qc rfl (h3 x0) (h2 x1) (h1 (Nat.min_le_right d c)) (h1 (sc (n1 (aa 1 [(c:Int),((b-1:Nat):Int),(b:Int),(a:Int),((min d c:Nat):Int),(d:Int)] [(qa,qb,1),(.a qd (.k 1),qe,1),(qb,qc,1),(.k 0,qd,1),(qe,qa,1)] (.k 1) qc rfl (h3 x0) (h2 x1) (h1 (Nat.sub_le (b) (1))) (nn a) (h1 (Nat.min_le_right d c)))))))
theorem z65{a:Int}(x0:c=b)(x1:a<=(c:Int))(x2:(0:Int)<a):((a-1)).toNat<b:=n2 (aa 1 [(c:Int),(b:Int),a,((((a-1)).toNat:Nat):Int)] [(qa,qb,1),(qc,qa,1),(qd,.s qc (.k 1),1)] (.a qd (.k 1)) qb rfl (h3 x0) x1 (tn (aa 1 [(c:Int),(b:Int),a,((((a-1)).toNat:Nat):Int)] [(.a (.k 0) (.k 1),qc,1)] (.k 0) (.s qc (.k 1)) rfl x2)))
theorem z66{a:Int}(x0:((1:Int)<=a)/\(a<=26)):(2:Int)<=(36-a):=aa 1 [a] [(qa,.k 26,1)] (.k 2) (.s (.k 36) qa) rfl x0.2
theorem z67(x0:b<60)(x1:c=d)(x2:d=b)(x3:e<c)(x4:f<=e)(x5:a=f):a<=1000000:=Nat.le_of_lt (Nat.lt_of_lt_of_le (Nat.lt_trans (Nat.lt_of_lt_of_le (Nat.lt_of_lt_of_le (Nat.lt_of_le_of_lt (Nat.le_trans (Nat.le_of_eq x5) x4) x3) (Nat.le_of_eq x1)) (Nat.le_of_eq x2)) x0) (by decide))
theorem z68{a:Int}(x0:a<6):a.toNat<6:=(Int.toNat_lt' (by decide)).mpr x0
theorem z70(x0:c<=30)(x1:b=(c-1)):(min a b)<=1000000:=Nat.le_trans (Nat.min_le_right a b) (x1▸Nat.le_trans (Nat.sub_le c 1) (Nat.le_trans x0 (by decide)))
theorem z71{a b:Int}(x0:c<=60)(x1:d=c)(x2:a<=((b*61)+(d:Int))):(a+1)<=((b+1)*61):=Int.le_trans (Int.add_le_add_right (Int.le_trans x2 (Int.add_le_add_left (Int.ofNat_le.mpr (x1▸x0)) _)) 1) (Int.le_of_eq ((Int.add_assoc _ 60 1).trans (Int.add_mul b 1 61).symm))
theorem z72{a b:Int}(x0:((1:Int)<=a)/\(a<=26))(x1:(0:Int)<=b):(0:Int)<=(a+b):=aa 1 [a,b] [(.k 1,qa,1),(.k 0,qb,1)] (.k 0) (.a qa qb) rfl x0.1 x1
theorem z75(x0:b<a):¬((a:Int)<=(b:Int)):=eS (aa 1 [(b:Int),(a:Int)] [(.a qa (.k 1),qb,1)] (.a qa (.k 1)) qb rfl (h2 x0))
theorem z76(x0:b<=900)(x1:a=(4+b)):a<=1000000:=n1 (aa 1 [(b:Int),(a:Int)] [(qa,.k 900,1),(qb,.a (.k 4) qa,1)] qb (.k 1000000) rfl (h1 x0) (h3 x1))
theorem z78(x0:a=(c+d))(x1:b=(e+(f+1)))(x2:c<=e)(x3:d<=f):a<b:=n2 (aa 1 [(a:Int),(c:Int),(d:Int),(b:Int),(e:Int),(f:Int)] [(qa,.a qb qc,1),(.a qe (.a qf (.k 1)),qd,1),(qb,qe,1),(qc,qf,1)] (.a qa (.k 1)) qd rfl (h3 x0) (h4 x1) (h1 x2) (h1 x3))
theorem z79{a b:Int}(x0:b<(36-a)):(a+b)<36:=i2 (aa 1 [b,a] [(.a qa (.k 1),.s (.k 36) qb,1)] (.a (.a qb qa) (.k 1)) (.k 36) rfl x0)
theorem z80(x0:a<=(61+(41*c)))(x1:b<=(40+1)):(a+b)<=(61+(41*(c+1))):=n1 (aa 1 [(a:Int),(c:Int),(b:Int)] [(qa,.a (.k 61) (.m 41 qb),1),(qc,.a (.k 40) (.k 1),1)] (.a qa qc) (.a (.k 61) (.m 41 (.a qb (.k 1)))) rfl (h1 x0) (h1 x1))
theorem z81(x0:a<=1000):a<(2^60):=n2 (aa 1 [(a:Int)] [(qa,.k 1000,1)] (.a qa (.k 1)) (.k 1152921504606846976) rfl (h1 x0))
theorem z82{a:Int}(x0:c=b)(x1:(1:Int)<=a)(x2:a<=(c:Int)):((a-1)).toNat<b:=n2 (aa 1 [(c:Int),(b:Int),a,((((a-1)).toNat:Nat):Int)] [(qa,qb,1),(qc,qa,1),(qd,.s qc (.k 1),1)] (.a qd (.k 1)) qb rfl (h3 x0) x2 (tn (aa 1 [(c:Int),(b:Int),a,((((a-1)).toNat:Nat):Int)] [(.k 1,qc,1)] (.k 0) (.s qc (.k 1)) rfl x1)))
theorem z83(x0:b<=60)(x1:c=b)(x2:d<c)(x3:e<=d)(x4:a=e):a<=1000000:=Nat.le_of_lt (Nat.lt_of_lt_of_le (Nat.lt_of_lt_of_le (Nat.lt_of_lt_of_le (Nat.lt_of_le_of_lt (Nat.le_trans (Nat.le_of_eq x4) x3) x2) (Nat.le_of_eq x1)) x0) (by decide))
theorem z84(x0:b<=60)(x1:a=c)(x2:c<b):a<(2^60):=n2 (aa 1 [(b:Int),(a:Int),(c:Int)] [(qa,.k 60,1),(qb,qc,1),(.a qc (.k 1),qa,1)] (.a qb (.k 1)) (.k 1152921504606846976) rfl (h1 x0) (h3 x1) (h2 x2))
theorem z85{a:Int}(x0:b<=1000)(x1:a<=(b:Int)):(a-1)<(2^63):=i2 (aa 1 [(b:Int),a] [(qa,.k 1000,1),(qb,qa,1)] (.a (.s qb (.k 1)) (.k 1)) (.k 9223372036854775808) rfl (h1 x0) x1)
theorem z86(x0:b<=60)(x1:c=b)(x2:a<c):(a:Int)<(2^63):=i2 (aa 1 [(b:Int),(c:Int),(a:Int)] [(qa,.k 60,1),(qb,qa,1),(.a qc (.k 1),qb,1)] (.a qc (.k 1)) (.k 9223372036854775808) rfl (h1 x0) (h3 x1) (h2 x2))
theorem z87{a c:Int}(x0:(b:Int)=(c+(d:Int)))(x1:(0:Int)<=a):((((a.toNat+1)+b):Nat):Int)=((a+c)+(((d+1):Nat):Int)):=c0 (aa 1 [(b:Int),c,(d:Int),a,(a.toNat:Int)] [(qa,.a qb qc,1),(qe,qd,1)] (.a (.a qe (.k 1)) qa) (.a (.a qd qb) (.a qc (.k 1))) rfl (i3 x0) (tn (aa 1 [(b:Int),c,(d:Int),a,(a.toNat:Int)] [(.k 0,qd,1)] (.k 0) qd rfl x1))) (aa 1 [(b:Int),c,(d:Int),a,(a.toNat:Int)] [(.a qb qc,qa,1),(qd,qe,1)] (.a (.a qd qb) (.a qc (.k 1))) (.a (.a qe (.k 1)) qa) rfl (i4 x0) (Int.self_le_toNat (a)))
theorem z88(x0:c<=30)(x1:d<=(2*e))(x2:e=(min f c))(x3:a=d)(x4:b=g)(x5:g<=2):(a+b)<=1000000:=n1 (aa 1 [(c:Int),(d:Int),(e:Int),((min f c:Nat):Int),(f:Int),(a:Int),(b:Int),(g:Int)] [(qa,.k 30,2),(qb,.m 2 qc,1),(qc,qd,2),(qf,qb,1),(qg,qh,1),(qh,.k 2,1),(qd,qa,2)] (.a qf qg) (.k 1000000) rfl (h1 x0) (h1 x1) (h3 x2) (h3 x3) (h3 x4) (h1 x5) (h1 (Nat.min_le_right f c)))
theorem z89{a c:Int}(x0:(0:Int)<=c)(x1:c<=((a*61)+(b:Int))):(0:Int)<=((a*61)+(((b+1):Nat):Int)):=Int.le_trans x0 (Int.le_trans x1 (Int.add_le_add_left (Int.ofNat_le.mpr (Nat.le_succ b)) _))
theorem z90{a b c d:Int}(x0:(b+c)=(a-d)):a=((b+c)+d):=c0 (aa 1 [b,c,a,d] [(.s qc qd,.a qa qb,1)] qc (.a (.a qa qb) qd) rfl (i4 x0)) (aa 1 [b,c,a,d] [(.a qa qb,.s qc qd,1)] (.a (.a qa qb) qd) qc rfl (i3 x0))
theorem z91(x0:a<=(d+c))(x1:d<=(b+1)):a<=(b+(c+1)):=n1 (aa 1 [(a:Int),(d:Int),(c:Int),(b:Int)] [(qa,.a qb qc,1),(qb,.a qd (.k 1),1)] qa (.a qd (.a qc (.k 1))) rfl (h1 x0) (h1 x1))
theorem z93{a b:Int}(x0:(0:Int)<=a)(x1:(0:Int)<=b):(0:Int)<=(a+b):=aa 1 [a,b] [(.k 0,qa,1),(.k 0,qb,1)] (.k 0) (.a qa qb) rfl x0 x1
theorem z94(x0:a<=(b+1)):(a+1)<=((b+1)+1):=n1 (aa 1 [(a:Int),(b:Int)] [(qa,.a qb (.k 1),1)] (.a qa (.k 1)) (.a (.a qb (.k 1)) (.k 1)) rfl (h1 x0))
theorem z95(x0:b<=60)(x1:a=c)(x2:c<=d)(x3:d=(min e b)):a<=1000000:=n1 (aa 1 [(b:Int),(a:Int),(c:Int),(d:Int),((min e b:Nat):Int),(e:Int)] [(qa,.k 60,1),(qb,qc,1),(qc,qd,1),(qd,qe,1),(qe,qa,1)] qb (.k 1000000) rfl (h1 x0) (h3 x1) (h1 x2) (h3 x3) (h1 (Nat.min_le_right e b)))
theorem z96{a b:Int}(x0:((1:Int)<=b)/\(b<=26))(x1:a<b):a<36:=i2 (aa 1 [b,a] [(qa,.k 26,1),(.a qb (.k 1),qa,1)] (.a qb (.k 1)) (.k 36) rfl x0.2 x1)
theorem z98(x0:c=b)(x1:(a:Int)=((c:Int)-1)):a=(b-1):=n3 (aa 1 [(c:Int),(b:Int),(a:Int),((b-1:Nat):Int)] [(qa,qb,1),(qc,.s qa (.k 1),1),(qb,.a qd (.k 1),1)] qc qd rfl (h3 x0) (i3 x1) (h1 (sb (b) (1)))) (aa 1 [(c:Int),(b:Int),(a:Int),((b-1:Nat):Int)] [(qb,qa,1),(.s qa (.k 1),qc,1),(.a qd (.k 1),qb,1)] qd qc rfl (h4 x0) (i4 x1) (h1 (sc (n1 (aa 1 [(c:Int),(b:Int),(a:Int),((b-1:Nat):Int)] [(qa,qb,1),(qc,.s qa (.k 1),1),(.k 0,qc,1)] (.k 1) qb rfl (h3 x0) (i3 x1) (nn a))))))
theorem z99{a b:Int}(x0:a<=((b*61)+(c:Int))):(a+1)<=((b*61)+(((c+1):Nat):Int)):=by lia
theorem dj5(x0:c<1000000)(x1:b<=c)(x2:(a:Int)<(b:Int)):((((a+b)/2):Nat):Int)<(2^63):=i2 (aa 2 [(c:Int),(b:Int),(a:Int),(((a+b)/2:Nat):Int)] [(.a qa (.k 1),.k 1000000,2),(qb,qa,2),(.a qc (.k 1),qb,1),(.m 2 qd,.a qc qb,1)] (.a qd (.k 1)) (.k 9223372036854775808) rfl (h2 x0) (h1 x1) x2 (h1 (Nat.mul_div_le (a+b) 2)))
theorem dj4(x0:c<=60)(x1:d=c)(x2:(a:Int)<(d:Int))(x3:b<=(min e c)):(a+b)<=120:=n1 (aa 1 [(c:Int),(d:Int),(a:Int),(b:Int),((min e c:Nat):Int),(e:Int)] [(qa,.k 60,2),(qb,qa,1),(.a qc (.k 1),qb,1),(qd,qe,1),(qe,qa,1)] (.a qc qd) (.k 120) rfl (h1 x0) (h3 x1) x2 (h1 x3) (h1 (Nat.min_le_right e c)))
theorem ca9{a b:Int}(x0:a<=((b*61)+(c:Int))):a<=((b*61)+(((c+1):Nat):Int)):=by lia
theorem dj3(x0:c<=60)(x1:a=d)(x2:d<=c)(x3:b<=(min e c)):(a+b)<=120:=n1 (aa 1 [(c:Int),(a:Int),(d:Int),(b:Int),((min e c:Nat):Int),(e:Int)] [(qa,.k 60,2),(qb,qc,1),(qc,qa,1),(qd,qe,1),(qe,qa,1)] (.a qb qd) (.k 120) rfl (h1 x0) (h3 x1) (h1 x2) (h1 x3) (h1 (Nat.min_le_right e c)))
theorem dj2(x0:d<=100)(x1:e=d)(x2:f<e)(x3:g<=(1001*f))(x4:i<=1000)(x5:a=g)(x6:c=i)(x7:b<=1):(a+(b+c))<=1000000:=n1 (aa 1 [(d:Int),(e:Int),(f:Int),(g:Int),(i:Int),(a:Int),(c:Int),(b:Int)] [(qa,.k 100,1001),(qb,qa,1001),(.a qc (.k 1),qb,1001),(qd,.m 1001 qc,1),(qe,.k 1000,1),(qf,qd,1),(qg,qe,1),(qh,.k 1,1)] (.a qf (.a qh qg)) (.k 1000000) rfl (h1 x0) (h3 x1) (h2 x2) (h1 x3) (h1 x4) (h3 x5) (h3 x6) (h1 x7))
theorem dj1(x0:b<=1)(x1:c<=1)(x2:d<=1)(x3:e<=1)(x4:f<=1)(x5:a=(((((b+c)+d)+e)+f)+g))(x6:g<=30):a<=1000000:=n1 (aa 1 [(b:Int),(c:Int),(d:Int),(e:Int),(f:Int),(a:Int),(g:Int)] [(qa,.k 1,1),(qb,.k 1,1),(qc,.k 1,1),(qd,.k 1,1),(qe,.k 1,1),(qf,.a (.a (.a (.a (.a qa qb) qc) qd) qe) qg,1),(qg,.k 30,1)] qf (.k 1000000) rfl (h1 x0) (h1 x1) (h1 x2) (h1 x3) (h1 x4) (h3 x5) (h1 x6))
theorem dj0(x0:(a+1)<b):a<(b-1):=n2 (aa 1 [(a:Int),(b:Int),((b-1:Nat):Int)] [(.a (.a qa (.k 1)) (.k 1),qb,1),(qb,.a qc (.k 1),1)] (.a qa (.k 1)) qc rfl (h2 x0) (h1 (sb (b) (1))))
theorem ca8:((a:Int)+1)≠0:=i8 (aa 1 [(a:Int)] [(.k 0,qa,1)] (.a (.k 0) (.k 1)) (.a qa (.k 1)) rfl (nn a))
theorem di9(x0:a=(((((b+c)+d)+e)+f)+g))(x1:b<=1)(x2:c<=1)(x3:d<=1)(x4:e<=1)(x5:f<=1)(x6:g<=30):a<=50:=n1 (aa 1 [(a:Int),(b:Int),(c:Int),(d:Int),(e:Int),(f:Int),(g:Int)] [(qa,.a (.a (.a (.a (.a qb qc) qd) qe) qf) qg,1),(qb,.k 1,1),(qc,.k 1,1),(qd,.k 1,1),(qe,.k 1,1),(qf,.k 1,1),(qg,.k 30,1)] qa (.k 50) rfl (h3 x0) (h1 x1) (h1 x2) (h1 x3) (h1 x4) (h1 x5) (h1 x6))
theorem bn2(x0:b<=60)(x1:a=b):a<=1000000:=Nat.le_trans (Nat.le_trans (Nat.le_of_eq x1) x0) (by decide)
theorem ca7{a:Int}(x0:((1:Int)<=a)/\(a<=26)):(0:Int)<(36-a):=i2 (aa 1 [a] [(qa,.k 26,1)] (.a (.k 0) (.k 1)) (.s (.k 36) qa) rfl x0.2)
theorem bn1{a b:Int}(x0:a<b):(a+1)<=b:=x0
theorem ca6(x0:b<=60)(x1:a=c)(x2:c=d)(x3:d<b):a<=1000000:=Nat.le_of_lt (Nat.lt_of_lt_of_le (Nat.lt_of_lt_of_le (Nat.lt_of_le_of_lt (Nat.le_trans (Nat.le_of_eq x1) (Nat.le_of_eq x2)) x3) x0) (by decide))
theorem bb3(x0:a<=30):a<=1000:=Nat.le_trans x0 (by decide)
theorem ca5(x0:b<=50)(x1:a=b):a<(2^60):=n2 (aa 1 [(b:Int),(a:Int)] [(qa,.k 50,1),(qb,qa,1)] (.a qb (.k 1)) (.k 1152921504606846976) rfl (h1 x0) (h3 x1))
theorem ca4(x0:b<=60)(x1:a=b):a<(2^60):=n2 (aa 1 [(b:Int),(a:Int)] [(qa,.k 60,1),(qb,qa,1)] (.a qb (.k 1)) (.k 1152921504606846976) rfl (h1 x0) (h3 x1))
theorem ca3(x0:b=3)(x1:a<b):a<3:=Nat.lt_of_lt_of_le x1 (Nat.le_of_eq x0)
theorem bn0{a:Int}(x0:a<3):a<(2^60):=i2 (aa 1 [a] [(.a qa (.k 1),.k 3,1)] (.a qa (.k 1)) (.k 1152921504606846976) rfl x0)
theorem di8(x0:a<=(1001*d))(x1:c<=1000)(x2:e=b)(x3:e<=1):(a+(b+c))<=(1001*(d+1)):=n1 (aa 1 [(a:Int),(d:Int),(c:Int),(e:Int),(b:Int)] [(qa,.m 1001 qb,1),(qc,.k 1000,1),(qe,qd,1),(qd,.k 1,1)] (.a qa (.a qe qc)) (.m 1001 (.a qb (.k 1))) rfl (h1 x0) (h1 x1) (h4 x2) (h1 x3))
theorem di7(x0:a<=1)(x1:b<=1)(x2:c<=1)(x3:d<=1)(x4:e<=1)(x5:f<=g):(((((a+b)+c)+d)+e)+f)<=(5+g):=n1 (aa 1 [(a:Int),(b:Int),(c:Int),(d:Int),(e:Int),(f:Int),(g:Int)] [(qa,.k 1,1),(qb,.k 1,1),(qc,.k 1,1),(qd,.k 1,1),(qe,.k 1,1),(qf,qg,1)] (.a (.a (.a (.a (.a qa qb) qc) qd) qe) qf) (.a (.k 5) qg) rfl (h1 x0) (h1 x1) (h1 x2) (h1 x3) (h1 x4) (h1 x5))
theorem di6(x0:b<=60)(x1:c<=b)(x2:a=d)(x3:d=e)(x4:e=(min f c)):a<=1000000:=n1 (aa 1 [(b:Int),(c:Int),(a:Int),(d:Int),(e:Int),((min f c:Nat):Int),(f:Int)] [(qa,.k 60,1),(qb,qa,1),(qc,qd,1),(qd,qe,1),(qe,qf,1),(qf,qb,1)] qc (.k 1000000) rfl (h1 x0) (h1 x1) (h3 x2) (h3 x3) (h3 x4) (h1 (Nat.min_le_right f c)))
theorem ca2(x0:b<=60)(x1:a=c)(x2:c<b):a<=1000000:=Nat.le_of_lt (Nat.lt_of_lt_of_le (Nat.lt_of_lt_of_le (Nat.lt_of_le_of_lt (Nat.le_of_eq x1) x2) x0) (by decide))
theorem di5(x0:b<=60)(x1:c=b)(x2:d<c)(x3:e<=d)(x4:a=(e-1)):(a:Int)<(2^63):=i2 (aa 1 [(b:Int),(c:Int),(d:Int),(e:Int),(a:Int),((e-1:Nat):Int)] [(qa,.k 60,1),(qb,qa,1),(.a qc (.k 1),qb,1),(qd,qc,1),(qe,qf,1),(qf,qd,1)] (.a qe (.k 1)) (.k 9223372036854775808) rfl (h1 x0) (h3 x1) (h2 x2) (h1 x3) (h3 x4) (h1 (Nat.sub_le (e) (1))))
theorem ca1(x0:b=a)(x1:(1:Int)<(b:Int)):(1:Nat)<a:=n2 (aa 1 [(b:Int),(a:Int)] [(qa,qb,1),(.a (.k 1) (.k 1),qa,1)] (.a (.k 1) (.k 1)) qb rfl (h3 x0) x1)
theorem ca0(x0:b<=1000)(x1:c<b)(x2:a=c):a<=1000000:=Nat.le_of_lt (Nat.lt_of_lt_of_le (Nat.lt_of_lt_of_le (Nat.lt_of_le_of_lt (Nat.le_of_eq x2) x1) x0) (by decide))
theorem di4(x0:(c+1)<=b)(x1:a<=c):a<=(b-1):=n1 (aa 1 [(c:Int),(b:Int),(a:Int),((b-1:Nat):Int)] [(.a qa (.k 1),qb,1),(qc,qa,1),(qb,.a qd (.k 1),1)] qc qd rfl (h1 x0) (h1 x1) (h1 (sb (b) (1))))
theorem b99{a:Int}(x0:a<5):(1+a)<(2^62):=i2 (aa 1 [a] [(.a qa (.k 1),.k 5,1)] (.a (.a (.k 1) qa) (.k 1)) (.k 4611686018427387904) rfl x0)
theorem b98(x0:b<=60)(x1:a=b):a<64:=Nat.lt_of_le_of_lt (Nat.le_trans (Nat.le_of_eq x1) x0) (by decide)
theorem di3(x0:d<=c)(x1:a<=d)(x2:b<=1):(a+b)<=(c+1):=n1 (aa 1 [(d:Int),(c:Int),(a:Int),(b:Int)] [(qa,qb,1),(qc,qa,1),(qd,.k 1,1)] (.a qc qd) (.a qb (.k 1)) rfl (h1 x0) (h1 x1) (h1 x2))
theorem b97(x0:c<=60)(x1:d=c)(x2:e<d)(x3:(f+g)=e)(x4:a=f)(x5:b=g):(a+b)<=1000000:=n1 (aa 1 [(c:Int),(d:Int),(e:Int),(f:Int),(g:Int),(a:Int),(b:Int)] [(qa,.k 60,1),(qb,qa,1),(.a qc (.k 1),qb,1),(.a qd qe,qc,1),(qf,qd,1),(qg,qe,1)] (.a qf qg) (.k 1000000) rfl (h1 x0) (h3 x1) (h2 x2) (h3 x3) (h3 x4) (h3 x5))
theorem di2(x0:b<=60)(x1:c<=b)(x2:a=d)(x3:d=(min e c)):a<=1000000:=n1 (aa 1 [(b:Int),(c:Int),(a:Int),(d:Int),((min e c:Nat):Int),(e:Int)] [(qa,.k 60,1),(qb,qa,1),(qc,qd,1),(qd,qe,1),(qe,qb,1)] qc (.k 1000000) rfl (h1 x0) (h1 x1) (h3 x2) (h3 x3) (h1 (Nat.min_le_right e c)))
theorem di1(x0:b<=60)(x1:c=d)(x2:a<=(61+(41*c)))(x3:d<=b):a<=1000000:=n1 (aa 1 [(b:Int),(c:Int),(d:Int),(a:Int)] [(qa,.k 60,41),(qb,qc,41),(qd,.a (.k 61) (.m 41 qb),1),(qc,qa,41)] qd (.k 1000000) rfl (h1 x0) (h3 x1) (h1 x2) (h1 x3))
theorem di0{a b c:Int}(x0:(1:Int)<=c)(x1:(0:Int)<=a)(x2:a<=(b-c)):((0:Int)<=a)/\(a<b):=⟨(aa 1 [c,a,b] [(.k 0,qb,1)] (.k 0) qb rfl x1),i2 (aa 1 [c,a,b] [(.k 1,qa,1),(qb,.s qc qa,1)] (.a qb (.k 1)) qc rfl x0 x2)⟩
theorem dh9(x0:(0:Nat)<a):((a:Int)-1)=(((a-1):Nat):Int):=c0 (aa 1 [(a:Int),((a-1:Nat):Int)] [(qa,.a qb (.k 1),1)] (.s qa (.k 1)) qb rfl (h1 (sb (a) (1)))) (aa 1 [(a:Int),((a-1:Nat):Int)] [(.a qb (.k 1),qa,1)] qb (.s qa (.k 1)) rfl (h1 (sc (n1 (aa 1 [(a:Int),((a-1:Nat):Int)] [(.a (.k 0) (.k 1),qa,1)] (.k 1) qa rfl (h2 x0))))))
theorem dh8(x0:(b+1)<=a):(a-1)<a:=n2 (aa 1 [(b:Int),(a:Int),((a-1:Nat):Int)] [(.a qc (.k 1),qb,1)] (.a qc (.k 1)) qb rfl (h1 (sc (n1 (aa 1 [(b:Int),(a:Int),((a-1:Nat):Int)] [(.a qa (.k 1),qb,1),(.k 0,qa,1)] (.k 1) qb rfl (h1 x0) (nn b))))))
theorem dh7(x0:a<=60):(a-1)<=60:=n1 (aa 1 [(a:Int),((a-1:Nat):Int)] [(qa,.k 60,1),(qb,qa,1)] qb (.k 60) rfl (h1 x0) (h1 (Nat.sub_le (a) (1))))
theorem dh6{b:Int}(x0:b<7)(x1:c<=((b-0)).toNat)(x2:c=a):a<=6:=x2▸Nat.le_trans x1 (Int.toNat_le.mpr (Int.le_trans (Int.le_of_eq (Int.sub_zero _)) (Int.le_of_lt_add_one (show b<6+1 from x0))))
theorem b96(x0:c<=(b+1))(x1:a<c):a<=b:=n1 (aa 1 [(c:Int),(b:Int),(a:Int)] [(qa,.a qb (.k 1),1),(.a qc (.k 1),qa,1)] qc qb rfl (h1 x0) (h2 x1))
theorem b95(x0:b<=60)(x1:c=b)(x2:d<c)(x3:e<=d)(x4:a=e):a<(2^60):=n2 (aa 1 [(b:Int),(c:Int),(d:Int),(e:Int),(a:Int)] [(qa,.k 60,1),(qb,qa,1),(.a qc (.k 1),qb,1),(qd,qc,1),(qe,qd,1)] (.a qe (.k 1)) (.k 1152921504606846976) rfl (h1 x0) (h3 x1) (h2 x2) (h1 x3) (h3 x4))
theorem b94{a:Int}(x0:(0:Int)<=a):(a+38)≠0:=i8 (aa 1 [a] [(.k 0,qa,1)] (.a (.k 0) (.k 1)) (.a qa (.k 38)) rfl x0)
theorem dh5{a b:Int}(x0:((c+1)+1)<2):(a-1)=b:=by lia
theorem bm9(x0:a<=1000):a<1000000:=Nat.lt_of_le_of_lt x0 (by decide)
theorem dh4(x0:b=8)(x1:c<=(b+(((0+1)+1)+1)))(x2:d<=(c+(((((((((((((0+1)+1)+1)+1)+1)+1)+1)+1)+1)+1)+1)+1)+1)))(x3:e<=(d+(((((((((((((0+1)+1)+1)+1)+1)+1)+1)+1)+1)+1)+1)+1)+1)))(x4:f<=(e+((((0+1)+1)+1)+1)))(x5:a<=(f+1)):a<=100:=n1 (aa 1 [(b:Int),(c:Int),(d:Int),(e:Int),(f:Int),(a:Int)] [(qa,.k 8,1),(qb,.a qa (.a (.a (.a (.k 0) (.k 1)) (.k 1)) (.k 1)),1),(qc,.a qb (.a (.a (.a (.a (.a (.a (.a (.a (.a (.a (.a (.a (.a (.k 0) (.k 1)) (.k 1)) (.k 1)) (.k 1)) (.k 1)) (.k 1)) (.k 1)) (.k 1)) (.k 1)) (.k 1)) (.k 1)) (.k 1)) (.k 1)),1),(qd,.a qc (.a (.a (.a (.a (.a (.a (.a (.a (.a (.a (.a (.a (.a (.k 0) (.k 1)) (.k 1)) (.k 1)) (.k 1)) (.k 1)) (.k 1)) (.k 1)) (.k 1)) (.k 1)) (.k 1)) (.k 1)) (.k 1)) (.k 1)),1),(qe,.a qd (.a (.a (.a (.a (.k 0) (.k 1)) (.k 1)) (.k 1)) (.k 1)),1),(qf,.a qe (.k 1),1)] qf (.k 100) rfl (h3 x0) (h1 x1) (h1 x2) (h1 x3) (h1 x4) (h1 x5))
theorem dh3(x0:c<=1)(x1:d<=1)(x2:e<=1)(x3:f<=1)(x4:a=(((c+d)+e)+f))(x5:b<=1):(a+b)<=1000000:=n1 (aa 1 [(c:Int),(d:Int),(e:Int),(f:Int),(a:Int),(b:Int)] [(qa,.k 1,1),(qb,.k 1,1),(qc,.k 1,1),(qd,.k 1,1),(qe,.a (.a (.a qa qb) qc) qd,1),(qf,.k 1,1)] (.a qe qf) (.k 1000000) rfl (h1 x0) (h1 x1) (h1 x2) (h1 x3) (h3 x4) (h1 x5))
theorem dh2(x0:a<(((b:Int)-0)).toNat):a<b:=n2 (aa 1 [(a:Int),(((((b:Int)-0)).toNat:Nat):Int),(b:Int)] [(.a qa (.k 1),qb,1),(qb,.s qc (.k 0),1)] (.a qa (.k 1)) qc rfl (h2 x0) (tn (aa 1 [(a:Int),(((((b:Int)-0)).toNat:Nat):Int),(b:Int)] [(.k 0,qc,1)] (.k 0) (.s qc (.k 0)) rfl (nn b))))
theorem dh1(x0:(b+1)<=a):((a-1)+1)<=a:=n1 (aa 1 [(b:Int),(a:Int),((a-1:Nat):Int)] [(.a qc (.k 1),qb,1)] (.a qc (.k 1)) qb rfl (h1 (sc (n1 (aa 1 [(b:Int),(a:Int),((a-1:Nat):Int)] [(.a qa (.k 1),qb,1),(.k 0,qa,1)] (.k 1) qb rfl (h1 x0) (nn b))))))
theorem dh0(x0:b<=c)(x1:(a:Int)<(b:Int)):((a+b)/2)<c:=n2 (aa 2 [(b:Int),(c:Int),(a:Int),(((a+b)/2:Nat):Int)] [(qa,qb,2),(.a qc (.k 1),qa,1),(.m 2 qd,.a qc qa,1)] (.a qd (.k 1)) qb rfl (h1 x0) x1 (h1 (Nat.mul_div_le (a+b) 2)))
theorem dg9{a:Int}(x0:(0:Int)<=a)(x1:a<(b:Int)):a.toNat<b:=n2 (aa 1 [a,(b:Int),(a.toNat:Int)] [(.a qa (.k 1),qb,1),(qc,qa,1)] (.a qc (.k 1)) qb rfl x1 (tn (aa 1 [a,(b:Int),(a.toNat:Int)] [(.k 0,qa,1)] (.k 0) qa rfl x0)))
theorem dg8(x0:d=e)(x1:f=e)(x2:f<=1000)(x3:b<=2)(x4:a<=d)(x5:c<=d):((a+b)+c)<=1000000:=n1 (aa 1 [(d:Int),(e:Int),(f:Int),(b:Int),(a:Int),(c:Int)] [(qa,qb,2),(qb,qc,2),(qc,.k 1000,2),(qd,.k 2,1),(qe,qa,1),(qf,qa,1)] (.a (.a qe qd) qf) (.k 1000000) rfl (h3 x0) (h4 x1) (h1 x2) (h1 x3) (h1 x4) (h1 x5))
theorem dg7(x0:(c+(8*(b+3)))<9000)(x1:a<=(c+8)):(a+(8*(b+2)))<9000:=n2 (aa 1 [(c:Int),(b:Int),(a:Int)] [(.a (.a qa (.m 8 (.a qb (.k 3)))) (.k 1),.k 9000,1),(qc,.a qa (.k 8),1)] (.a (.a qc (.m 8 (.a qb (.k 2)))) (.k 1)) (.k 9000) rfl (h2 x0) (h1 x1))
theorem dg6(x0:a=(b+c)):(a+1)=((b+1)+(c+0)):=n3 (aa 1 [(a:Int),(b:Int),(c:Int)] [(qa,.a qb qc,1)] (.a qa (.k 1)) (.a (.a qb (.k 1)) (.a qc (.k 0))) rfl (h3 x0)) (aa 1 [(a:Int),(b:Int),(c:Int)] [(.a qb qc,qa,1)] (.a (.a qb (.k 1)) (.a qc (.k 0))) (.a qa (.k 1)) rfl (h4 x0))
theorem b93{a:Int}(x0:(0:Int)<=a):(0:Int)<=(a+38):=aa 1 [a] [(.k 0,qa,1)] (.k 0) (.a qa (.k 38)) rfl x0
theorem dg5(x0:a=(b+c)):(a+1)=(b+(c+1)):=n3 (aa 1 [(a:Int),(b:Int),(c:Int)] [(qa,.a qb qc,1)] (.a qa (.k 1)) (.a qb (.a qc (.k 1))) rfl (h3 x0)) (aa 1 [(a:Int),(b:Int),(c:Int)] [(.a qb qc,qa,1)] (.a qb (.a qc (.k 1))) (.a qa (.k 1)) rfl (h4 x0))
theorem dg4(x0:b<=30):(min a b)<=30:=Nat.le_trans (Nat.min_le_right a b) x0
theorem b92{a:Int}(x0:a<(2^40)):a<1099511627776:=i2 (aa 1 [a] [(.a qa (.k 1),.k 1099511627776,1)] (.a qa (.k 1)) (.k 1099511627776) rfl x0)
theorem dg3(x0:d=e)(x1:e<=1000)(x2:b<=2)(x3:a<=d)(x4:c<=d):((a+b)+c)<=1000000:=n1 (aa 1 [(d:Int),(e:Int),(b:Int),(a:Int),(c:Int)] [(qa,qb,2),(qb,.k 1000,2),(qc,.k 2,1),(qd,qa,1),(qe,qa,1)] (.a (.a qd qc) qe) (.k 1000000) rfl (h3 x0) (h1 x1) (h1 x2) (h1 x3) (h1 x4))
theorem dg2{a b c d:Int}(x0:((a+b)+c)=(d+(e:Int))):((a+b)+(c+1))=(d+(((e+1):Nat):Int)):=c0 (aa 1 [a,b,c,d,(e:Int)] [(.a (.a qa qb) qc,.a qd qe,1)] (.a (.a qa qb) (.a qc (.k 1))) (.a qd (.a qe (.k 1))) rfl (i3 x0)) (aa 1 [a,b,c,d,(e:Int)] [(.a qd qe,.a (.a qa qb) qc,1)] (.a qd (.a qe (.k 1))) (.a (.a qa qb) (.a qc (.k 1))) rfl (i4 x0))
theorem bm8(x0:¬(b<a)):a<=b:=Nat.le_of_not_lt x0
theorem dg1(x0:(0:Nat)<a):((a-1)+1)=a:=n3 (aa 1 [(a:Int),((a-1:Nat):Int)] [(.a qb (.k 1),qa,1)] (.a qb (.k 1)) qa rfl (h1 (sc (n1 (aa 1 [(a:Int),((a-1:Nat):Int)] [(.a (.k 0) (.k 1),qa,1)] (.k 1) qa rfl (h2 x0)))))) (aa 1 [(a:Int),((a-1:Nat):Int)] [(qa,.a qb (.k 1),1)] qa (.a qb (.k 1)) rfl (h1 (sb (a) (1))))
theorem b91(x0:a=b)(x1:(b+1)<=40):a<=1000000:=Nat.le_of_lt (Nat.lt_of_lt_of_le (Nat.lt_of_le_of_lt (Nat.le_of_eq x0) x1) (by decide))
theorem b90{a b:Int}(x0:¬(b<=a)):a<b:=Int.lt_of_not_ge x0
theorem b89{a:Int}(x0:((0:Int)<=a)/\(a<44032)):a<=44032:=aa 1 [a] [(.a qa (.k 1),.k 44032,1)] qa (.k 44032) rfl x0.2
theorem dg0(x0:(0:Int)<(a:Int)):((a:Int)-1)=(((a-1):Nat):Int):=c0 (aa 1 [(a:Int),((a-1:Nat):Int)] [(qa,.a qb (.k 1),1)] (.s qa (.k 1)) qb rfl (h1 (sb (a) (1)))) (aa 1 [(a:Int),((a-1:Nat):Int)] [(.a qb (.k 1),qa,1)] qb (.s qa (.k 1)) rfl (h1 (sc (n1 (aa 1 [(a:Int),((a-1:Nat):Int)] [(.a (.k 0) (.k 1),qa,1)] (.k 1) qa rfl x0)))))
theorem df9(x0:b<=c)(x1:(a:Int)<(b:Int)):((a+b)/2)<=c:=n1 (aa 2 [(b:Int),(c:Int),(a:Int),(((a+b)/2:Nat):Int)] [(qa,qb,2),(.a qc (.k 1),qa,1),(.m 2 qd,.a qc qa,1)] qd qb rfl (h1 x0) x1 (h1 (Nat.mul_div_le (a+b) 2)))
theorem b88{a:Int}(x0:((0:Int)<=a)/\(a<44032)):(a+1)<=44032:=aa 1 [a] [(.a qa (.k 1),.k 44032,1)] (.a qa (.k 1)) (.k 44032) rfl x0.2
theorem b87(x0:b<=30)(x1:a<=(2*b)):a<=60:=n1 (aa 1 [(b:Int),(a:Int)] [(qa,.k 30,2),(qb,.m 2 qa,1)] qb (.k 60) rfl (h1 x0) (h1 x1))
theorem b86(x0:b<=50)(x1:c=d)(x2:d<=b)(x3:e<c)(x4:f<=e)(x5:a=f):a<=1000000:=Nat.le_of_lt (Nat.lt_of_lt_of_le (Nat.lt_of_lt_of_le (Nat.lt_of_lt_of_le (Nat.lt_of_lt_of_le (Nat.lt_of_le_of_lt (Nat.le_trans (Nat.le_of_eq x5) x4) x3) (Nat.le_of_eq x1)) x2) x0) (by decide))
theorem b85(x0:a<=120):((a:Int)+1)<1000000:=i2 (aa 1 [(a:Int)] [(qa,.k 120,1)] (.a (.a qa (.k 1)) (.k 1)) (.k 1000000) rfl (h1 x0))
theorem b84{a:Int}(x0:((0:Int)<=a)/\(a<44032)):(0:Int)<=(a+1):=aa 1 [a] [(.k 0,qa,1)] (.k 0) (.a qa (.k 1)) rfl x0.1
theorem b83{a b:Int}(x0:(a+1)<=b):a<b:=x0
theorem df8(x0:a=b):a<=(((b:Int)-0)).toNat:=n1 (aa 1 [(a:Int),(b:Int),(((((b:Int)-0)).toNat:Nat):Int)] [(qa,qb,1),(.s qb (.k 0),qc,1)] qa qc rfl (h3 x0) (Int.self_le_toNat (((b:Int)-0))))
theorem bb2(x0:a<b):(a+1)<=b:=x0
theorem df7(x0:(0:Int)<(a:Int)):(a-1)<a:=n2 (aa 1 [(a:Int),((a-1:Nat):Int)] [(.a qb (.k 1),qa,1)] (.a qb (.k 1)) qa rfl (h1 (sc (n1 (aa 1 [(a:Int),((a-1:Nat):Int)] [(.a (.k 0) (.k 1),qa,1)] (.k 1) qa rfl x0)))))
theorem bm7(x0:a<=2):a<=1000000:=Nat.le_trans x0 (by decide)
theorem df6(x0:(c+(b+3))<900)(x1:a=(c+1)):(a+(b+2))<900:=n2 (aa 1 [(c:Int),(b:Int),(a:Int)] [(.a (.a qa (.a qb (.k 3))) (.k 1),.k 900,1),(qc,.a qa (.k 1),1)] (.a (.a qc (.a qb (.k 2))) (.k 1)) (.k 900) rfl (h2 x0) (h3 x1))
theorem b82(x0:a=b)(x1:c=b)(x2:c<=1000):a<=1000000:=Nat.le_trans (Nat.le_trans (Nat.le_trans (Nat.le_of_eq x0) (Nat.le_of_eq x1.symm)) x2) (by decide)
theorem bb1(x0:a<=10):a<=1000:=Nat.le_trans x0 (by decide)
theorem b81{a b:Int}(x0:¬(b<a)):a<=b:=Int.le_of_not_gt x0
theorem df5(x0:b=3)(x1:((a:Int)+1)<(b:Int)):a<2:=n2 (aa 1 [(b:Int),(a:Int)] [(qa,.k 3,1),(.a (.a qb (.k 1)) (.k 1),qa,1)] (.a qb (.k 1)) (.k 2) rfl (h3 x0) x1)
theorem df4(x0:a<2):(a+1)<3:=n2 (aa 1 [(a:Int)] [(.a qa (.k 1),.k 2,1)] (.a (.a qa (.k 1)) (.k 1)) (.k 3) rfl (h2 x0))
theorem df3{b c:Int}(x0:¬(b<c))(x1:((1:Int)<=c)/\(c<=26))(x2:b<1):a<=(0+1):=absurd (Int.lt_of_lt_of_le x2 x1.1) x0
theorem df2(x0:b<=50)(x1:c=d)(x2:d<=b)(x3:e<c)(x4:f<=(2*e))(x5:a=f):a<=1000000:=n1 (aa 1 [(b:Int),(c:Int),(d:Int),(e:Int),(f:Int),(a:Int)] [(qa,.k 50,2),(qb,qc,2),(qc,qa,2),(.a qd (.k 1),qb,2),(qe,.m 2 qd,1),(qf,qe,1)] qf (.k 1000000) rfl (h1 x0) (h3 x1) (h1 x2) (h2 x3) (h1 x4) (h3 x5))
theorem df1(x0:d=e)(x1:c<d)(x2:(min c e)=(a+b)):(a+b)=c:=n3 (aa 1 [(d:Int),(e:Int),(c:Int),((min c e:Nat):Int),(a:Int),(b:Int)] [(.a qe qf,qd,1),(qd,qc,1)] (.a qe qf) qc rfl (h4 x2) (h1 (Nat.min_le_left c e))) (aa 1 [(d:Int),(e:Int),(c:Int),((min c e:Nat):Int),(a:Int),(b:Int)] [(qd,.a qe qf,1),(qc,qd,1)] qc (.a qe qf) rfl (h3 x2) (h1 (Nat.le_min.mpr ⟨Nat.le_refl _,(n1 (aa 1 [(d:Int),(e:Int),(c:Int),((min c e:Nat):Int),(a:Int),(b:Int)] [(qa,qb,1),(.a qc (.k 1),qa,1)] qc qb rfl (h3 x0) (h2 x1)))⟩)))
theorem bm6(x0:a<=1):a<=1000000:=Nat.le_trans x0 (by decide)
theorem df0(x0:b<=60)(x1:c=b)(x2:d<c)(x3:(e+f)=d)(x4:a=f):a<=1000000:=n1 (aa 1 [(b:Int),(c:Int),(d:Int),(e:Int),(f:Int),(a:Int)] [(qa,.k 60,1),(qb,qa,1),(.a qc (.k 1),qb,1),(.a qd qe,qc,1),(qf,qe,1),(.k 0,qd,1)] qf (.k 1000000) rfl (h1 x0) (h3 x1) (h2 x2) (h3 x3) (h3 x4) (nn e))
theorem b80{a:Int}(x0:a<14):a.toNat<14:=(Int.toNat_lt' (by decide)).mpr x0
theorem b79{a:Int}(x0:a<11):a.toNat<11:=(Int.toNat_lt' (by decide)).mpr x0
theorem b78(x0:b=(a+c)):(a:Int)<((b:Int)+1):=i2 (aa 1 [(b:Int),(a:Int),(c:Int)] [(.a qb qc,qa,1),(.k 0,qc,1)] (.a qb (.k 1)) (.a qa (.k 1)) rfl (h4 x0) (nn c))
theorem de9(x0:b=8)(x1:c<=(b+(((0+1)+1)+1)))(x2:d<=(c+(((((((((((((0+1)+1)+1)+1)+1)+1)+1)+1)+1)+1)+1)+1)+1)))(x3:e<=(d+(((((((((((((0+1)+1)+1)+1)+1)+1)+1)+1)+1)+1)+1)+1)+1)))(x4:a<=(e+((((0+1)+1)+1)+1))):a<=1000000:=n1 (aa 1 [(b:Int),(c:Int),(d:Int),(e:Int),(a:Int)] [(qa,.k 8,1),(qb,.a qa (.a (.a (.a (.k 0) (.k 1)) (.k 1)) (.k 1)),1),(qc,.a qb (.a (.a (.a (.a (.a (.a (.a (.a (.a (.a (.a (.a (.a (.k 0) (.k 1)) (.k 1)) (.k 1)) (.k 1)) (.k 1)) (.k 1)) (.k 1)) (.k 1)) (.k 1)) (.k 1)) (.k 1)) (.k 1)) (.k 1)),1),(qd,.a qc (.a (.a (.a (.a (.a (.a (.a (.a (.a (.a (.a (.a (.a (.k 0) (.k 1)) (.k 1)) (.k 1)) (.k 1)) (.k 1)) (.k 1)) (.k 1)) (.k 1)) (.k 1)) (.k 1)) (.k 1)) (.k 1)) (.k 1)),1),(qe,.a qd (.a (.a (.a (.a (.k 0) (.k 1)) (.k 1)) (.k 1)) (.k 1)),1)] qe (.k 1000000) rfl (h3 x0) (h1 x1) (h1 x2) (h1 x3) (h1 x4))
theorem bm5(x0:c=b)(x1:(a:Int)=((c:Int)-1)):a<b:=n2 (aa 1 [(c:Int),(b:Int),(a:Int)] [(qa,qb,1),(qc,.s qa (.k 1),1)] (.a qc (.k 1)) qb rfl (h3 x0) (i3 x1))
theorem de8(x0:(a-b)=0):a<=b:=n1 (aa 1 [((a-b:Nat):Int),(a:Int),(b:Int)] [(qa,.k 0,1),(qb,.a qa qc,1)] qb qc rfl (h3 x0) (h1 (sb (a) (b))))
theorem de7{a:Int}(x0:((0:Int)<=a)/\(a<44032))(x1:a<128):((0:Int)<=a)/\(a<256):=⟨(aa 1 [a] [(.k 0,qa,1)] (.k 0) qa rfl x0.1),i2 (aa 1 [a] [(.a qa (.k 1),.k 128,1)] (.a qa (.k 1)) (.k 256) rfl x1)⟩
theorem b77(x0:¬((0:Int)<(a:Int))):a=0:=n3 (aa 1 [(a:Int)] [(qa,.k 0,1)] qa (.k 0) rfl (i6 x0)) (aa 1 [(a:Int)] [(.k 0,qa,1)] (.k 0) qa rfl (nn a))
theorem de6(x0:b<=50)(x1:c<=b)(x2:a=d)(x3:d<=(1001*c)):a<(2^60):=n2 (aa 1 [(b:Int),(c:Int),(a:Int),(d:Int)] [(qa,.k 50,1001),(qb,qa,1001),(qc,qd,1),(qd,.m 1001 qb,1)] (.a qc (.k 1)) (.k 1152921504606846976) rfl (h1 x0) (h1 x1) (h3 x2) (h1 x3))
theorem de5(x0:a=4)(x1:c<=500)(x2:b=c):(a+b)<=1000000:=n1 (aa 1 [(a:Int),(c:Int),(b:Int)] [(qa,.k 4,1),(qb,.k 500,1),(qc,qb,1)] (.a qa qc) (.k 1000000) rfl (h3 x0) (h1 x1) (h3 x2))
theorem de4{a:Int}(x0:((97:Int)<=a)/\(a<123)):((0:Int)<=(a-97))/\((a-97)<36):=⟨(aa 1 [a] [(.k 97,qa,1)] (.k 0) (.s qa (.k 97)) rfl x0.1),i2 (aa 1 [a] [(.a qa (.k 1),.k 123,1)] (.a (.s qa (.k 97)) (.k 1)) (.k 36) rfl x0.2)⟩
theorem de3(x0:b<=50)(x1:c=d)(x2:d<=b)(x3:e<c)(x4:a<=((2*e)+1)):a<=1000000:=n1 (aa 1 [(b:Int),(c:Int),(d:Int),(e:Int),(a:Int)] [(qa,.k 50,2),(qb,qc,2),(qc,qa,2),(.a qd (.k 1),qb,2),(qe,.a (.m 2 qd) (.k 1),1)] qe (.k 1000000) rfl (h1 x0) (h3 x1) (h1 x2) (h2 x3) (h1 x4))
theorem de2{a:Int}(x0:((65:Int)<=a)/\(a<91)):((0:Int)<=(a-65))/\((a-65)<36):=⟨(aa 1 [a] [(.k 65,qa,1)] (.k 0) (.s qa (.k 65)) rfl x0.1),i2 (aa 1 [a] [(.a qa (.k 1),.k 91,1)] (.a (.s qa (.k 65)) (.k 1)) (.k 36) rfl x0.2)⟩
theorem de1{a:Int}(x0:((48:Int)<=a)/\(a<58)):((0:Int)<=((a-48)+26))/\(((a-48)+26)<36):=⟨(aa 1 [a] [(.k 48,qa,1)] (.k 0) (.a (.s qa (.k 48)) (.k 26)) rfl x0.1),i2 (aa 1 [a] [(.a qa (.k 1),.k 58,1)] (.a (.a (.s qa (.k 48)) (.k 26)) (.k 1)) (.k 36) rfl x0.2)⟩
theorem b76(x0:b<=50)(x1:a=b):a<=1000000:=Nat.le_trans (Nat.le_trans (Nat.le_of_eq x1) x0) (by decide)
theorem b75(x0:a=b)(x1:b<=1000):a<=1000000:=Nat.le_trans (Nat.le_trans (Nat.le_of_eq x0) x1) (by decide)
theorem b74(x0:b<=10)(x1:a=b):a<=999999:=Nat.le_trans (Nat.le_trans (Nat.le_of_eq x1) x0) (by decide)
theorem b73(x0:b<=5)(x1:a=b):a<=1000000:=Nat.le_trans (Nat.le_trans (Nat.le_of_eq x1) x0) (by decide)
theorem de0(x0:b=8)(x1:c<=(b+(((0+1)+1)+1)))(x2:d<=(c+(((((((((((((0+1)+1)+1)+1)+1)+1)+1)+1)+1)+1)+1)+1)+1)))(x3:a<=(d+(((((((((((((0+1)+1)+1)+1)+1)+1)+1)+1)+1)+1)+1)+1)+1))):(a+((((0+1)+1)+1)+1))<=1000000:=n1 (aa 1 [(b:Int),(c:Int),(d:Int),(a:Int)] [(qa,.k 8,1),(qb,.a qa (.a (.a (.a (.k 0) (.k 1)) (.k 1)) (.k 1)),1),(qc,.a qb (.a (.a (.a (.a (.a (.a (.a (.a (.a (.a (.a (.a (.a (.k 0) (.k 1)) (.k 1)) (.k 1)) (.k 1)) (.k 1)) (.k 1)) (.k 1)) (.k 1)) (.k 1)) (.k 1)) (.k 1)) (.k 1)) (.k 1)),1),(qd,.a qc (.a (.a (.a (.a (.a (.a (.a (.a (.a (.a (.a (.a (.a (.k 0) (.k 1)) (.k 1)) (.k 1)) (.k 1)) (.k 1)) (.k 1)) (.k 1)) (.k 1)) (.k 1)) (.k 1)) (.k 1)) (.k 1)) (.k 1)),1)] (.a qd (.a (.a (.a (.a (.k 0) (.k 1)) (.k 1)) (.k 1)) (.k 1))) (.k 1000000) rfl (h3 x0) (h1 x1) (h1 x2) (h1 x3))
theorem dd9(x0:c=d)(x1:e=d)(x2:e<=1000)(x3:b<=2)(x4:a<=c):(a+b)<=1000000:=n1 (aa 1 [(c:Int),(d:Int),(e:Int),(b:Int),(a:Int)] [(qa,qb,1),(qb,qc,1),(qc,.k 1000,1),(qd,.k 2,1),(qe,qa,1)] (.a qe qd) (.k 1000000) rfl (h3 x0) (h4 x1) (h1 x2) (h1 x3) (h1 x4))
theorem b72(x0:a<=900):(4+a)<=100000:=n1 (aa 1 [(a:Int)] [(qa,.k 900,1)] (.a (.k 4) qa) (.k 100000) rfl (h1 x0))
theorem dd8(x0:c=d)(x1:a<=(61+(41*c)))(x2:d<=b):a<=(61+(41*b)):=n1 (aa 1 [(c:Int),(d:Int),(a:Int),(b:Int)] [(qa,qb,41),(qc,.a (.k 61) (.m 41 qa),1),(qb,qd,41)] qc (.a (.k 61) (.m 41 qd)) rfl (h3 x0) (h1 x1) (h1 x2))
theorem b71(x0:b<=1000)(x1:a<b):(0+(a:Int))<(2^63):=i2 (aa 1 [(b:Int),(a:Int)] [(qa,.k 1000,1),(.a qb (.k 1),qa,1)] (.a (.a (.k 0) qb) (.k 1)) (.k 9223372036854775808) rfl (h1 x0) (h2 x1))
theorem dd7(x0:c=b)(x1:d=a)(x2:(d:Int)<(c:Int)):a<b:=n2 (aa 1 [(c:Int),(b:Int),(d:Int),(a:Int)] [(qa,qb,1),(qd,qc,1),(.a qc (.k 1),qa,1)] (.a qd (.k 1)) qb rfl (h3 x0) (h4 x1) x2)
theorem b70(x0:(a+1)<=40):a<=39:=n1 (aa 1 [(a:Int)] [(.a qa (.k 1),.k 40,1)] qa (.k 39) rfl (h1 x0))
theorem dd6(x0:b<=60)(x1:c=b)(x2:d<c)(x3:(e+a)=d):a<=60:=n1 (aa 1 [(b:Int),(c:Int),(d:Int),(e:Int),(a:Int)] [(qa,.k 60,1),(qb,qa,1),(.a qc (.k 1),qb,1),(.a qd qe,qc,1),(.k 0,qd,1)] qe (.k 60) rfl (h1 x0) (h3 x1) (h2 x2) (h3 x3) (nn e))
theorem dd5{a:Int}(x0:(a<4352)\/((4371:Int)<=a))(x1:(0:Int)<=(a-4352)):¬((a-4352)<19):=fun h=>x0.elim (fun q=>absurd (Int.sub_nonneg.mp x1) (Int.not_le.mpr q)) fun q=>absurd (Int.lt_add_of_sub_right_lt h) (Int.not_lt.mpr q)
theorem dd4(x0:b=3)(x1:a<b)(x2:c=3)(x3:¬(((a:Int)+1)<(c:Int))):a=2:=n3 (aa 1 [(b:Int),(a:Int),(c:Int)] [(qa,.k 3,1),(.a qb (.k 1),qa,1)] qb (.k 2) rfl (h3 x0) (h2 x1)) (aa 1 [(b:Int),(a:Int),(c:Int)] [(.k 3,qc,1),(qc,.a qb (.k 1),1)] (.k 2) qb rfl (h4 x2) (i6 x3))
theorem dd3(x0:a=c):((a:Int)=(b:Int))↔(c=b):=⟨fun y0=>n3 (aa 1 [(a:Int),(c:Int),(b:Int)] [(qb,qa,1),(qa,qc,1)] qb qc rfl (h4 x0) (i3 y0)) (aa 1 [(a:Int),(c:Int),(b:Int)] [(qa,qb,1),(qc,qa,1)] qc qb rfl (h3 x0) (i4 y0)),fun y0=>c0 (aa 1 [(a:Int),(c:Int),(b:Int)] [(qa,qb,1),(qb,qc,1)] qa qc rfl (h3 x0) (h3 y0)) (aa 1 [(a:Int),(c:Int),(b:Int)] [(qb,qa,1),(qc,qb,1)] qc qa rfl (h4 x0) (h4 y0))⟩
theorem dd2{a:Int}(x0:(a<4352)\/((4700:Int)<=a)):(a<4352)\/((4371:Int)<=a):=x0.imp id fun h=>Int.le_trans (by decide) h
theorem dd1(x0:c<=60)(x1:(d+e)=c)(x2:a=d)(x3:b=e):(a+b)<=1000000:=n1 (aa 1 [(c:Int),(d:Int),(e:Int),(a:Int),(b:Int)] [(qa,.k 60,1),(.a qb qc,qa,1),(qd,qb,1),(qe,qc,1)] (.a qd qe) (.k 1000000) rfl (h1 x0) (h3 x1) (h3 x2) (h3 x3))
theorem dd0(x0:c=d)(x1:d<=1000)(x2:b<=2)(x3:a<=c):(a+b)<=1000000:=n1 (aa 1 [(c:Int),(d:Int),(b:Int),(a:Int)] [(qa,qb,1),(qb,.k 1000,1),(qc,.k 2,1),(qd,qa,1)] (.a qd qc) (.k 1000000) rfl (h3 x0) (h1 x1) (h1 x2) (h1 x3))
theorem dc9{a:Int}(x0:¬((63:Int)<a)):¬((63:Nat)<a.toNat):=fun h=>x0 (Int.lt_toNat.mp h)
theorem dc8(x0:a<=1000):(((a:Int)-0)).toNat<=1000000:=n1 (aa 1 [(a:Int),(((((a:Int)-0)).toNat:Nat):Int)] [(qa,.k 1000,1),(qb,.s qa (.k 0),1)] qb (.k 1000000) rfl (h1 x0) (tn (aa 1 [(a:Int),(((((a:Int)-0)).toNat:Nat):Int)] [(.k 0,qa,1)] (.k 0) (.s qa (.k 0)) rfl (nn a))))
theorem b69{a b:Int}(x0:b<=a):¬(a<b):=Int.not_lt.mpr x0
theorem dc7{a:Int}(x0:a<36)(x1:(26:Int)<=a):((48:Int)<=((48+a)-26))/\(((48+a)-26)<58):=⟨(aa 1 [a] [(.k 26,qa,1)] (.k 48) (.s (.a (.k 48) qa) (.k 26)) rfl x1),i2 (aa 1 [a] [(.a qa (.k 1),.k 36,1)] (.a (.s (.a (.k 48) qa) (.k 26)) (.k 1)) (.k 58) rfl x0)⟩
theorem b68{a:Int}(x0:(0:Int)<=a):(0:Int)<=(1+a):=aa 1 [a] [(.k 0,qa,1)] (.k 0) (.a (.k 1) qa) rfl x0
theorem dc6(x0:b<=1)(x1:c<=1)(x2:d<=1)(x3:a=((b+c)+d)):a<=1000000:=n1 (aa 1 [(b:Int),(c:Int),(d:Int),(a:Int)] [(qa,.k 1,1),(qb,.k 1,1),(qc,.k 1,1),(qd,.a (.a qa qb) qc,1)] qd (.k 1000000) rfl (h1 x0) (h1 x1) (h1 x2) (h3 x3))
theorem dc5(x0:((a+b)<=c)/\((0:Nat)<b)):((((a+b):Nat):Int)-1)<(c:Int):=i2 (aa 1 [(a:Int),(b:Int),(c:Int)] [(.a qa qb,qc,1)] (.a (.s (.a qa qb) (.k 1)) (.k 1)) qc rfl (h1 x0.1))
theorem b67{a:Int}(x0:a<44032):¬((0:Int)<=(a-44032)):=eS (aa 1 [a] [(.a qa (.k 1),.k 44032,1)] (.a (.s qa (.k 44032)) (.k 1)) (.k 0) rfl x0)
theorem dc4{a:Int}(x0:a<(b:Int))(x1:b<1000):a<(2^60):=i2 (aa 1 [a,(b:Int)] [(.a qa (.k 1),qb,1),(.a qb (.k 1),.k 1000,1)] (.a qa (.k 1)) (.k 1152921504606846976) rfl x0 (h2 x1))
theorem dc3{a b:Int}(x0:b<(36-a)):¬((36:Int)<=(a+b)):=eS (aa 1 [b,a] [(.a qa (.k 1),.s (.k 36) qb,1)] (.a (.a qb qa) (.k 1)) (.k 36) rfl x0)
theorem dc2(x0:(b+c)<=1000000)(x1:d<c)(x2:a<=(b+d)):a<=1000000:=n1 (aa 1 [(b:Int),(c:Int),(d:Int),(a:Int)] [(.a qa qb,.k 1000000,1),(.a qc (.k 1),qb,1),(qd,.a qa qc,1)] qd (.k 1000000) rfl (h1 x0) (h2 x1) (h1 x2))
theorem dc1{a:Int}(x0:a<7):((a-0)).toNat<=1000000:=Int.toNat_le.mpr (Int.le_trans (Int.le_of_eq (Int.sub_zero _)) (Int.le_trans (Int.le_of_lt x0) (by decide)))
theorem dc0(x0:b<=60)(x1:c=b)(x2:d<c)(x3:e<=d)(x4:(f:Int)=((a:Int)-1))(x5:f=(e-1)):a<=1000000:=n1 (aa 1 [(b:Int),(c:Int),(d:Int),(e:Int),(f:Int),(a:Int),((e-1:Nat):Int)] [(qa,.k 60,1),(qb,qa,1),(.a qc (.k 1),qb,1),(qd,qc,1),(.s qf (.k 1),qe,1),(qe,qg,1),(qg,qd,1)] qf (.k 1000000) rfl (h1 x0) (h3 x1) (h2 x2) (h1 x3) (i4 x4) (h3 x5) (h1 (Nat.sub_le (e) (1))))
theorem db9(x0:a<2):((a:Int)+1)<(2^63):=i2 (aa 1 [(a:Int)] [(.a qa (.k 1),.k 2,1)] (.a (.a qa (.k 1)) (.k 1)) (.k 9223372036854775808) rfl (h2 x0))
theorem db8(x0:((a+b)<=c)/\((0:Nat)<b)):(0:Int)<=((((a+b):Nat):Int)-1):=aa 1 [(a:Int),(b:Int),(c:Int)] [(.a (.k 0) (.k 1),qb,1),(.k 0,qa,1)] (.k 0) (.s (.a qa qb) (.k 1)) rfl (h2 x0.2) (nn a)
theorem db7(x0:c<=50)(x1:d<=c)(x2:e<=d)(x3:a=e)(x4:b<=1):(a+b)<=1000000:=n1 (aa 1 [(c:Int),(d:Int),(e:Int),(a:Int),(b:Int)] [(qa,.k 50,1),(qb,qa,1),(qc,qb,1),(qd,qc,1),(qe,.k 1,1)] (.a qd qe) (.k 1000000) rfl (h1 x0) (h1 x1) (h1 x2) (h3 x3) (h1 x4))
theorem db6(x0:c<=10)(x1:b<=1)(x2:a<=(5+c)):(a+b)<=1000000:=n1 (aa 1 [(c:Int),(b:Int),(a:Int)] [(qa,.k 10,1),(qb,.k 1,1),(qc,.a (.k 5) qa,1)] (.a qc qb) (.k 1000000) rfl (h1 x0) (h1 x1) (h1 x2))
theorem db5{a:Int}(x0:((0:Int)<=a)/\(a<=1000)):a.toNat<=1000:=n1 (aa 1 [a,(a.toNat:Int)] [(qa,.k 1000,1),(qb,qa,1)] qb (.k 1000) rfl x0.2 (tn (aa 1 [a,(a.toNat:Int)] [(.k 0,qa,1)] (.k 0) qa rfl x0.1)))
theorem db4(x0:(a:Int)=((b:Int)-1)):a<b:=n2 (aa 1 [(a:Int),(b:Int)] [(qa,.s qb (.k 1),1)] (.a qa (.k 1)) qb rfl (i3 x0))
theorem db3(x0:b=a)(x1:(c:Int)=((b:Int)-1)):(0:Nat)<a:=n2 (aa 1 [(b:Int),(a:Int),(c:Int)] [(qa,qb,1),(qc,.s qa (.k 1),1),(.k 0,qc,1)] (.a (.k 0) (.k 1)) qb rfl (h3 x0) (i3 x1) (nn c))
theorem db2(x0:d=b)(x1:a<=(d+c)):a<(b+(c+1)):=n2 (aa 1 [(d:Int),(b:Int),(a:Int),(c:Int)] [(qa,qb,1),(qc,.a qa qd,1)] (.a qc (.k 1)) (.a qb (.a qd (.k 1))) rfl (h3 x0) (h1 x1))
theorem db1(x0:b<=60)(x1:a=c)(x2:c<b):((a:Int)+1)<1000000:=i2 (aa 1 [(b:Int),(a:Int),(c:Int)] [(qa,.k 60,1),(qb,qc,1),(.a qc (.k 1),qa,1)] (.a (.a qb (.k 1)) (.k 1)) (.k 1000000) rfl (h1 x0) (h3 x1) (h2 x2))
theorem db0(x0:c<=100)(x1:d<=100)(x2:a=c)(x3:b=d):((a+1)+b)<=1000000:=n1 (aa 1 [(c:Int),(d:Int),(a:Int),(b:Int)] [(qa,.k 100,1),(qb,.k 100,1),(qc,qa,1),(qd,qb,1)] (.a (.a qc (.k 1)) qd) (.k 1000000) rfl (h1 x0) (h1 x1) (h3 x2) (h3 x3))
theorem da9(x0:c<=100)(x1:d<=100)(x2:a=c)(x3:b=d):(a+(b+1))<=999999:=n1 (aa 1 [(c:Int),(d:Int),(a:Int),(b:Int)] [(qa,.k 100,1),(qb,.k 100,1),(qc,qa,1),(qd,qb,1)] (.a qc (.a qd (.k 1))) (.k 999999) rfl (h1 x0) (h1 x1) (h3 x2) (h3 x3))
theorem da8(x0:b=8)(x1:c<=(b+(((0+1)+1)+1)))(x2:a<=(c+(((((((((((((0+1)+1)+1)+1)+1)+1)+1)+1)+1)+1)+1)+1)+1))):(a+(((((((((((((0+1)+1)+1)+1)+1)+1)+1)+1)+1)+1)+1)+1)+1))<=1000000:=n1 (aa 1 [(b:Int),(c:Int),(a:Int)] [(qa,.k 8,1),(qb,.a qa (.a (.a (.a (.k 0) (.k 1)) (.k 1)) (.k 1)),1),(qc,.a qb (.a (.a (.a (.a (.a (.a (.a (.a (.a (.a (.a (.a (.a (.k 0) (.k 1)) (.k 1)) (.k 1)) (.k 1)) (.k 1)) (.k 1)) (.k 1)) (.k 1)) (.k 1)) (.k 1)) (.k 1)) (.k 1)) (.k 1)),1)] (.a qc (.a (.a (.a (.a (.a (.a (.a (.a (.a (.a (.a (.a (.a (.k 0) (.k 1)) (.k 1)) (.k 1)) (.k 1)) (.k 1)) (.k 1)) (.k 1)) (.k 1)) (.k 1)) (.k 1)) (.k 1)) (.k 1)) (.k 1))) (.k 1000000) rfl (h3 x0) (h1 x1) (h1 x2))
theorem da7(x0:c<=d)(x1:a<c)(x2:d=(b+1)):a<=(b+1):=Nat.le_of_lt (Nat.lt_of_lt_of_le (Nat.lt_of_lt_of_le x1 x0) (Nat.le_of_eq x2))
theorem da6(x0:d<=(b+c))(x1:a<=(d+1)):a<=(b+(c+1)):=n1 (aa 1 [(d:Int),(b:Int),(c:Int),(a:Int)] [(qa,.a qb qc,1),(qd,.a qa (.k 1),1)] qd (.a qb (.a qc (.k 1))) rfl (h1 x0) (h1 x1))
theorem da5{a:Int}(x0:(0:Int)<=a)(x1:a<128):((0:Int)<=a)/\(a<256):=⟨(aa 1 [a] [(.k 0,qa,1)] (.k 0) qa rfl x0),i2 (aa 1 [a] [(.a qa (.k 1),.k 128,1)] (.a qa (.k 1)) (.k 256) rfl x1)⟩
theorem da4(x0:b=(a+c)):a<=b:=n1 (aa 1 [(b:Int),(a:Int),(c:Int)] [(.a qb qc,qa,1),(.k 0,qc,1)] qb qa rfl (h4 x0) (nn c))
theorem da3{a:Int}(x0:((0:Int)<=a)/\(a<=1000)):a=(a.toNat:Int):=c0 (aa 1 [a,(a.toNat:Int)] [(qa,qb,1)] qa qb rfl (Int.self_le_toNat (a))) (aa 1 [a,(a.toNat:Int)] [(qb,qa,1)] qb qa rfl (tn (aa 1 [a,(a.toNat:Int)] [(.k 0,qa,1)] (.k 0) qa rfl x0.1)))
theorem b66{a:Int}(x0:(0:Int)<=a):((-(2^63)):Int)<=a:=by lia
theorem da2(x0:b<=20)(x1:c=(b+b))(x2:a<=(0+c)):a<=1000000:=n1 (aa 1 [(b:Int),(c:Int),(a:Int)] [(qa,.k 20,2),(qb,.a qa qa,1),(qc,.a (.k 0) qb,1)] qc (.k 1000000) rfl (h1 x0) (h3 x1) (h1 x2))
theorem da1{a:Int}(x0:(63:Int)<a):(63:Nat)<a.toNat:=n2 (aa 1 [a,(a.toNat:Int)] [(.a (.k 63) (.k 1),qa,1),(qa,qb,1)] (.a (.k 63) (.k 1)) qb rfl x0 (Int.self_le_toNat (a)))
theorem da0(x0:a<c)(x1:c<=(b+1)):a<=b:=n1 (aa 1 [(a:Int),(c:Int),(b:Int)] [(.a qa (.k 1),qb,1),(qb,.a qc (.k 1),1)] qa qc rfl (h2 x0) (h1 x1))
theorem b65(x0:a<=11):a<=1000:=Nat.le_trans x0 (by decide)
theorem c99{a:Int}(x0:(((97:Int)<=a)/\(a<=122))\/(((48:Int)<=a)/\(a<=57))):a≠45:=fun e=>absurd (x0.elim (fun q=>e▸Int.le_trans (by decide:(48:Int)<=97) q.1) fun q=>e▸q.1) (by decide:¬(48:Int)<=45)
theorem c98(x0:b<=100)(x1:c<=100)(x2:a=(((b+(0+1))+c)+(0+1))):a<=1000000:=n1 (aa 1 [(b:Int),(c:Int),(a:Int)] [(qa,.k 100,1),(qb,.k 100,1),(qc,.a (.a (.a qa (.a (.k 0) (.k 1))) qb) (.a (.k 0) (.k 1)),1)] qc (.k 1000000) rfl (h1 x0) (h1 x1) (h3 x2))
theorem c97(x0:b<=50)(x1:a=c)(x2:c<=b):a<(2^60):=n2 (aa 1 [(b:Int),(a:Int),(c:Int)] [(qa,.k 50,1),(qb,qc,1),(qc,qa,1)] (.a qb (.k 1)) (.k 1152921504606846976) rfl (h1 x0) (h3 x1) (h1 x2))
theorem c96(x0:a<=1000)(x1:b<=(1001*c)):((a+1)+b)<=(1001*(c+1)):=n1 (aa 1 [(a:Int),(b:Int),(c:Int)] [(qa,.k 1000,1),(qb,.m 1001 qc,1)] (.a (.a qa (.k 1)) qb) (.m 1001 (.a qc (.k 1))) rfl (h1 x0) (h1 x1))
theorem c95(x0:a<=11)(x1:b<=(12*c)):((a+1)+b)<=(12*(c+1)):=n1 (aa 1 [(a:Int),(b:Int),(c:Int)] [(qa,.k 11,1),(qb,.m 12 qc,1)] (.a (.a qa (.k 1)) qb) (.m 12 (.a qc (.k 1))) rfl (h1 x0) (h1 x1))
theorem c94{a:Int}(x0:(0:Int)<=a)(x1:¬((26:Int)<=a)):((97:Int)<=(97+a))/\((97+a)<123):=⟨(aa 1 [a] [(.k 0,qa,1)] (.k 97) (.a (.k 97) qa) rfl x0),i2 (aa 1 [a] [(.a qa (.k 1),.k 26,1)] (.a (.a (.k 97) qa) (.k 1)) (.k 123) rfl (i5 x1))⟩
theorem c93{b c:Int}(x0:¬((0:Int)<=b))(x1:(b=((a:Int)-1))/\(c=(-1))):a=0:=n3 (aa 1 [b,(a:Int),c] [(.a qa (.k 1),.k 0,1),(.s qb (.k 1),qa,1)] qb (.k 0) rfl (i5 x0) (i4 x1.1)) (aa 1 [b,(a:Int),c] [(.k 0,qb,1)] (.k 0) qb rfl (nn a))
theorem c92(x0:b=c)(x1:a<c):a<b:=Nat.lt_of_lt_of_le x1 (Nat.le_of_eq x0.symm)
theorem bb0(x0:(a+(b+1))<900):a<1000:=n2 (aa 1 [(a:Int),(b:Int)] [(.a (.a qa (.a qb (.k 1))) (.k 1),.k 900,1),(.k 0,qb,1)] (.a qa (.k 1)) (.k 1000) rfl (h2 x0) (nn b))
theorem c91(x0:a<((b+1)+c)):a<(b+(c+1)):=n2 (aa 1 [(a:Int),(b:Int),(c:Int)] [(.a qa (.k 1),.a (.a qb (.k 1)) qc,1)] (.a qa (.k 1)) (.a qb (.a qc (.k 1))) rfl (h2 x0))
theorem c90(x0:c=a)(x1:d=b)(x2:(c:Int)=(d:Int)):(min a b)=c:=n3 (aa 1 [(c:Int),(a:Int),(d:Int),(b:Int),((min a b:Nat):Int)] [(qb,qa,1),(qe,qb,1)] qe qa rfl (h4 x0) (h1 (Nat.min_le_left a b))) (aa 1 [(c:Int),(a:Int),(d:Int),(b:Int),((min a b:Nat):Int)] [(qa,qb,1),(qb,qe,1)] qa qe rfl (h3 x0) (h1 (Nat.le_min.mpr ⟨Nat.le_refl _,(n1 (aa 1 [(c:Int),(a:Int),(d:Int),(b:Int),((min a b:Nat):Int)] [(qb,qa,1),(qc,qd,1),(qa,qc,1)] qb qd rfl (h4 x0) (h3 x1) (i3 x2)))⟩)))
theorem c89(x0:c<=1000)(x1:b=c)(x2:a<=1):(a+b)<=1000000:=n1 (aa 1 [(c:Int),(b:Int),(a:Int)] [(qa,.k 1000,1),(qb,qa,1),(qc,.k 1,1)] (.a qc qb) (.k 1000000) rfl (h1 x0) (h3 x1) (h1 x2))
theorem b64(x0:b<=10)(x1:a<=(6+b)):a<=1000:=n1 (aa 1 [(b:Int),(a:Int)] [(qa,.k 10,1),(qb,.a (.k 6) qa,1)] qb (.k 1000) rfl (h1 x0) (h1 x1))
theorem c88(x0:((a+c)<=b)/\((0:Nat)<c)):(a:Int)<(b:Int):=i2 (aa 1 [(a:Int),(c:Int),(b:Int)] [(.a qa qb,qc,1),(.a (.k 0) (.k 1),qb,1)] (.a qa (.k 1)) qc rfl (h1 x0.1) (h2 x0.2))
theorem c87{a b:Int}(x0:(0:Int)<=b):¬((a+b)<a):=eo (aa 1 [b,a] [(.k 0,qa,1)] qb (.a qb qa) rfl x0)
theorem c86(x0:b<1000000)(x1:a=b):a<(2^60):=n2 (aa 1 [(b:Int),(a:Int)] [(.a qa (.k 1),.k 1000000,1),(qb,qa,1)] (.a qb (.k 1)) (.k 1152921504606846976) rfl (h2 x0) (h3 x1))
theorem c85(x0:a<b)(x1:b<=1000):((a:Int)-1)<(2^63):=i2 (aa 1 [(a:Int),(b:Int)] [(.a qa (.k 1),qb,1),(qb,.k 1000,1)] (.a (.s qa (.k 1)) (.k 1)) (.k 9223372036854775808) rfl (h2 x0) (h1 x1))
theorem c84(x0:b<=50)(x1:c<=b)(x2:d<=(2*c))(x3:a=d):a<=1000000:=n1 (aa 1 [(b:Int),(c:Int),(d:Int),(a:Int)] [(qa,.k 50,2),(qb,qa,2),(qc,.m 2 qb,1),(qd,qc,1)] qd (.k 1000000) rfl (h1 x0) (h1 x1) (h1 x2) (h3 x3))
theorem b63(x0:a<=7):a<=1000:=Nat.le_trans x0 (by decide)
theorem c83{a:Int}(x0:(a<4352)\/((4700:Int)<=a))(x1:(4519:Int)<a):¬(a<(4519+28)):=fun h=>x0.elim (fun q=>absurd (Int.lt_trans x1 q) (by decide)) fun q=>absurd (Int.lt_of_le_of_lt q h) (by decide)
theorem c82{a b c d:Int}(x0:(b+d)=(a-c)):a=(b+(c+d)):=c0 (aa 1 [b,d,a,c] [(.s qc qd,.a qa qb,1)] qc (.a qa (.a qd qb)) rfl (i4 x0)) (aa 1 [b,d,a,c] [(.a qa qb,.s qc qd,1)] (.a qa (.a qd qb)) qc rfl (i3 x0))
theorem c81(x0:b<=(2*c))(x1:a<=2):(a+b)<=(2*(c+1)):=n1 (aa 1 [(b:Int),(c:Int),(a:Int)] [(qa,.m 2 qb,1),(qc,.k 2,1)] (.a qc qa) (.m 2 (.a qb (.k 1))) rfl (h1 x0) (h1 x1))
theorem c80(x0:c<=30)(x1:d=c)(x2:a<=6)(x3:b<=d):(a+b)<=1000000:=n1 (aa 1 [(c:Int),(d:Int),(a:Int),(b:Int)] [(qa,.k 30,1),(qb,qa,1),(qc,.k 6,1),(qd,qb,1)] (.a qc qd) (.k 1000000) rfl (h1 x0) (h3 x1) (h1 x2) (h1 x3))
theorem c79(x0:c<=1)(x1:d<=1)(x2:a=c)(x3:b=d):(a+b)<=1000000:=n1 (aa 1 [(c:Int),(d:Int),(a:Int),(b:Int)] [(qa,.k 1,1),(qb,.k 1,1),(qc,qa,1),(qd,qb,1)] (.a qc qd) (.k 1000000) rfl (h1 x0) (h1 x1) (h3 x2) (h3 x3))
theorem c78(x0:a<=b):((a:Int)+1)<=(((b+1):Nat):Int):=aa 1 [(a:Int),(b:Int)] [(qa,qb,1)] (.a qa (.k 1)) (.a qb (.k 1)) rfl (h1 x0)
theorem c77(x0:b=3)(x1:a<b):(a:Int)<(2^63):=i2 (aa 1 [(b:Int),(a:Int)] [(qa,.k 3,1),(.a qb (.k 1),qa,1)] (.a qb (.k 1)) (.k 9223372036854775808) rfl (h3 x0) (h2 x1))
theorem b62(x0:a<=63):a<=1000000:=Nat.le_trans x0 (by decide)
theorem c76(x0:b<=(0+1))(x1:a<=(b+1)):a<900:=n2 (aa 1 [(b:Int),(a:Int)] [(qa,.a (.k 0) (.k 1),1),(qb,.a qa (.k 1),1)] (.a qb (.k 1)) (.k 900) rfl (h1 x0) (h1 x1))
theorem c75{a b:Int}(x0:a<=b)(x1:¬(b=a)):(a+1)<=b:=by lia
theorem c74(x0:c<=60)(x1:d<=c)(x2:a=d)(x3:b<=1):(a+b)<=1000000:=n1 (aa 1 [(c:Int),(d:Int),(a:Int),(b:Int)] [(qa,.k 60,1),(qb,qa,1),(qc,qb,1),(qd,.k 1,1)] (.a qc qd) (.k 1000000) rfl (h1 x0) (h1 x1) (h3 x2) (h1 x3))
theorem c73{a:Int}(x0:¬(a<(97+26))):¬(((65:Int)<=a)/\(a<91)):=by omega
theorem c72{a:Int}(x0:¬(a<(97+26))):¬(((48:Int)<=a)/\(a<58)):=by omega
theorem c71{a:Int}(x0:¬(a<(65+26))):¬(((48:Int)<=a)/\(a<58)):=by omega
end
mutual
theorem c70(x0:b<=60)(x1:c=b)(x2:(a:Int)<(c:Int)):((a:Int)+1)<=61:=aa 1 [(b:Int),(c:Int),(a:Int)] [(qa,.k 60,1),(qb,qa,1),(.a qc (.k 1),qb,1)] (.a qc (.k 1)) (.k 61) rfl (h1 x0) (h3 x1) x2
theorem c69(x0:a<b)(x1:b<=1000):(a:Int)<(2^63):=i2 (aa 1 [(a:Int),(b:Int)] [(.a qa (.k 1),qb,1),(qb,.k 1000,1)] (.a qa (.k 1)) (.k 9223372036854775808) rfl (h2 x0) (h1 x1))
theorem c68(x0:b=3)(x1:c=3)(x2:a<c):a<b:=Nat.lt_of_lt_of_le (Nat.lt_of_lt_of_le x2 (Nat.le_of_eq x1)) (Nat.le_of_eq x0.symm)
theorem c67:(min a 2)<=999999:=Nat.le_trans (Nat.min_le_right a 2) (by decide)
theorem c66{a:Int}(x0:(a<4352)\/((4700:Int)<=a))(x1:(4449:Int)<=a):¬(a<(4449+21)):=by lia
theorem c65(x0:b=c):(((min a b)+1)+(b-a))=(((min a c)+1)+(c-a)):=(Nat.le_total a b).elim (fun y0=>n3 (aa 1 [(b:Int),(c:Int),((min a b:Nat):Int),(a:Int),((b-a:Nat):Int),((min a c:Nat):Int),((c-a:Nat):Int)] [(qa,qb,1),(qc,qd,1),(qb,.a qg qd,1),(.a qe qd,qa,1),(qd,qf,1)] (.a (.a qc (.k 1)) qe) (.a (.a qf (.k 1)) qg) rfl (h3 x0) (h1 (Nat.min_le_left a b)) (h1 (sb (c) (a))) (h1 (sc (n1 (aa 1 [(b:Int),(c:Int),((min a b:Nat):Int),(a:Int),((b-a:Nat):Int),((min a c:Nat):Int),((c-a:Nat):Int)] [(qd,qa,1)] qd qa rfl (h1 y0))))) (h1 (Nat.le_min.mpr ⟨Nat.le_refl _,(n1 (aa 1 [(b:Int),(c:Int),((min a b:Nat):Int),(a:Int),((b-a:Nat):Int),((min a c:Nat):Int),((c-a:Nat):Int)] [(qa,qb,1),(qd,qa,1)] qd qb rfl (h3 x0) (h1 y0)))⟩))) (aa 1 [(b:Int),(c:Int),((min a b:Nat):Int),(a:Int),((b-a:Nat):Int),((min a c:Nat):Int),((c-a:Nat):Int)] [(qb,qa,1),(qa,.a qe qd,1),(qf,qd,1),(qd,qc,1),(.a qg qd,qb,1)] (.a (.a qf (.k 1)) qg) (.a (.a qc (.k 1)) qe) rfl (h4 x0) (h1 (sb (b) (a))) (h1 (Nat.min_le_left a c)) (h1 (Nat.le_min.mpr ⟨Nat.le_refl _,(n1 (aa 1 [(b:Int),(c:Int),((min a b:Nat):Int),(a:Int),((b-a:Nat):Int),((min a c:Nat):Int),((c-a:Nat):Int)] [(qd,qa,1)] qd qa rfl (h1 y0)))⟩)) (h1 (sc (n1 (aa 1 [(b:Int),(c:Int),((min a b:Nat):Int),(a:Int),((b-a:Nat):Int),((min a c:Nat):Int),((c-a:Nat):Int)] [(qa,qb,1),(qd,qa,1)] qd qb rfl (h3 x0) (h1 y0))))))) (fun y0=>n3 (aa 1 [(b:Int),(c:Int),((min a b:Nat):Int),(a:Int),((b-a:Nat):Int),((min a c:Nat):Int),((c-a:Nat):Int)] [(qa,qb,1),(qc,qa,1),(.k 0,qg,1),(qe,.k 0,1),(qb,qf,1)] (.a (.a qc (.k 1)) qe) (.a (.a qf (.k 1)) qg) rfl (h3 x0) (h1 (Nat.min_le_right a b)) (nn (c-a)) (h1 (sz (n1 (aa 1 [(b:Int),(c:Int),((min a b:Nat):Int),(a:Int),((b-a:Nat):Int),((min a c:Nat):Int),((c-a:Nat):Int)] [(qa,qd,1)] qa qd rfl (h1 y0))))) (h1 (Nat.le_min.mpr ⟨(n1 (aa 1 [(b:Int),(c:Int),((min a b:Nat):Int),(a:Int),((b-a:Nat):Int),((min a c:Nat):Int),((c-a:Nat):Int)] [(qb,qa,1),(qa,qd,1)] qb qd rfl (h4 x0) (h1 y0))),Nat.le_refl _⟩))) (aa 1 [(b:Int),(c:Int),((min a b:Nat):Int),(a:Int),((b-a:Nat):Int),((min a c:Nat):Int),((c-a:Nat):Int)] [(qb,qa,1),(.k 0,qe,1),(qf,qb,1),(qa,qc,1),(qg,.k 0,1)] (.a (.a qf (.k 1)) qg) (.a (.a qc (.k 1)) qe) rfl (h4 x0) (nn (b-a)) (h1 (Nat.min_le_right a c)) (h1 (Nat.le_min.mpr ⟨(n1 (aa 1 [(b:Int),(c:Int),((min a b:Nat):Int),(a:Int),((b-a:Nat):Int),((min a c:Nat):Int),((c-a:Nat):Int)] [(qa,qd,1)] qa qd rfl (h1 y0))),Nat.le_refl _⟩)) (h1 (sz (n1 (aa 1 [(b:Int),(c:Int),((min a b:Nat):Int),(a:Int),((b-a:Nat):Int),((min a c:Nat):Int),((c-a:Nat):Int)] [(qb,qa,1),(qa,qd,1)] qb qd rfl (h4 x0) (h1 y0)))))))
theorem c64(x0:c<=60)(x1:d<=c)(x2:a=d)(x3:b<=1):(a+b)<=61:=n1 (aa 1 [(c:Int),(d:Int),(a:Int),(b:Int)] [(qa,.k 60,1),(qb,qa,1),(qc,qb,1),(qd,.k 1,1)] (.a qc qd) (.k 61) rfl (h1 x0) (h1 x1) (h3 x2) (h1 x3))
theorem c63(x0:b=a)(x1:¬((253:Int)<(b:Int))):¬((253:Nat)<a):=n6 (aa 1 [(b:Int),(a:Int)] [(qb,qa,1),(qa,.k 253,1)] qb (.k 253) rfl (h4 x0) (i6 x1))
theorem c62(x0:b<60)(x1:a=b):a<64:=Nat.lt_of_lt_of_le (Nat.lt_of_le_of_lt (Nat.le_of_eq x1) x0) (by decide)
theorem b61(x0:a=4):a<=999999:=Nat.le_trans (Nat.le_of_eq x0) (by decide)
theorem c61(x0:b=a)(x1:¬((63:Int)<(b:Int))):¬((63:Nat)<a):=n6 (aa 1 [(b:Int),(a:Int)] [(qb,qa,1),(qa,.k 63,1)] qb (.k 63) rfl (h4 x0) (i6 x1))
theorem b60(x0:a<=900):a<=1000:=Nat.le_trans x0 (by decide)
theorem c60{a:Int}(x0:a<36):¬(((97:Int)<=((48+a)-26))/\(((48+a)-26)<123)):=by lia
theorem c59{a:Int}(x0:a<36):¬(((65:Int)<=((48+a)-26))/\(((48+a)-26)<91)):=fun h=>absurd (Int.lt_of_le_of_lt h.1 (Int.sub_lt_sub_right (Int.add_lt_add_left x0 48) 26)) (by decide)
theorem c58(x0:c<=d)(x1:a<c)(x2:d=(b+1)):a<=b:=n1 (aa 1 [(c:Int),(d:Int),(a:Int),(b:Int)] [(qa,qb,1),(.a qc (.k 1),qa,1),(qb,.a qd (.k 1),1)] qc qd rfl (h1 x0) (h2 x1) (h3 x2))
theorem b59(x0:a<=5):a<=6:=Nat.le_trans x0 (by decide)
theorem b58(x0:a<=60):a<=1000:=Nat.le_trans x0 (by decide)
theorem b57(x0:a<=30):a<=100000:=Nat.le_trans x0 (by decide)
theorem b56(x0:a<=1000):a<=100000:=Nat.le_trans x0 (by decide)
theorem b55(x0:a<=10):a<=60:=Nat.le_trans x0 (by decide)
theorem bm4(x0:a<=10):a<=30:=Nat.le_trans x0 (by decide)
theorem b54(x0:a<=5):a<=50:=Nat.le_trans x0 (by decide)
theorem b53(x0:a<=100):a<=1000:=Nat.le_trans x0 (by decide)
theorem c57(x0:b<=1000)(x1:a=b):a<(2^60):=n2 (aa 1 [(b:Int),(a:Int)] [(qa,.k 1000,1),(qb,qa,1)] (.a qb (.k 1)) (.k 1152921504606846976) rfl (h1 x0) (h3 x1))
theorem c56(x0:c<b)(x1:a<=(c+1)):a<(b+1):=n2 (aa 1 [(c:Int),(b:Int),(a:Int)] [(.a qa (.k 1),qb,1),(qc,.a qa (.k 1),1)] (.a qc (.k 1)) (.a qb (.k 1)) rfl (h2 x0) (h1 x1))
theorem c55{a:Int}(x0:¬(a<(97+26))):¬(((97:Int)<=a)/\(a<123)):=fun h=>x0 h.2
theorem c54{a:Int}(x0:¬(a<(65+26))):¬(((65:Int)<=a)/\(a<91)):=by omega
theorem c53{a:Int}(x0:¬(a<(48+10))):¬(((48:Int)<=a)/\(a<58)):=by omega
theorem b52(x0:a<=4):a<=60:=Nat.le_trans x0 (by decide)
theorem c52(x0:a<=(c+1))(x1:c<=b):a<=(b+1):=n1 (aa 1 [(a:Int),(c:Int),(b:Int)] [(qa,.a qb (.k 1),1),(qb,qc,1)] qa (.a qc (.k 1)) rfl (h1 x0) (h1 x1))
theorem b51(x0:¬(b<a)):a<=(b+1):=n1 (aa 1 [(b:Int),(a:Int)] [(qb,qa,1)] qb (.a qa (.k 1)) rfl (h6 x0))
theorem ba9{a:Int}(x0:(0:Int)<a):a≠0:=i8 (aa 1 [a] [(.a (.k 0) (.k 1),qa,1)] (.a (.k 0) (.k 1)) qa rfl x0)
theorem b50(x0:a<=2):a<=3:=Nat.le_trans x0 (by decide)
theorem c51{a b:Int}(x0:((1:Int)<=b)/\(b<=26))(x1:a<b):¬((36:Int)<=a):=eS (aa 1 [b,a] [(qa,.k 26,1),(.a qb (.k 1),qa,1)] (.a qb (.k 1)) (.k 36) rfl x0.2 x1)
theorem c50(x0:b=a)(x1:(253:Int)<(b:Int)):(253:Nat)<a:=n2 (aa 1 [(b:Int),(a:Int)] [(qa,qb,1),(.a (.k 253) (.k 1),qa,1)] (.a (.k 253) (.k 1)) qb rfl (h3 x0) x1)
theorem c49(x0:a<b)(x1:b=14):a<14:=Nat.lt_of_lt_of_le x0 (Nat.le_of_eq x1)
theorem c48(x0:b<=10)(x1:a<=(61+(41*b))):a<=500:=n1 (aa 1 [(b:Int),(a:Int)] [(qa,.k 10,41),(qb,.a (.k 61) (.m 41 qa),1)] qb (.k 500) rfl (h1 x0) (h1 x1))
theorem c47(x0:a<=20):(a+a)<60:=n2 (aa 1 [(a:Int)] [(qa,.k 20,2)] (.a (.a qa qa) (.k 1)) (.k 60) rfl (h1 x0))
theorem c46(x0:b=8)(x1:a<=(b+(((0+1)+1)+1))):(a+(((((((((((((0+1)+1)+1)+1)+1)+1)+1)+1)+1)+1)+1)+1)+1))<=1000000:=n1 (aa 1 [(b:Int),(a:Int)] [(qa,.k 8,1),(qb,.a qa (.a (.a (.a (.k 0) (.k 1)) (.k 1)) (.k 1)),1)] (.a qb (.a (.a (.a (.a (.a (.a (.a (.a (.a (.a (.a (.a (.a (.k 0) (.k 1)) (.k 1)) (.k 1)) (.k 1)) (.k 1)) (.k 1)) (.k 1)) (.k 1)) (.k 1)) (.k 1)) (.k 1)) (.k 1)) (.k 1))) (.k 1000000) rfl (h3 x0) (h1 x1))
theorem b49(x0:a<=1):a<=2:=Nat.le_trans x0 (by decide)
theorem c45(x0:b<=6)(x1:a<=(5+b)):a<=1000:=n1 (aa 1 [(b:Int),(a:Int)] [(qa,.k 6,1),(qb,.a (.k 5) qa,1)] qb (.k 1000) rfl (h1 x0) (h1 x1))
theorem bm3{a:Int}(x0:(0:Int)<a):(0:Int)<=a:=aa 1 [a] [(.a (.k 0) (.k 1),qa,1)] (.k 0) qa rfl x0
theorem c44(x0:b=a)(x1:(63:Int)<(b:Int)):(63:Nat)<a:=n2 (aa 1 [(b:Int),(a:Int)] [(qa,qb,1),(.a (.k 63) (.k 1),qa,1)] (.a (.k 63) (.k 1)) qb rfl (h3 x0) x1)
theorem c43{a:Int}(x0:(0:Int)<=a):(a<=0)↔(a=0):=⟨fun y0=>c0 (aa 1 [a] [(qa,.k 0,1)] qa (.k 0) rfl y0) (aa 1 [a] [(.k 0,qa,1)] (.k 0) qa rfl x0),fun y0=>(aa 1 [a] [(qa,.k 0,1)] qa (.k 0) rfl (i3 y0))⟩
theorem c42(x0:b<=10)(x1:a<=(6+b)):a<=20:=n1 (aa 1 [(b:Int),(a:Int)] [(qa,.k 10,1),(qb,.a (.k 6) qa,1)] qb (.k 20) rfl (h1 x0) (h1 x1))
theorem c41:(((a:Int)+1)).toNat=(a+1):=n3 (aa 1 [(((((a:Int)+1)).toNat:Nat):Int),(a:Int)] [(qa,.a qb (.k 1),1)] qa (.a qb (.k 1)) rfl (tn (aa 1 [(((((a:Int)+1)).toNat:Nat):Int),(a:Int)] [(.k 0,qb,1)] (.k 0) (.a qb (.k 1)) rfl (nn a)))) (aa 1 [(((((a:Int)+1)).toNat:Nat):Int),(a:Int)] [(.a qb (.k 1),qa,1)] (.a qb (.k 1)) qa rfl (Int.self_le_toNat (((a:Int)+1))))
theorem c40{a b c d:Int}(x0:((a+b)+c)=(d+(e:Int))):((a+b)+(c+1))=(d+(1*((e:Int)+1))):=c0 (aa 1 [a,b,c,d,(e:Int)] [(.a (.a qa qb) qc,.a qd qe,1)] (.a (.a qa qb) (.a qc (.k 1))) (.a qd (.m 1 (.a qe (.k 1)))) rfl (i3 x0)) (aa 1 [a,b,c,d,(e:Int)] [(.a qd qe,.a (.a qa qb) qc,1)] (.a qd (.m 1 (.a qe (.k 1)))) (.a (.a qa qb) (.a qc (.k 1))) rfl (i4 x0))
theorem c39(x0:b<=c)(x1:a<=1):(a+b)<=(c+1):=n1 (aa 1 [(b:Int),(c:Int),(a:Int)] [(qa,qb,1),(qc,.k 1,1)] (.a qc qa) (.a qb (.k 1)) rfl (h1 x0) (h1 x1))
theorem c38(x0:c<=900000)(x1:a=4)(x2:b=c):(a+b)<=1000000:=n1 (aa 1 [(c:Int),(a:Int),(b:Int)] [(qa,.k 900000,1),(qb,.k 4,1),(qc,qa,1)] (.a qb qc) (.k 1000000) rfl (h1 x0) (h3 x1) (h3 x2))
theorem c37(x0:b<=1000)(x1:a<b):(a+1)<=1001:=Nat.lt_of_lt_of_le (Nat.lt_of_lt_of_le x1 x0) (by decide)
theorem c36(x0:b<=20)(x1:a=b):(a+a)<=1000000:=n1 (aa 1 [(b:Int),(a:Int)] [(qa,.k 20,2),(qb,qa,2)] (.a qb qb) (.k 1000000) rfl (h1 x0) (h3 x1))
theorem c35{a:Int}(x0:a<(65+26)):¬(((97:Int)<=a)/\(a<123)):=by lia
theorem c34{a:Int}(x0:a<(48+10)):¬(((97:Int)<=a)/\(a<123)):=by lia
theorem c33{a:Int}(x0:a<(48+10)):¬(((65:Int)<=a)/\(a<91)):=by lia
theorem c32(x0:c<=6)(x1:a=4)(x2:b=c):(a+b)<=1000000:=n1 (aa 1 [(c:Int),(a:Int),(b:Int)] [(qa,.k 6,1),(qb,.k 4,1),(qc,qa,1)] (.a qb qc) (.k 1000000) rfl (h1 x0) (h3 x1) (h3 x2))
theorem c31(x0:a=4)(x1:b=c)(x2:c<=3):(a+b)<=1000000:=n1 (aa 1 [(a:Int),(b:Int),(c:Int)] [(qa,.k 4,1),(qb,qc,1),(qc,.k 3,1)] (.a qa qb) (.k 1000000) rfl (h3 x0) (h3 x1) (h1 x2))
theorem c30(x0:b<=20)(x1:a=b):a<64:=Nat.lt_of_le_of_lt (Nat.le_trans (Nat.le_of_eq x1) x0) (by decide)
theorem c29{a b c:Int}(x0:c<=b)(x1:a<c):a<b:=Int.lt_of_lt_of_le x1 x0
theorem c28(x0:b=3)(x1:c<b)(x2:a=c):a<=1000000:=Nat.le_of_lt (Nat.lt_of_lt_of_le (Nat.lt_of_lt_of_le (Nat.lt_of_le_of_lt (Nat.le_of_eq x2) x1) (Nat.le_of_eq x0)) (by decide))
theorem c27{a b c:Int}(x0:c<=b)(x1:a<c):a<(b+1):=i2 (aa 1 [c,b,a] [(qa,qb,1),(.a qc (.k 1),qa,1)] (.a qc (.k 1)) (.a qb (.k 1)) rfl x0 x1)
theorem c26(x0:(c:Int)=(b:Int))(x1:a<c):a<b:=n2 (aa 1 [(c:Int),(b:Int),(a:Int)] [(qa,qb,1),(.a qc (.k 1),qa,1)] (.a qc (.k 1)) qb rfl (i3 x0) (h2 x1))
theorem c25(x0:b<=1)(x1:c<=1)(x2:a=(b+c)):a<=1000000:=n1 (aa 1 [(b:Int),(c:Int),(a:Int)] [(qa,.k 1,1),(qb,.k 1,1),(qc,.a qa qb,1)] qc (.k 1000000) rfl (h1 x0) (h1 x1) (h3 x2))
theorem c24(x0:b<=60)(x1:(c+a)=b):a<=60:=n1 (aa 1 [(b:Int),(c:Int),(a:Int)] [(qa,.k 60,1),(.a qb qc,qa,1),(.k 0,qb,1)] qc (.k 60) rfl (h1 x0) (h3 x1) (nn c))
theorem c23{a:Int}(x0:¬((65:Int)<=a)):¬(((97:Int)<=a)/\(a<123)):=by lia
theorem c22{a:Int}(x0:¬((48:Int)<=a)):¬(((97:Int)<=a)/\(a<123)):=by lia
theorem c21{a:Int}(x0:¬((48:Int)<=a)):¬(((65:Int)<=a)/\(a<91)):=fun h=>x0 (Int.le_trans (by decide) h.1)
theorem c20(x0:b<=60)(x1:a=c)(x2:c<=b):((a:Int)+1)<=61:=aa 1 [(b:Int),(a:Int),(c:Int)] [(qa,.k 60,1),(qb,qc,1),(qc,qa,1)] (.a qb (.k 1)) (.k 61) rfl (h1 x0) (h3 x1) (h1 x2)
theorem c19(x0:b<=5)(x1:a=c)(x2:c<=(b+1)):a<=1000000:=n1 (aa 1 [(b:Int),(a:Int),(c:Int)] [(qa,.k 5,1),(qb,qc,1),(qc,.a qa (.k 1),1)] qb (.k 1000000) rfl (h1 x0) (h3 x1) (h1 x2))
theorem c18{a b c:Int}(x0:a<c)(x1:c<a):a<b:=absurd (Int.lt_trans x0 x1) (Int.lt_irrefl a)
theorem c17{a b d e:Int}(x0:((e+a)+b)=(d+(c:Int))):(a+b)=((c:Int)+(d-e)):=c0 (aa 1 [e,a,b,d,(c:Int)] [(.a (.a qa qb) qc,.a qd qe,1)] (.a qb qc) (.a qe (.s qd qa)) rfl (i3 x0)) (aa 1 [e,a,b,d,(c:Int)] [(.a qd qe,.a (.a qa qb) qc,1)] (.a qe (.s qd qa)) (.a qb qc) rfl (i4 x0))
theorem c16{a:Int}(x0:(0:Int)<=a)(x1:a<3):(a=0)\/((a=1)\/(a=2)):=by lia
theorem c15(x0:b<=1000)(x1:(a+c)=b):a<=1000:=n1 (aa 1 [(b:Int),(a:Int),(c:Int)] [(qa,.k 1000,1),(.a qb qc,qa,1),(.k 0,qc,1)] qb (.k 1000) rfl (h1 x0) (h3 x1) (nn c))
theorem c14{a:Int}(x0:¬((97:Int)<=a)):¬(((97:Int)<=a)/\(a<123)):=fun h=>x0 h.1
theorem c13{a:Int}(x0:¬((65:Int)<=a)):¬(((65:Int)<=a)/\(a<91)):=by lia
theorem c12{a:Int}(x0:¬((48:Int)<=a)):¬(((48:Int)<=a)/\(a<58)):=by lia
theorem c11{a:Int}(x0:(0:Int)<a):(0:Int)<=(a-1):=aa 1 [a] [(.a (.k 0) (.k 1),qa,1)] (.k 0) (.s qa (.k 1)) rfl x0
theorem c10(x0:b<=1000)(x1:a=(4+b)):a<=1000000:=n1 (aa 1 [(b:Int),(a:Int)] [(qa,.k 1000,1),(qb,.a (.k 4) qa,1)] qb (.k 1000000) rfl (h1 x0) (h3 x1))
theorem c09(x0:b<=63)(x1:c<=b)(x2:c=a):a<=1000:=Nat.le_trans (Nat.le_trans (Nat.le_trans (Nat.le_of_eq x2.symm) x1) x0) (by decide)
theorem c08{a:Int}(x0:a<(2^60)):a<(2^63):=i2 (aa 1 [a] [(.a qa (.k 1),.k 1152921504606846976,1)] (.a qa (.k 1)) (.k 9223372036854775808) rfl x0)
theorem c07(x0:¬((a:Int)<(b:Int))):¬(a<b):=n6 (aa 1 [(a:Int),(b:Int)] [(qb,qa,1)] qb qa rfl (i6 x0))
theorem z372(x0:¬((((63:Nat):Int):Int)<(a:Int))):a<=63:=by lia
theorem c06(x0:a<(b+1))(x1:¬(a<b)):a=b:=n3 (aa 1 [(a:Int),(b:Int)] [(.a qa (.k 1),.a qb (.k 1),1)] qa qb rfl (h2 x0)) (aa 1 [(a:Int),(b:Int)] [(qb,qa,1)] qb qa rfl (h6 x1))
theorem c05{a:Int}(x0:¬(a<(97+26))):¬(a<(48+10)):=eo (aa 1 [a] [(.a (.k 97) (.k 26),qa,1)] (.a (.k 48) (.k 10)) qa rfl (i6 x0))
theorem c04{a:Int}(x0:¬(a<(65+26))):¬(a<(48+10)):=eo (aa 1 [a] [(.a (.k 65) (.k 26),qa,1)] (.a (.k 48) (.k 10)) qa rfl (i6 x0))
theorem b48(x0:(a:Int)<(b:Int)):a<b:=n2 (aa 1 [(a:Int),(b:Int)] [(.a qa (.k 1),qb,1)] (.a qa (.k 1)) qb rfl x0)
theorem c03(x0:a=3):a<(2^60):=n2 (aa 1 [(a:Int)] [(qa,.k 3,1)] (.a qa (.k 1)) (.k 1152921504606846976) rfl (h3 x0))
theorem c02(x0:b<=1000)(x1:a<=(12*b)):a<=(2^20):=n1 (aa 1 [(b:Int),(a:Int)] [(qa,.k 1000,12),(qb,.m 12 qa,1)] qb (.k 1048576) rfl (h1 x0) (h1 x1))
theorem c01{a:Int}(x0:¬((0:Int)<=(a-4352))):¬((0:Int)<=(a-44032)):=eS (aa 1 [a] [(.a (.s qa (.k 4352)) (.k 1),.k 0,1)] (.a (.s qa (.k 44032)) (.k 1)) (.k 0) rfl (i5 x0))
theorem c00(x0:b<=60)(x1:a<b):((a:Int)+1)<=61:=aa 1 [(b:Int),(a:Int)] [(qa,.k 60,1),(.a qb (.k 1),qa,1)] (.a qb (.k 1)) (.k 61) rfl (h1 x0) (h2 x1)
theorem cz9{a:Int}(x0:¬(a<(97+26))):¬(a<(65+26)):=eo (aa 1 [a] [(.a (.k 97) (.k 26),qa,1)] (.a (.k 65) (.k 26)) qa rfl (i6 x0))
theorem cz8{a b c:Int}(x0:a<=c)(x1:c<b):a<=b:=Int.le_of_lt (Int.lt_of_le_of_lt x0 x1)
theorem cz7(x0:a<1000):a<1000000:=Nat.lt_of_lt_of_le x0 (by decide)
theorem cz6{a:Int}(x0:a<7):a<(2^62):=i2 (aa 1 [a] [(.a qa (.k 1),.k 7,1)] (.a qa (.k 1)) (.k 4611686018427387904) rfl x0)
theorem cz5{a:Int}(x0:a<14):a<(2^63):=i2 (aa 1 [a] [(.a qa (.k 1),.k 14,1)] (.a qa (.k 1)) (.k 9223372036854775808) rfl x0)
theorem cz4{a:Int}(x0:a<11):a<(2^63):=i2 (aa 1 [a] [(.a qa (.k 1),.k 11,1)] (.a qa (.k 1)) (.k 9223372036854775808) rfl x0)
theorem cz3{a:Int}(x0:a<6):a<(2^63):=i2 (aa 1 [a] [(.a qa (.k 1),.k 6,1)] (.a qa (.k 1)) (.k 9223372036854775808) rfl x0)
theorem b47:((a+1)+b)=(a+(b+1)):=n3 (aa 1 [(a:Int),(b:Int)] [] (.a (.a qa (.k 1)) qb) (.a qa (.a qb (.k 1))) rfl) (aa 1 [(a:Int),(b:Int)] [] (.a qa (.a qb (.k 1))) (.a (.a qa (.k 1)) qb) rfl)
theorem cz2(x0:b<=60)(x1:c<=b)(x2:a=c):a<=1000000:=Nat.le_trans (Nat.le_trans (Nat.le_trans (Nat.le_of_eq x2) x1) x0) (by decide)
theorem cz1(x0:a<=1000):(a:Int)<(2^62):=i2 (aa 1 [(a:Int)] [(qa,.k 1000,1)] (.a qa (.k 1)) (.k 4611686018427387904) rfl (h1 x0))
theorem cz0{a b:Int}(x0:¬(b<a))(x1:¬(b=a)):(a+1)<=b:=by lia
theorem cy9(x0:b<=5)(x1:a=b):(1+a)<=1000000:=n1 (aa 1 [(b:Int),(a:Int)] [(qa,.k 5,1),(qb,qa,1)] (.a (.k 1) qb) (.k 1000000) rfl (h1 x0) (h3 x1))
theorem cy8(x0:a<=(b+1))(x1:¬(a=(b+1))):a<(b+1):=by lia
theorem cy7{a:Int}(x0:((0:Int)<=a)/\(a<44032)):¬((1114111:Int)<a):=eo (aa 1 [a] [(.a qa (.k 1),.k 44032,1)] qa (.k 1114111) rfl x0.2)
theorem cy6{a:Int}(x0:¬(a<(97+26))):(48:Int)<=a:=aa 1 [a] [(.a (.k 97) (.k 26),qa,1)] (.k 48) qa rfl (i6 x0)
theorem cy5{a:Int}(x0:¬(a<(65+26))):(48:Int)<=a:=aa 1 [a] [(.a (.k 65) (.k 26),qa,1)] (.k 48) qa rfl (i6 x0)
theorem cy4{a b:Int}(x0:¬(a<b))(x1:¬(a=b)):¬(a<=b):=by lia
theorem cy3{a:Int}(x0:(0:Int)<=a):(max a 0)=a:=c0 (aa 1 [a,(max a 0)] [(qb,qa,1)] qb qa rfl (Int.max_le.mpr ⟨Int.le_refl _,(aa 1 [a,(max a 0)] [(.k 0,qa,1)] (.k 0) qa rfl x0)⟩)) (aa 1 [a,(max a 0)] [(qa,qb,1)] qa qb rfl (Int.le_max_left a 0))
theorem cy2(x0:a<=20):(a+a)<=1000:=n1 (aa 1 [(a:Int)] [(qa,.k 20,2)] (.a qa qa) (.k 1000) rfl (h1 x0))
theorem cy1(x0:¬((0:Int)<(a:Int))):¬((0:Nat)<a):=n6 (aa 1 [(a:Int)] [(qa,.k 0,1)] qa (.k 0) rfl (i6 x0))
theorem cy0{a b c:Int}(x0:a<=c)(x1:(c+1)<=b):a<=b:=Int.le_of_lt (Int.lt_of_le_of_lt x0 x1)
theorem cx9(x0:((0:Int)<=(a:Int))/\((a:Int)<=1000)):a<=1000000:=n1 (aa 1 [(a:Int)] [(qa,.k 1000,1)] qa (.k 1000000) rfl x0.2)
theorem cx8(x0:(0:Int)<(a:Int)):(0:Nat)<a:=n2 (aa 1 [(a:Int)] [(.a (.k 0) (.k 1),qa,1)] (.a (.k 0) (.k 1)) qa rfl x0)
theorem cx7(x0:a<=b):(a+1)<=(b+1):=n1 (aa 1 [(a:Int),(b:Int)] [(qa,qb,1)] (.a qa (.k 1)) (.a qb (.k 1)) rfl (h1 x0))
theorem cx6(x0:a=(b-1)):(a:Int)=(((((b-1)+1):Nat):Int)-1):=c0 (aa 1 [(a:Int),((b-1:Nat):Int),(b:Int)] [(qa,qb,1)] qa (.s (.a qb (.k 1)) (.k 1)) rfl (h3 x0)) (aa 1 [(a:Int),((b-1:Nat):Int),(b:Int)] [(qb,qa,1)] (.s (.a qb (.k 1)) (.k 1)) qa rfl (h4 x0))
theorem cx5(x0:b<=1000)(x1:a<b):a<=1000:=Nat.le_of_lt (Nat.lt_of_lt_of_le x1 x0)
theorem b46:((-(2^63)):Int)<=(0+(a:Int)):=by lia
theorem b45{a b:Int}(x0:¬(a<b)):(0:Int)<=(a-b):=aa 1 [a,b] [(qb,qa,1)] (.k 0) (.s qa qb) rfl (i6 x0)
theorem cx4{a:Int}(x0:(1:Int)<=a):(0:Int)<=(a-1):=aa 1 [a] [(.k 1,qa,1)] (.k 0) (.s qa (.k 1)) rfl x0
theorem cx3{a:Int}(x0:a<(97+26)):a<123:=i2 (aa 1 [a] [(.a qa (.k 1),.a (.k 97) (.k 26),1)] (.a qa (.k 1)) (.k 123) rfl x0)
theorem cx2{a:Int}(x0:a<(65+26)):a<91:=i2 (aa 1 [a] [(.a qa (.k 1),.a (.k 65) (.k 26),1)] (.a qa (.k 1)) (.k 91) rfl x0)
theorem cx1{a:Int}(x0:a<(48+10)):a<58:=i2 (aa 1 [a] [(.a qa (.k 1),.a (.k 48) (.k 10),1)] (.a qa (.k 1)) (.k 58) rfl x0)
theorem cx0(x0:a<=b)(x1:¬(a=b)):a<b:=by lia
theorem cw9{a b:Int}(x0:b<=a)(x1:¬(b<a)):a=b:=Int.le_antisymm (Int.le_of_not_gt x1) x0
theorem cw8(x0:(b+1)<=60)(x1:a<=b):a<=60:=Nat.le_of_lt (Nat.lt_of_le_of_lt x1 x0)
theorem b44(x0:a<=b)(x1:¬(a<b)):a=b:=Nat.le_antisymm x0 (Nat.le_of_not_lt x1)
theorem cw7{a b c:Int}(x0:c<=b)(x1:a<c):¬(a=b):=i7 (aa 1 [c,b,a] [(qa,qb,1),(.a qc (.k 1),qa,1)] (.a qc (.k 1)) qb rfl x0 x1)
theorem cw6{a:Int}(x0:((0:Int)<=a)/\(a<44032)):(0:Int)<=a:=aa 1 [a] [(.k 0,qa,1)] (.k 0) qa rfl x0.1
theorem cw5{a:Int}(x0:¬(a<128)):(128:Int)<=a:=Int.le_of_not_gt x0
theorem cw4(x0:b=1)(x1:a<b):a=0:=n3 (aa 1 [(b:Int),(a:Int)] [(qa,.k 1,1),(.a qb (.k 1),qa,1)] qb (.k 0) rfl (h3 x0) (h2 x1)) (aa 1 [(b:Int),(a:Int)] [(.k 0,qb,1)] (.k 0) qb rfl (nn a))
theorem cw3{a:Int}(x0:¬((127:Int)<a)):a<=127:=Int.le_of_not_gt x0
theorem cw2{a b c:Int}(x0:(c+1)<=b)(x1:a<=c):a<=b:=Int.le_of_lt (Int.lt_of_le_of_lt x1 x0)
theorem cw1:(0:Int)<=((((a+b)/2):Nat):Int):=aa 1 [(((a+b)/2:Nat):Int),(a:Int),(b:Int)] [(.k 0,qa,1)] (.k 0) qa rfl (nn ((a+b)/2))
theorem cw0(x0:b<=63)(x1:a<=b):a<=1000000:=Nat.le_trans (Nat.le_trans x1 x0) (by decide)
theorem b43{a:Int}:((36*a)+36)=(36*(a+1)):=c0 (aa 1 [a] [] (.a (.m 36 qa) (.k 36)) (.m 36 (.a qa (.k 1))) rfl) (aa 1 [a] [] (.m 36 (.a qa (.k 1))) (.a (.m 36 qa) (.k 36)) rfl)
theorem cv9(x0:b<=63)(x1:a<=b):a<=63:=Nat.le_trans x1 x0
theorem cv8{a b:Int}(x0:a=b):a<(b+1):=i2 (aa 1 [a,b] [(qa,qb,1)] (.a qa (.k 1)) (.a qb (.k 1)) rfl (i3 x0))
theorem cv7(x0:a=8):(a+(((0+1)+1)+1))<=1000000:=n1 (aa 1 [(a:Int)] [(qa,.k 8,1)] (.a qa (.a (.a (.a (.k 0) (.k 1)) (.k 1)) (.k 1))) (.k 1000000) rfl (h3 x0))
theorem cv6{a:Int}(x0:a<=1114111):(min a 1114111)=a:=c0 (aa 1 [a,(min a 1114111)] [(qb,qa,1)] qb qa rfl (Int.min_le_left a 1114111)) (aa 1 [a,(min a 1114111)] [(qa,qb,1)] qa qb rfl (Int.le_min.mpr ⟨Int.le_refl _,(aa 1 [a,(min a 1114111)] [(qa,.k 1114111,1)] qa (.k 1114111) rfl x0)⟩))
theorem b42:(2:Int)<(2^63):=i2 (aa 1 [] [] (.a (.k 2) (.k 1)) (.k 9223372036854775808) rfl)
theorem cv5(x0:b<=20)(x1:a=b):a<=1000000:=Nat.le_trans (Nat.le_trans (Nat.le_of_eq x1) x0) (by decide)
theorem cv4(x0:a<=b)(x1:¬(a=b)):(a+1)<=b:=by lia
theorem cv3(x0:b<=40)(x1:a=b):a<=1000000:=Nat.le_trans (Nat.le_trans (Nat.le_of_eq x1) x0) (by decide)
theorem cv2(x0:b<=40)(x1:a=b):a<=999999:=Nat.le_trans (Nat.le_trans (Nat.le_of_eq x1) x0) (by decide)
theorem cv1(x0:b<=100000)(x1:a=b):a<=1000000:=Nat.le_trans (Nat.le_trans (Nat.le_of_eq x1) x0) (by decide)
theorem cv0(x0:b<=10)(x1:a=b):a<=1000000:=Nat.le_trans (Nat.le_trans (Nat.le_of_eq x1) x0) (by decide)
theorem cu9(x0:b<=100)(x1:a=b):a<=999999:=Nat.le_trans (Nat.le_trans (Nat.le_of_eq x1) x0) (by decide)
theorem bm2(x0:¬(b<=a)):a<=b:=Nat.le_of_lt (Nat.lt_of_not_ge x0)
theorem cu8(x0:a<=(b+1))(x1:¬(a=(b+1))):a<=b:=by lia
theorem cu7(x0:b<=60)(x1:a<=b):a<=1000000:=Nat.le_trans (Nat.le_trans x1 x0) (by decide)
theorem cu6{a:Int}(x0:(a=0)\/(a=230)):¬((230:Int)<a):=by lia
theorem cu5(x0:¬((a:Int)<=0)):¬(a=0):=n8 (aa 1 [(a:Int)] [(.a (.k 0) (.k 1),qa,1)] (.a (.k 0) (.k 1)) qa rfl (i5 x0))
theorem cu4(x0:b<=50)(x1:a<=b):a<=100:=Nat.le_trans (Nat.le_trans x1 x0) (by decide)
theorem cu3(x0:b<=a):¬((a:Int)<(b:Int)):=eo (aa 1 [(b:Int),(a:Int)] [(qa,qb,1)] qa qb rfl (h1 x0))
theorem cu2(x0:b<=50)(x1:a<=b):a<=1000:=Nat.le_trans (Nat.le_trans x1 x0) (by decide)
theorem cu1{a:Int}(x0:(0:Int)<=a)(x1:¬(a=0)):(0:Int)<a:=by lia
theorem cu0(x0:(0:Int)<(a:Int)):(0:Int)<=((a:Int)-1):=aa 1 [(a:Int)] [(.a (.k 0) (.k 1),qa,1)] (.k 0) (.s qa (.k 1)) rfl x0
theorem b41(x0:a<=b)(x1:b<=60):a<=64:=Nat.le_trans (Nat.le_trans x0 x1) (by decide)
theorem b40(x0:b=a):a<=b:=Nat.le_of_eq x0.symm
theorem ct9{a:Int}(x0:a<=26):(0:Int)<=(36-a):=aa 1 [a] [(qa,.k 26,1)] (.k 0) (.s (.k 36) qa) rfl x0
theorem ct8(x0:c=a)(x1:d=b)(x2:¬((c:Int)=(d:Int))):a≠b:=by lia
theorem ct7{a:Int}(x0:a<128):a<=127:=aa 1 [a] [(.a qa (.k 1),.k 128,1)] qa (.k 127) rfl x0
theorem ct6(x0:a<=b):(a:Int)<=(b:Int):=aa 1 [(a:Int),(b:Int)] [(qa,qb,1)] qa qb rfl (h1 x0)
theorem ct5(x0:b<=a):((a+1)=b)->(((c:Int)+1)=0):=by lia
theorem ct4(x0:a=b):a<=b:=Nat.le_of_eq x0
theorem ct3{a:Int}(x0:a<36):¬((36:Int)<=a):=Int.not_le_of_gt x0
theorem ct2{a b:Int}(x0:b<a):¬(a<=b):=Int.not_le_of_gt x0
theorem b39:(0:Nat)<(a+1):=n2 (aa 1 [(a:Int)] [(.k 0,qa,1)] (.a (.k 0) (.k 1)) (.a qa (.k 1)) rfl (nn a))
theorem ct1:a<=(((a+1)+b)-1):=n1 (aa 1 [(a:Int),((((a+1)+b)-1:Nat):Int),(b:Int)] [(.k 0,qc,1),(.a (.a qa (.k 1)) qc,.a qb (.k 1),1)] qa qb rfl (nn b) (h1 (sb ((a+1)+b) (1))))
theorem ct0{a b:Int}:(a<=b)↔(a<(b+1)):=⟨fun y0=>i2 (aa 1 [a,b] [(qa,qb,1)] (.a qa (.k 1)) (.a qb (.k 1)) rfl y0),fun y0=>(aa 1 [a,b] [(.a qa (.k 1),.a qb (.k 1),1)] qa qb rfl y0)⟩
theorem cs9(x0:c=a)(x1:d=b)(x2:(c:Int)=(d:Int)):a=b:=n3 (aa 1 [(c:Int),(a:Int),(d:Int),(b:Int)] [(qb,qa,1),(qc,qd,1),(qa,qc,1)] qb qd rfl (h4 x0) (h3 x1) (i3 x2)) (aa 1 [(c:Int),(a:Int),(d:Int),(b:Int)] [(qa,qb,1),(qd,qc,1),(qc,qa,1)] qd qb rfl (h3 x0) (h4 x1) (i4 x2))
theorem b38{a:Int}(x0:a<769):¬(a=769):=i7 (aa 1 [a] [(.a qa (.k 1),.k 769,1)] (.a qa (.k 1)) (.k 769) rfl x0)
theorem cs8{a:Int}(x0:a<233):¬(a=233):=i7 (aa 1 [a] [(.a qa (.k 1),.k 233,1)] (.a qa (.k 1)) (.k 233) rfl x0)
theorem cs7(x0:a=3):a<=1000000:=Nat.le_trans (Nat.le_of_eq x0) (by decide)
theorem cs6(x0:a<=900):a<=1000000:=Nat.le_trans x0 (by decide)
theorem cs5(x0:a<=900000):a<=1000000:=Nat.le_trans x0 (by decide)
theorem b37(x0:a<=500):a<=900:=Nat.le_trans x0 (by decide)
theorem cs4(x0:a<=500):a<=900000:=Nat.le_trans x0 (by decide)
theorem cs3(x0:a<=500):a<=996:=Nat.le_trans x0 (by decide)
theorem cs2(x0:a=0):((a:Int)-1)=(-1):=c0 (aa 1 [(a:Int)] [(qa,.k 0,1)] (.s qa (.k 1)) (.k (-1)) rfl (h3 x0)) (aa 1 [(a:Int)] [(.k 0,qa,1)] (.k (-1)) (.s qa (.k 1)) rfl (h4 x0))
theorem cs1(x0:(0:Nat)<b)(x1:b<=0):a=b:=by lia
theorem cs0(x0:a<=50):a<=1000000:=Nat.le_trans x0 (by decide)
theorem cr9(x0:a<=3):a<=1000000:=Nat.le_trans x0 (by decide)
theorem cr8(x0:a<=3):a<=4:=Nat.le_trans x0 (by decide)
theorem cr7(x0:a<=4):a<=1000000:=Nat.le_trans x0 (by decide)
theorem cr6(x0:a<=4):a<=5:=Nat.le_trans x0 (by decide)
theorem cr5(x0:a<=5):a<=1000000:=Nat.le_trans x0 (by decide)
theorem cr4(x0:(0:Nat)<a):¬(a=0):=n8 (aa 1 [(a:Int)] [(.a (.k 0) (.k 1),qa,1)] (.a (.k 0) (.k 1)) qa rfl (h2 x0))
theorem cr3(x0:a<=30):a<=60:=Nat.le_trans x0 (by decide)
theorem cr2(x0:a<=60):a<=100000:=Nat.le_trans x0 (by decide)
theorem cr1(x0:a<=6):a<=10:=Nat.le_trans x0 (by decide)
theorem cr0(x0:a<=3):a<=1000:=Nat.le_trans x0 (by decide)
theorem cq9(x0:a<=3):a<=900:=Nat.le_trans x0 (by decide)
theorem b36(x0:a<=6):a<=30:=Nat.le_trans x0 (by decide)
theorem cq8(x0:a<=6):a<=1000:=Nat.le_trans x0 (by decide)
theorem cq7(x0:a<=10):a<=100:=Nat.le_trans x0 (by decide)
theorem cq6(x0:a<=6):a<=100:=Nat.le_trans x0 (by decide)
theorem b35(x0:a<=60):a<=64:=Nat.le_trans x0 (by decide)
theorem cq5(x0:(a:Int)<=0):a=0:=n3 (aa 1 [(a:Int)] [(qa,.k 0,1)] qa (.k 0) rfl x0) (aa 1 [(a:Int)] [(.k 0,qa,1)] (.k 0) qa rfl (nn a))
theorem cq4(x0:a<=1000):a<=1001:=Nat.le_trans x0 (by decide)
theorem b34:(0:Int)<=2:=aa 1 [] [] (.k 0) (.k 2) rfl
theorem cq3(x0:(0:Int)<((0:Nat):Int)):a=b:=by lia
theorem cq2{a:Int}(x0:(0:Int)<=a):¬(a<0):=eo (aa 1 [a] [(.k 0,qa,1)] (.k 0) qa rfl x0)
theorem cq1:(((a:Int)+(b:Int))/2)=((((a+b)/2):Nat):Int):=c0 (aa 2 [(((a:Int)+(b:Int))/2),(a:Int),(b:Int),(((a+b)/2:Nat):Int)] [(.m 2 qa,.a qb qc,1),(.a qb qc,.a (.m 2 qd) (.k 1),1)] qa qd rfl (di ((a:Int)+(b:Int)) 2 (by decide)) (h1 (dv (a+b) 2 1 rfl))) (aa 2 [(((a:Int)+(b:Int))/2),(a:Int),(b:Int),(((a+b)/2:Nat):Int)] [(.a qb qc,.a (.m 2 qa) (.k 1),1),(.m 2 qd,.a qb qc,1)] qd qa rfl (dj ((a:Int)+(b:Int)) 2 1 (by decide) rfl) (h1 (Nat.mul_div_le (a+b) 2)))
theorem b33:(0:Int)<=0:=aa 1 [] [] (.k 0) (.k 0) rfl
theorem cq0{a:Int}:((a+((b:Int)+1))+0)=(a+((b:Int)+1)):=c0 (aa 1 [a,(b:Int)] [] (.a (.a qa (.a qb (.k 1))) (.k 0)) (.a qa (.a qb (.k 1))) rfl) (aa 1 [a,(b:Int)] [] (.a qa (.a qb (.k 1))) (.a (.a qa (.a qb (.k 1))) (.k 0)) rfl)
theorem cp9{a:Int}:(0+(a*1))=a:=by lia
theorem cp8:(a+b)<=((a+1)+b):=n1 (aa 1 [(a:Int),(b:Int)] [] (.a qa qb) (.a (.a qa (.k 1)) qb) rfl)
theorem cp7:(((128*((a:Int)+1))+0)+0)=(128*((a:Int)+1)):=c0 (aa 1 [(a:Int)] [] (.a (.a (.m 128 (.a qa (.k 1))) (.k 0)) (.k 0)) (.m 128 (.a qa (.k 1))) rfl) (aa 1 [(a:Int)] [] (.m 128 (.a qa (.k 1))) (.a (.a (.m 128 (.a qa (.k 1))) (.k 0)) (.k 0)) rfl)
theorem cp6:((1:Int)<=1)/\((1:Int)<=26):=⟨(aa 1 [] [] (.k 1) (.k 1) rfl),(aa 1 [] [] (.k 1) (.k 26) rfl)⟩
theorem b32:¬((a:Int)<0):=eo (aa 1 [(a:Int)] [(.k 0,qa,1)] (.k 0) qa rfl (nn a))
theorem cp5{a b:Int}:(a+(0+(b-a)))=b:=c0 (aa 1 [a,b] [] (.a qa (.a (.k 0) (.s qb qa))) qb rfl) (aa 1 [a,b] [] qb (.a qa (.a (.k 0) (.s qb qa))) rfl)
theorem cp4{a:Int}:((((48+a)-26)-48)+26)=a:=c0 (aa 1 [a] [] (.a (.s (.s (.a (.k 48) qa) (.k 26)) (.k 48)) (.k 26)) qa rfl) (aa 1 [a] [] qa (.a (.s (.s (.a (.k 48) qa) (.k 26)) (.k 48)) (.k 26)) rfl)
theorem cp3(x0:a=1):¬(a=0):=n8 (aa 1 [(a:Int)] [(.k 1,qa,1)] (.a (.k 0) (.k 1)) qa rfl (h4 x0))
theorem cp2:(a-b)<=(a-b):=Nat.le_refl _
theorem cp1:(3:Int)<(2^63):=i2 (aa 1 [] [] (.a (.k 3) (.k 1)) (.k 9223372036854775808) rfl)
theorem cp0{a b:Int}:(a+(b-a))=b:=c0 (aa 1 [a,b] [] (.a qa (.s qb qa)) qb rfl) (aa 1 [a,b] [] qb (.a qa (.s qb qa)) rfl)
theorem co9:(0:Int)<(2^62):=i2 (aa 1 [] [] (.a (.k 0) (.k 1)) (.k 4611686018427387904) rfl)
theorem co8:(0:Int)<(2^63):=i2 (aa 1 [] [] (.a (.k 0) (.k 1)) (.k 9223372036854775808) rfl)
theorem co7{a b:Int}(x0:a<a):a<b:=by lia
theorem co6{a:Int}:(a*2)=(2*a):=by lia
theorem co5{a:Int}:a<(a+1):=i2 (aa 1 [a] [] (.a qa (.k 1)) (.a qa (.k 1)) rfl)
theorem co4:(1:Int)<(2^63):=i2 (aa 1 [] [] (.a (.k 1) (.k 1)) (.k 9223372036854775808) rfl)
theorem co3{a:Int}:((97+a)-97)=a:=c0 (aa 1 [a] [] (.s (.a (.k 97) qa) (.k 97)) qa rfl) (aa 1 [a] [] qa (.s (.a (.k 97) qa) (.k 97)) rfl)
theorem b31:a<=((a+1)+1):=n1 (aa 1 [(a:Int)] [] qa (.a (.a qa (.k 1)) (.k 1)) rfl)
theorem co2{a:Int}:¬((a+1)<=a):=eS (aa 1 [a] [] (.a qa (.k 1)) (.a qa (.k 1)) rfl)
theorem co1:((0+1):Nat)<=(16777216+1):=n1 (aa 1 [] [] (.a (.k 0) (.k 1)) (.a (.k 16777216) (.k 1)) rfl)
theorem co0:(0:Int)<=44032:=aa 1 [] [] (.k 0) (.k 44032) rfl
theorem cn9:(0:Int)<=3:=aa 1 [] [] (.k 0) (.k 3) rfl
theorem cn8:(0:Int)<=1:=aa 1 [] [] (.k 0) (.k 1) rfl
theorem cn7(x0:b<=c)(x1:(a+c)<900):(a+b)<900:=n2 (aa 1 [(b:Int),(c:Int),(a:Int)] [(qa,qb,1),(.a (.a qc qb) (.k 1),.k 900,1)] (.a (.a qc qa) (.k 1)) (.k 900) rfl (h1 x0) (h2 x1))
theorem cn6(x0:b<=c)(x1:(a+(8*c))<9000):(a+(8*b))<9000:=n2 (aa 1 [(b:Int),(c:Int),(a:Int)] [(qa,qb,8),(.a (.a qc (.m 8 qb)) (.k 1),.k 9000,1)] (.a (.a qc (.m 8 qa)) (.k 1)) (.k 9000) rfl (h1 x0) (h2 x1))
theorem cn5(x0:(a+(b+1))<900):((a+1)+b)<900:=n2 (aa 1 [(a:Int),(b:Int)] [(.a (.a qa (.a qb (.k 1))) (.k 1),.k 900,1)] (.a (.a (.a qa (.k 1)) qb) (.k 1)) (.k 900) rfl (h2 x0))
theorem cn4(x0:(a+(8*(b+1)))<9000):((a+3)+(8*b))<9000:=n2 (aa 1 [(a:Int),(b:Int)] [(.a (.a qa (.m 8 (.a qb (.k 1)))) (.k 1),.k 9000,1)] (.a (.a (.a qa (.k 3)) (.m 8 qb)) (.k 1)) (.k 9000) rfl (h2 x0))
theorem b30(x0:a<(2^60)):(a:Int)<9223372036854775808:=i2 (aa 1 [(a:Int)] [(.a qa (.k 1),.k 1152921504606846976,1)] (.a qa (.k 1)) (.k 9223372036854775808) rfl (h2 x0))
theorem cn3(x0:b<900)(x1:a<=(b+1)):a<=1000:=n1 (aa 1 [(b:Int),(a:Int)] [(.a qa (.k 1),.k 900,1),(qb,.a qa (.k 1),1)] qb (.k 1000) rfl (h2 x0) (h1 x1))
theorem cn2(x0:(c+(b+2))<900)(x1:a=(c+1)):(a+b)<900:=n2 (aa 1 [(c:Int),(b:Int),(a:Int)] [(.a (.a qa (.a qb (.k 2))) (.k 1),.k 900,1),(qc,.a qa (.k 1),1)] (.a (.a qc qb) (.k 1)) (.k 900) rfl (h2 x0) (h3 x1))
theorem cn1(x0:(c+(8*(b+2)))<9000)(x1:a<=(c+8)):(a+(8*b))<9000:=n2 (aa 1 [(c:Int),(b:Int),(a:Int)] [(.a (.a qa (.m 8 (.a qb (.k 2)))) (.k 1),.k 9000,1),(qc,.a qa (.k 8),1)] (.a (.a qc (.m 8 qb)) (.k 1)) (.k 9000) rfl (h2 x0) (h1 x1))
theorem cn0(x0:(a+(8*b))<9000):(a+64)<9900:=n2 (aa 1 [(a:Int),(b:Int)] [(.a (.a qa (.m 8 qb)) (.k 1),.k 9000,1),(.k 0,qb,8)] (.a (.a qa (.k 64)) (.k 1)) (.k 9900) rfl (h2 x0) (nn b))
theorem cm9:(min (a-b) (c-b))<=c:=n1 (aa 1 [((min (a-b) (c-b):Nat):Int),((a-b:Nat):Int),(a:Int),(b:Int),((c-b:Nat):Int),(c:Int)] [(qe,qf,1),(qa,qe,1)] qa qf rfl (h1 (Nat.sub_le (c) (b))) (h1 (Nat.min_le_right (a-b) (c-b))))
theorem b29{a:Int}(x0:(0:Int)<=a):((-(2^62)):Int)<=a:=Int.le_trans (by decide) x0
theorem cm8(x0:(a+(b+1))<900):(a+b)<900:=n2 (aa 1 [(a:Int),(b:Int)] [(.a (.a qa (.a qb (.k 1))) (.k 1),.k 900,1)] (.a (.a qa qb) (.k 1)) (.k 900) rfl (h2 x0))
theorem cm7(x0:(a+(8*(b+1)))<9000):((a+1)+(8*b))<9000:=n2 (aa 1 [(a:Int),(b:Int)] [(.a (.a qa (.m 8 (.a qb (.k 1)))) (.k 1),.k 9000,1)] (.a (.a (.a qa (.k 1)) (.m 8 qb)) (.k 1)) (.k 9000) rfl (h2 x0))
theorem cm6(x0:(a+(8*b))<9000):(a+1)<9900:=n2 (aa 1 [(a:Int),(b:Int)] [(.a (.a qa (.m 8 qb)) (.k 1),.k 9000,1),(.k 0,qb,8)] (.a (.a qa (.k 1)) (.k 1)) (.k 9900) rfl (h2 x0) (nn b))
theorem cm5(x0:a<b)(x1:b<=1000000):(a:Int)<(2^63):=i2 (aa 1 [(a:Int),(b:Int)] [(.a qa (.k 1),qb,1),(qb,.k 1000000,1)] (.a qa (.k 1)) (.k 9223372036854775808) rfl (h2 x0) (h1 x1))
theorem b28(x0:a<=1000000):a<=1099511627776:=Nat.le_trans x0 (by decide)
theorem bm1(x0:a<=1000000):a<=16777216:=Nat.le_trans x0 (by decide)
theorem cm4:((-(2^63)):Int)<=(a:Int):=Int.le_trans (by decide) (Int.natCast_nonneg a)
theorem cm3(x0:a<=1000000):(a:Int)<(2^63):=i2 (aa 1 [(a:Int)] [(qa,.k 1000000,1)] (.a qa (.k 1)) (.k 9223372036854775808) rfl (h1 x0))
theorem cm2(x0:(b-a)<=0)(x1:a<=b):a=b:=n3 (aa 1 [((b-a:Nat):Int),(b:Int),(a:Int)] [(qc,qb,1)] qc qb rfl (h1 x1)) (aa 1 [((b-a:Nat):Int),(b:Int),(a:Int)] [(qa,.k 0,1),(qb,.a qa qc,1)] qb qc rfl (h1 x0) (h1 (sb (b) (a))))
theorem cm1(x0:a<b):a<=((a+b)/2):=n1 (aa 2 [(a:Int),(b:Int),(((a+b)/2:Nat):Int)] [(.a qa (.k 1),qb,1),(.a qa qb,.a (.m 2 qc) (.k 1),1)] qa qc rfl (h2 x0) (h1 (dv (a+b) 2 1 rfl)))
theorem cm0(x0:a<b):((a+b)/2)<b:=n2 (aa 2 [(a:Int),(b:Int),(((a+b)/2:Nat):Int)] [(.a qa (.k 1),qb,1),(.m 2 qc,.a qa qb,1)] (.a qc (.k 1)) qb rfl (h2 x0) (h1 (Nat.mul_div_le (a+b) 2)))
theorem b27(x0:c<=b)(x1:a<c):a<b:=Nat.lt_of_lt_of_le x1 x0
theorem cl9(x0:(a-d)<=(c+1))(x1:d<=b):(a-(b+1))<=c:=(Nat.le_total (d) (a)).elim (fun y0=>(Nat.le_total (b+1) (a)).elim (fun y1=>n1 (aa 1 [((a-d:Nat):Int),(a:Int),(d:Int),(c:Int),(b:Int),((a-(b+1):Nat):Int)] [(qa,.a qd (.k 1),1),(qc,qe,1),(qb,.a qa qc,1),(.a qf (.a qe (.k 1)),qb,1)] qf qd rfl (h1 x0) (h1 x1) (h1 (sb (a) (d))) (h1 (sc (n1 (aa 1 [((a-d:Nat):Int),(a:Int),(d:Int),(c:Int),(b:Int),((a-(b+1):Nat):Int)] [(.a qe (.k 1),qb,1)] (.a qe (.k 1)) qb rfl (h1 y1))))))) (fun y1=>n1 (aa 1 [((a-d:Nat):Int),(a:Int),(d:Int),(c:Int),(b:Int),((a-(b+1):Nat):Int)] [(.k 0,qd,1),(qf,.k 0,1)] qf qd rfl (nn c) (h1 (sz (n1 (aa 1 [((a-d:Nat):Int),(a:Int),(d:Int),(c:Int),(b:Int),((a-(b+1):Nat):Int)] [(qb,.a qe (.k 1),1)] qb (.a qe (.k 1)) rfl (h1 y1)))))))) (fun y0=>n1 (aa 1 [((a-d:Nat):Int),(a:Int),(d:Int),(c:Int),(b:Int),((a-(b+1):Nat):Int)] [(.k 0,qd,1),(qf,.k 0,1)] qf qd rfl (nn c) (h1 (sz (n1 (aa 1 [((a-d:Nat):Int),(a:Int),(d:Int),(c:Int),(b:Int),((a-(b+1):Nat):Int)] [(qc,qe,1),(qb,qc,1)] qb (.a qe (.k 1)) rfl (h1 x1) (h1 y0)))))))
theorem cl8(x0:(d-b)<=(c+1))(x1:a<d):(a-b)<=c:=(Nat.le_total (b) (d)).elim (fun y0=>(Nat.le_total (b) (a)).elim (fun y1=>n1 (aa 1 [((d-b:Nat):Int),(d:Int),(b:Int),(c:Int),(a:Int),((a-b:Nat):Int)] [(qa,.a qd (.k 1),1),(.a qe (.k 1),qb,1),(qb,.a qa qc,1),(.a qf qc,qe,1)] qf qd rfl (h1 x0) (h2 x1) (h1 (sb (d) (b))) (h1 (sc (n1 (aa 1 [((d-b:Nat):Int),(d:Int),(b:Int),(c:Int),(a:Int),((a-b:Nat):Int)] [(qc,qe,1)] qc qe rfl (h1 y1))))))) (fun y1=>n1 (aa 1 [((d-b:Nat):Int),(d:Int),(b:Int),(c:Int),(a:Int),((a-b:Nat):Int)] [(.k 0,qd,1),(qf,.k 0,1)] qf qd rfl (nn c) (h1 (sz (n1 (aa 1 [((d-b:Nat):Int),(d:Int),(b:Int),(c:Int),(a:Int),((a-b:Nat):Int)] [(qe,qc,1)] qe qc rfl (h1 y1)))))))) (fun y0=>n1 (aa 1 [((d-b:Nat):Int),(d:Int),(b:Int),(c:Int),(a:Int),((a-b:Nat):Int)] [(.k 0,qd,1),(qf,.k 0,1)] qf qd rfl (nn c) (h1 (sz (n1 (aa 1 [((d-b:Nat):Int),(d:Int),(b:Int),(c:Int),(a:Int),((a-b:Nat):Int)] [(.a qe (.k 1),qb,1),(qb,qc,1)] qe qc rfl (h2 x1) (h1 y0)))))))
theorem cl7(x0:c<=b)(x1:a<c):a<=b:=Nat.le_of_lt (Nat.lt_of_lt_of_le x1 x0)
theorem cl6(x0:a<c)(x1:c<b):a<b:=Nat.lt_trans x0 x1
theorem cl5:(a-0)<=a:=n1 (aa 1 [((a-0:Nat):Int),(a:Int)] [(qa,qb,1)] qa qb rfl (h1 (Nat.sub_le (a) (0))))
theorem cl4:(0:Nat)<=a:=n1 (aa 1 [(a:Int)] [(.k 0,qa,1)] (.k 0) qa rfl (nn a))
theorem b26(x0:(a+1)<=a):False:=Nat.not_succ_le_self _ x0
theorem cl3(x0:c<=b)(x1:(a+1)<c):(a+1)<b:=Nat.lt_of_lt_of_le x1 x0
theorem cl2(x0:a<(b+1))(x1:b<a):False:=absurd (Nat.le_of_lt_succ x0) (Nat.not_le.mpr x1)
theorem cl1(x0:¬(a<=b))(x1:¬((b+1)<a)):a=(b+1):=n3 (aa 1 [(a:Int),(b:Int)] [(qa,.a qb (.k 1),1)] qa (.a qb (.k 1)) rfl (h6 x1)) (aa 1 [(a:Int),(b:Int)] [(.a qb (.k 1),qa,1)] (.a qb (.k 1)) qa rfl (h5 x0))
theorem b25(x0:a=(b+1)):(0:Nat)<a:=n2 (aa 1 [(a:Int),(b:Int)] [(.a qb (.k 1),qa,1),(.k 0,qb,1)] (.a (.k 0) (.k 1)) qa rfl (h4 x0) (nn b))
theorem cl0(x0:b<0):(a+1)=0:=absurd x0 (Nat.not_lt_zero _)
theorem ck9:a<=(a+b):=n1 (aa 1 [(a:Int),(b:Int)] [(.k 0,qb,1)] qa (.a qa qb) rfl (nn b))
theorem ck8(x0:(a+(c+1))<b):a<b:=n2 (aa 1 [(a:Int),(c:Int),(b:Int)] [(.a (.a qa (.a qb (.k 1))) (.k 1),qc,1),(.k 0,qb,1)] (.a qa (.k 1)) qc rfl (h2 x0) (nn c))
theorem ck7:a<(a+(b+1)):=n2 (aa 1 [(a:Int),(b:Int)] [(.k 0,qb,1)] (.a qa (.k 1)) (.a qa (.a qb (.k 1))) rfl (nn b))
theorem ck6(x0:a=b)(x1:a<=c)(x2:c<b):False:=Nat.lt_irrefl _ (Nat.lt_of_lt_of_le x2 (x0▸x1))
theorem ck5(x0:a=d)(x1:¬((b+c)<d)):a<=(b+c):=Nat.le_trans (Nat.le_of_eq x0) (Nat.le_of_not_lt x1)
theorem b24(x0:(b-a)=0)(x1:a<=b):a=b:=n3 (aa 1 [((b-a:Nat):Int),(b:Int),(a:Int)] [(qc,qb,1)] qc qb rfl (h1 x1)) (aa 1 [((b-a:Nat):Int),(b:Int),(a:Int)] [(qa,.k 0,1),(qb,.a qa qc,1)] qb qc rfl (h3 x0) (h1 (sb (b) (a))))
theorem ck4(x0:(c+1)<b)(x1:d<c)(x2:a<=d):(a+1)<b:=n2 (aa 1 [(c:Int),(b:Int),(d:Int),(a:Int)] [(.a (.a qa (.k 1)) (.k 1),qb,1),(.a qc (.k 1),qa,1),(qd,qc,1)] (.a (.a qd (.k 1)) (.k 1)) qb rfl (h2 x0) (h2 x1) (h1 x2))
theorem b23(x0:(a-b)=(c+1)):(a-(b+1))=c:=(Nat.sub_succ a b).trans (congrArg Nat.pred x0)
theorem ck3:(a-0)=(a-0):=Nat.le_antisymm (Nat.le_refl _) (Nat.le_refl _)
theorem ck2(x0:(1:Nat)<a):(0:Nat)<a:=Nat.lt_of_le_of_lt (by decide) x0
theorem ck1(x0:b=c)(x1:a<c):a<=b:=Nat.le_of_lt (Nat.lt_of_lt_of_le x1 (Nat.le_of_eq x0.symm))
theorem b22(x0:a=(b+1)):(a-1)=b:=n3 (aa 1 [(a:Int),(b:Int),((a-1:Nat):Int)] [(qa,.a qb (.k 1),1),(.a qc (.k 1),qa,1)] qc qb rfl (h3 x0) (h1 (sc (n1 (aa 1 [(a:Int),(b:Int),((a-1:Nat):Int)] [(.a qb (.k 1),qa,1),(.k 0,qb,1)] (.k 1) qa rfl (h4 x0) (nn b)))))) (aa 1 [(a:Int),(b:Int),((a-1:Nat):Int)] [(.a qb (.k 1),qa,1),(qa,.a qc (.k 1),1)] qb qc rfl (h4 x0) (h1 (sb (a) (1))))
theorem b21(x0:a<=1000):a<=16777216:=Nat.le_trans x0 (by decide)
theorem ck0(x0:a=b)(x1:b<=1):a<=1:=Nat.le_trans (Nat.le_of_eq x0) x1
theorem cj9(x0:c<=1000)(x1:a<c):(min a b)<=1000:=Nat.le_trans (Nat.min_le_left a b) (Nat.le_of_lt (Nat.lt_of_lt_of_le x1 x0))
theorem cj8(x0:a<=1000):(a+1)<=(16777216+1):=n1 (aa 1 [(a:Int)] [(qa,.k 1000,1)] (.a qa (.k 1)) (.a (.k 16777216) (.k 1)) rfl (h1 x0))
theorem cj7(x0:a<b):¬((min (a+1) b)=(min a b)):=fun e=>Nat.succ_ne_self a ((Nat.min_eq_left x0).symm.trans (e.trans (Nat.min_eq_left (Nat.le_of_lt x0))))
theorem b20(x0:b<64)(x1:a=b):a<=1000:=Nat.le_of_lt (Nat.lt_of_lt_of_le (Nat.lt_of_le_of_lt (Nat.le_of_eq x1) x0) (by decide))
theorem b19(x0:a<64):a<=16777216:=Nat.le_of_lt (Nat.lt_of_lt_of_le x0 (by decide))
theorem b18(x0:b<64)(x1:a=b):a<64:=Nat.lt_of_le_of_lt (Nat.le_of_eq x1) x0
theorem cj6{a b:Int}(x0:(a<=b)/\(a≠b)):a<b:=Int.lt_iff_le_and_ne.mpr x0
theorem b17(x0:a<64):(a+1)<4096:=n2 (aa 1 [(a:Int)] [(.a qa (.k 1),.k 64,1)] (.a (.a qa (.k 1)) (.k 1)) (.k 4096) rfl (h2 x0))
theorem b16(x0:b<64)(x1:b=a):a<64:=Nat.lt_of_le_of_lt (Nat.le_of_eq x1.symm) x0
theorem cj5(x0:(0:Nat)<a):(1:Int)<=(a:Int):=aa 1 [(a:Int)] [(.a (.k 0) (.k 1),qa,1)] (.k 1) qa rfl (h2 x0)
theorem cj4:(((-1)+(a:Int))).toNat=(a-1):=by lia
theorem cj3:((0+1):Nat)<=64:=n1 (aa 1 [] [] (.a (.k 0) (.k 1)) (.k 64) rfl)
theorem cj2(x0:(a+1)<=b):a<=b:=Nat.le_of_lt x0
theorem b15(x0:(a+1)<=b):a<b:=x0
theorem cj1{a:Int}(x0:a.toNat<=0):¬((455:Int)<a):=eo (aa 1 [(a.toNat:Int),a] [(qa,.k 0,1),(qb,qa,1)] qb (.k 455) rfl (h1 x0) (Int.self_le_toNat (a)))
end
end
mutual
inductive av{α0 α1:Type}(p:α0->α1->Prop):Prop|mk (x0:α0) (x1:α1) (h:p x0 x1):av p
inductive b5{α0 α1 α2:Type}(p:α0->α1->α2->Prop):Prop|mk (x0:α0) (x1:α1) (x2:α2) (h:p x0 x1 x2):b5 p
inductive cP{α0 α1 α2 α3:Type}(p:α0->α1->α2->α3->Prop):Prop|mk (x0:α0) (x1:α1) (x2:α2) (x3:α3) (h:p x0 x1 x2 x3):cP p
inductive dU{α0 α1 α2 α3 α4:Type}(p:α0->α1->α2->α3->α4->Prop):Prop|mk (x0:α0) (x1:α1) (x2:α2) (x3:α3) (x4:α4) (h:p x0 x1 x2 x3 x4):dU p
inductive eE{α0 α1 α2 α3 α4 α5:Type}(p:α0->α1->α2->α3->α4->α5->Prop):Prop|mk (x0:α0) (x1:α1) (x2:α2) (x3:α3) (x4:α4) (x5:α5) (h:p x0 x1 x2 x3 x4 x5):eE p
inductive fb{α0 α1 α2 α3 α4 α5 α6:Type}(p:α0->α1->α2->α3->α4->α5->α6->Prop):Prop|mk (x0:α0) (x1:α1) (x2:α2) (x3:α3) (x4:α4) (x5:α5) (x6:α6) (h:p x0 x1 x2 x3 x4 x5 x6):fb p
inductive Ex8{α0 α1 α2 α3 α4 α5 α6 α7:Type}(p:α0->α1->α2->α3->α4->α5->α6->α7->Prop):Prop|mk (x0:α0) (x1:α1) (x2:α2) (x3:α3) (x4:α4) (x5:α5) (x6:α6) (x7:α7) (h:p x0 x1 x2 x3 x4 x5 x6 x7):Ex8 p
inductive e6{α0 α1 α2 α3 α4 α5 α6 α7 α8:Type}(p:α0->α1->α2->α3->α4->α5->α6->α7->α8->Prop):Prop|mk (x0:α0) (x1:α1) (x2:α2) (x3:α3) (x4:α4) (x5:α5) (x6:α6) (x7:α7) (x8:α8) (h:p x0 x1 x2 x3 x4 x5 x6 x7 x8):e6 p
inductive ay0{α0 α1 α2 α3 α4 α5 α6 α7 α8 α9:Type}(p:α0->α1->α2->α3->α4->α5->α6->α7->α8->α9->Prop):Prop|mk (x0:α0) (x1:α1) (x2:α2) (x3:α3) (x4:α4) (x5:α5) (x6:α6) (x7:α7) (x8:α8) (x9:α9) (h:p x0 x1 x2 x3 x4 x5 x6 x7 x8 x9):ay0 p
inductive bf9{α0 α1 α2 α3 α4 α5 α6 α7 α8 α9 α10:Type}(p:α0->α1->α2->α3->α4->α5->α6->α7->α8->α9->α10->Prop):Prop|mk (x0:α0) (x1:α1) (x2:α2) (x3:α3) (x4:α4) (x5:α5) (x6:α6) (x7:α7) (x8:α8) (x9:α9) (x10:α10) (h:p x0 x1 x2 x3 x4 x5 x6 x7 x8 x9 x10):bf9 p
inductive ax9{α0 α1 α2 α3 α4 α5 α6 α7 α8 α9 α10 α11:Type}(p:α0->α1->α2->α3->α4->α5->α6->α7->α8->α9->α10->α11->Prop):Prop|mk (x0:α0) (x1:α1) (x2:α2) (x3:α3) (x4:α4) (x5:α5) (x6:α6) (x7:α7) (x8:α8) (x9:α9) (x10:α10) (x11:α11) (h:p x0 x1 x2 x3 x4 x5 x6 x7 x8 x9 x10 x11):ax9 p
structure bB(a0 a1 a2:Prop):Prop where mk::(h0:a0) (h1:a1) (h2:a2)
structure bK(a0 a1 a2 a3:Prop):Prop where mk::(h0:a0) (h1:a1) (h2:a2) (h3:a3)
structure eH(a0 a1 a2 a3 a4:Prop):Prop where mk::(h0:a0) (h1:a1) (h2:a2) (h3:a3) (h4:a4)
structure eG(a0 a1 a2 a3 a4 a5:Prop):Prop where mk::(h0:a0) (h1:a1) (h2:a2) (h3:a3) (h4:a4) (h5:a5)
structure eF(a0 a1 a2 a3 a4 a5 a6:Prop):Prop where mk::(h0:a0) (h1:a1) (h2:a2) (h3:a3) (h4:a4) (h5:a5) (h6:a6)
structure An8(a0 a1 a2 a3 a4 a5 a6 a7:Prop):Prop where mk::(h0:a0) (h1:a1) (h2:a2) (h3:a3) (h4:a4) (h5:a5) (h6:a6) (h7:a7)
structure An9(a0 a1 a2 a3 a4 a5 a6 a7 a8:Prop):Prop where mk::(h0:a0) (h1:a1) (h2:a2) (h3:a3) (h4:a4) (h5:a5) (h6:a6) (h7:a7) (h8:a8)
structure du2(a0 a1 a2 a3 a4 a5 a6 a7 a8 a9:Prop):Prop where mk::(h0:a0) (h1:a1) (h2:a2) (h3:a3) (h4:a4) (h5:a5) (h6:a6) (h7:a7) (h8:a8) (h9:a9)
structure cf1(a0 a1 a2 a3 a4 a5 a6 a7 a8 a9 a10:Prop):Prop where mk::(h0:a0) (h1:a1) (h2:a2) (h3:a3) (h4:a4) (h5:a5) (h6:a6) (h7:a7) (h8:a8) (h9:a9) (h10:a10)
structure dn5(a0 a1 a2 a3 a4 a5 a6 a7 a8 a9 a10 a11:Prop):Prop where mk::(h0:a0) (h1:a1) (h2:a2) (h3:a3) (h4:a4) (h5:a5) (h6:a6) (h7:a7) (h8:a8) (h9:a9) (h10:a10) (h11:a11)
theorem b7{α:Type}{P:α->Prop}:∀ x∈([]:List α),P x:=fun Z h=>absurd h jm
theorem af{α:Type}{P:α->Prop}{a:α}{l:List α}(p:P a)(q:∀ x∈l,P x):∀ x∈a::l,P x:=fun x h=>(jf.mp h).elim (fun e=>e▸p) (q x)
theorem cK{α:Type}{x:Option α}{a b:α}(h1:x=some a)(h2:x=some b):a=b:=Option.some.inj (h1.symm.trans h2)
theorem d7{n i j:Nat}(h:i≠j):n+i≠n+j:=fun e=>h (Nat.add_left_cancel e)
theorem dl{n i:Nat}(h:i≠0):n+i≠n:=d7 (j:=0) h
structure Cx where
 prog:Program
 w:World
 gens:Array GenState
 os:OsState
abbrev Tk:Type:=Nat×Drawn
noncomputable abbrev Cx.at (c:Cx) (h:Heap) (t:Tk):Shared:=⟨h,c.gens,t.2,t.1,c.os⟩
noncomputable abbrev Cx.K(c:Cx):Frag:=Mine.hd.heap_39 c.w.params
noncomputable abbrev ag:Addr:=145
noncomputable def Lse:List Str:=(looseW Mine.hd.view_39
      [Str.ofString "UniError", Str.ofString "SYLLABLES", Str.ofString "decomposed", Str.ofString "composed",
       Str.ofString "form_of", Str.ofString "quick_check", Str.ofString "is_form", Str.ofString "puny_figure",
       Str.ofString "puny_number", Str.ofString "encode_label", Str.ofString "decode_annotated",
       Str.ofString "decode_label", Str.ofString "PREFIX", Str.ofString "_law_ahead"] ++
     List.map (fun x=>x.name) (recsOf Mine.hd.view_39) ++
    List.map (fun x=>x.fst) (litsOf Mine.hd.view_39) ++
   List.map (fun x=>x.name)
    (clssOf Mine.hd.view_39
     (looseW Mine.hd.view_39
      [Str.ofString "UniError", Str.ofString "SYLLABLES", Str.ofString "decomposed", Str.ofString "composed",
       Str.ofString "form_of", Str.ofString "quick_check", Str.ofString "is_form", Str.ofString "puny_figure",
       Str.ofString "puny_number", Str.ofString "encode_label", Str.ofString "decode_annotated",
       Str.ofString "decode_label", Str.ofString "PREFIX", Str.ofString "_law_ahead"])))
noncomputable def a46:Str := "form_sorted.<locals>.<lambda>"
def ai(o:Obj):Prop:=av fun vs t=>o.data=.fields vs/\vs[1]?=some (.str a46 t)
def cw(h:Heap):Prop:=∃ ps,bB (h.get? ag=some (tabObj ps)) (TriplesOk ps.toList) (∀ pos cv,codeAmong pos ps.toList=some cv->av fun a o=>bB (cv=.ref a) (h.get? a=some o) (ai o))
def au9(P:Params)(body:List Stmt)(scope:Scope)(qual:Str):Prop:=ax9 fun oc od name params dV kV doc pm an cdv ct osl=>(Mine.hd.heap_39 P).lookup 680=some ⟨oc,od,.func (fnOf name qual params body scope dV kV doc pm an cdv ct),osl⟩
structure Lw where
 (g h:Heap) (L fa sx:Addr) (cd:Value) (o1 o2:Obj) (its:List Value) (zs:List Int)
structure ag2(c:Cx)(w:Lw):Prop where mk ::
 run:∀ {body:List Stmt} {scope:Scope} {qual:Str} {drawn:Drawn} {toks:Nat} {Q:Flow->Shared->Prop} {E:Value->Shared->Prop}
  (hl:au9 c.w.params body scope qual) (X:(Mine.hd.heap_39 c.w.params).In w.g) (T:b5 fun mean mg mb=>Top topProg Lse mean mg mb w.g) (H:CodeHd w.g 147 145)
  (F:Fr w.g w.L w.h (bindL (envOfC qual scope w.L w.fa w.cd).kindOf [("script", .ref w.sx)] fun Z=>none)) (N:News w.g w.L w.h [(w.L+1+1,w.o2),(w.L+1,w.o1),(145,tabObj #[])]) (l0:@LT.lt Nat _ 145 w.L)
  (h1:w.o1.data=.cell none) (h2:w.o2.data=.cell none) (hs:w.g.IsList w.sx w.its.toArray) (hi:IntsAre w.its w.zs) (hn:w.zs.length<=63)
  (hq:∀ h' (tk':Tk),w.g.StaysIn h'->cw h'->Q (.ret (.bool true)) ⟨h',c.gens,tk'.2,tk'.1,c.os⟩),
  wpAny (model c.prog c.w) (callerA.deeper (envOfC qual scope w.L w.fa w.cd)) (execs body (envOfC qual scope w.L w.fa w.cd)) Q E ⟨w.h,c.gens,drawn,toks,c.os⟩
theorem Cx.some:Nonempty Cx:=⟨⟨default,⟨fun Z Z=>0,{ strHash:=fun Z=>0,shareClass:=fun Z=>0,mergeTok:=id,idOf:=fun Z=>0,idOfShared:=fun Z Z=>0,followText:=fun Z=>false,idOfImm:=fun Z=>0 }⟩,#[],{}⟩⟩
theorem Lw.some:Nonempty Lw:=⟨⟨default,default,0,0,0,.none,default,default,[],[]⟩⟩
@[irreducible] def c:Cx:=@Classical.epsilon Cx Cx.some fun c=>¬ ∀ w,ag2 c w
@[irreducible] def lw:Lw:=@Classical.epsilon Lw Lw.some fun w=>¬ ag2 c w
theorem c7{α:Type}{i:Nonempty α}{P:α->Prop}{a:α}(e:a=@Classical.epsilon α i fun a=>¬ P a)(h:P a)(b:α):P b:=Classical.byContradiction fun n=>@Classical.epsilon_spec α (fun a=>¬ P a) ⟨b,n⟩ (e▸h)
theorem ci2(h:ag2 c lw)(c':Cx)(w:Lw):ag2 c' w:=c7 (P:=fun c=>∀ w,ag2 c w) (by unfold c; rfl) (c7 (P:=ag2 c) (by unfold lw; rfl) h) c' w
structure Wp{α:Type}(c:Cx)(E:VP)(A:Around)(t:Sem α)(Q:α->Heap->Prop)(h:Heap):Prop where mk ::
 run:∀ tk,wpAny (model c.prog c.w) A t (fun a s=>av fun h' tk'=>s=c.at h' tk'/\Q a h') (fun e s=>av fun h' tk'=>s=c.at h' tk'/\E e h') (c.at h tk)
structure Cp(c:Cx)(A:Around)(k:Code)(R:Result->Heap->Prop)(h:Heap):Prop where mk ::
 run:∀ tk,codeAny (model c.prog c.w) A k (fun r s=>av fun h' tk'=>s=c.at h' tk'/\R r h') (c.at h tk)
end
section
variable {α β:Type} {E E':VP} {A:Around} {h:Heap}
mutual
theorem Wp.mono{t:Sem α}{Q Q':α->Heap->Prop}(H:Wp c E A t Q h)(hQ:∀ a h,Q a h->Q' a h)(hE:∀ e h,E e h->E' e h):Wp c E' A t Q' h:=.mk fun tk =>
 jd (H.1 tk) (fun a s ⟨h',t',e,q⟩=>⟨h',t',e,hQ a h' q⟩) fun a s ⟨h',t',e,q⟩=>⟨h',t',e,hE a h' q⟩
theorem Wp.on{t:Sem α}{Q:α->Heap->Prop}{P:α->Shared->Prop}(H:Wp c E A t Q h)(tk:Tk)(k:∀ a h' (t':Tk),Q a h'->P a (c.at h' t')):wpAny (model c.prog c.w) A t P (fun e s=>av fun h' tk'=>s=c.at h' tk'/\E e h') (c.at h tk) :=
 jd (H.1 tk) (fun a s x=>by obtain⟨h',t',e,q⟩:=x; rw[e]; exact k a h' t' q) fun Z Z x=>x
theorem Wp.pure{a:α}{Q:α->Heap->Prop}(q:Q a h):Wp c E A (Pure.pure a) Q h:=.mk fun tk=>jc ⟨h,tk,rfl,q⟩
theorem Wp.conseq{t:Sem α}{Q Q':α->Heap->Prop}(H:Wp c (fun Z Z=>False) A t Q h)(hQ:∀ a h,Q a h->Q' a h):Wp c E A t Q' h:=H.mono hQ fun Z Z x=>x.elim
theorem Wp.nest{t:Sem α}{f:α->Sem β}{Q:β->Heap->Prop}(H:Wp c E A t (fun a O=>Wp c E A (f a) Q O) h)(tk:Tk) :
  wpAny (model c.prog c.w) A t (fun a sB=>wpAny (model c.prog c.w) A (f a) (fun a s=>av fun h' tk'=>s=c.at h' tk'/\Q a h') (fun e s=>av fun h' tk'=>s=c.at h' tk'/\E e h') sB) (fun e s=>av fun h' tk'=>s=c.at h' tk'/\E e h') (c.at h tk) :=
 jd (H.1 tk) (fun _ _ ⟨_,t',e,q⟩=>by subst e; exact q.1 t') fun Z Z x=>x
theorem Wp.bind{t:Sem α}{f:α->Sem β}{Q:β->Heap->Prop}(H:Wp c E A t (fun a O=>Wp c E A (f a) Q O) h):Wp c E A (t >>= f) Q h:=.mk fun tk=>jb (H.nest tk)
theorem Wp.holding{vs:List Value}{t:Sem α}{Q:α->Heap->Prop}(H:Wp c E A t Q h):Wp c E A (holding vs t) Q h:=.mk fun tk=>wpAny_holding (H.1 tk)
theorem Wp.standAt{pos:Pos}{Q:Unit->Heap->Prop}(q:Q () h):Wp c E A (standAt pos) Q h:=.mk fun tk=>wpAny_standAt ⟨h,tk,rfl,q⟩
end
end
mutual
abbrev eg {α:Type} (P Q:α->Heap->Prop):Prop:=∀ a h,P a h->Q a h
def ay1{α:Type}(P:α->Heap->Prop)(G:(α->Heap->Prop)->Prop):Prop:=∀ R,eg P R->G R
theorem ay1.mk{α:Type}{P:α->Heap->Prop}{G:(α->Heap->Prop)->Prop}(H:∀ R,eg P R->G R):ay1 P G:=H
theorem eg.rfl{α:Type}{P:α->Heap->Prop}:eg P P:=fun Z Z x=>x
structure ax7{α β γ:Type}(P Q:α->β->γ->Heap->Prop):Prop where mk ::
 run:∀ a b f h,P a b f h->Q a b f h
theorem ax7.rfl{α β γ:Type}{P:α->β->γ->Heap->Prop}:ax7 P P:=⟨fun Z Z Z Z x=>x⟩
structure a77{β:Type}(P Q:Nat->β->Heap->Prop):Prop where mk ::
 run:∀ a f h,P a f h->Q a f h
theorem a77.rfl{β:Type}{P:Nat->β->Heap->Prop}:a77 P P:=⟨fun Z Z Z x=>x⟩
structure Gd(c:Cx)(V:Heap):Prop where
 X:c.K.In V
 T:b5 fun mean mg mb=>Top topProg Lse mean mg mb V
 hd:CodeHd V 147 145
theorem ai.seq{o:Obj}{vs:Array Value}{n:Nat}(h:o.data=.seq vs n):¬ ai o:=fun⟨_,_,e,_⟩=>by rw[h] at e; cases e
theorem ai.dict{o:Obj}{es:Array DictEntry}{n:Nat}(h:o.data=.dict es n):¬ ai o:=fun⟨_,_,e,_⟩=>by rw[h] at e; cases e
theorem ai.cell{o:Obj}{v:Option Value}(h:o.data=.cell v):¬ ai o:=fun⟨_,_,e,_⟩=>by rw[h] at e; cases e
theorem ai.fld{o:Obj}{vs:Array Value}(h:o.data=.fields vs)(hv:∀ q t,vs[1]?≠some (.str q t)):¬ ai o:=fun⟨_,_,e,x⟩=>by rw[h] at e; cases e; exact hv _ _ x
theorem Gd.keeps{h h':Heap}(G:Gd c h)(k:h.StaysIn h'):Gd c h' :=
 ⟨G.X.keeps k,let ⟨a,b,d,t⟩:=G.T; ⟨a,b,d,t.keeps k⟩,G.hd.keeps k⟩
structure ak(c:Cx)(h:Heap):Prop where
 gd:Gd c (h.hide ag)
 tab:cw h
structure bU(h h':Heap):Prop where
 stays:(h.hide ag).StaysIn h'
 tab:cw h'
 size:h.objs.size<=h'.objs.size
theorem ae8(h:Heap)(a:Addr):(h.hide a).StaysIn h:=fun Z Z e=>Heap.of_hide e
theorem bU.get{h h':Heap}(k:bU h h'){a:Addr}{o:Obj}(ha:a≠ag)(e:h.get? a=some o):h'.get? a=some o:=k.stays a o ((Heap.hide_ne h ha).trans e)
noncomputable abbrev ce (q:Str) (sc:Scope) (f:Addr) (cd:Value) (L:Addr):Env:=envOf q sc L f cd
noncomputable def bO:List Str->LO->Str->Option Value
 | n::ns,v::vs,x=>if x=n then v else bO ns vs x
 | _,_,_=>none
inductive At(x:Str)(v:Option Value):List Str->LO->Prop
 | head {ns vs}:At x v (x::ns) (v::vs)
 | tail {y u ns vs}:At x v ns vs->At x v (y::ns) (u::vs)
inductive dr(x:Str)(v:Value):List Str->LO->LO->Prop
 | head {u ns vs}:dr x v (x::ns) (u::vs) (some v::vs)
 | tail {y u ns vs vs'}:dr x v ns vs vs'->dr x v (y::ns) (u::vs) (u::vs')
noncomputable def a44:List Str->Str->Bool
 | n::r,x=>if x=n then true else a44 r x
 | [],_=>false
theorem ba0{x:Str}(l:List Str):a44 l x=true->x∈l:=by
 induction l with
 | nil=>exact fun e=>Bool.noConfusion e
 | cons n r ih =>
  intro e
  by_cases q:x=n
  ·rw[q]; exact .head _
  ·exact .tail _ (ih ((if_neg q).symm.trans e))
noncomputable def aj4:List Str->LO->Str->Option Value
 | n::ns,v::vs,x=>if x=n then v else aj4 ns vs x
 | _,_,_=>none
theorem aw2{x:Str}{v:Value}(ns:List Str):∀ {vs:LO},aj4 ns vs x=some v->At x (some v) ns vs:=by
 induction ns with
 | nil=>intro vs e; exact absurd e (Option.some_ne_none _).symm
 | cons n ns ih =>
  intro vs e
  cases vs with
  | nil=>exact absurd e (Option.some_ne_none _).symm
  | cons u vs =>
   by_cases q:x=n
   ·have e:u=some v:=(if_pos q).symm.trans e;rw[q,e]; exact .head
   ·exact .tail (ih ((if_neg q).symm.trans e))
theorem dr.t1{x v a p u ns vs}:dr x v (a::x::ns) (p::u::vs) (p::some v::vs):=.tail .head
theorem dr.t2{x v a b p q u ns vs}:dr x v (a::b::x::ns) (p::q::u::vs) (p::q::some v::vs):=.tail .t1
theorem dr.t3{x v a b d p q r u ns vs}:dr x v (a::b::d::x::ns) (p::q::r::u::vs) (p::q::r::some v::vs):=.tail .t2
theorem dr.t4{x v a b d e p q r s ns vs vs'}(h:dr x v ns vs vs'):dr x v (a::b::d::e::ns) (p::q::r::s::vs) (p::q::r::s::vs'):=.tail (.tail (.tail (.tail h)))
theorem dq7{α:Type}{x a:α}{l:List α}:x∈a::x::l:=.tail _ (.head _)
theorem dq6{α:Type}{x a b:α}{l:List α}:x∈a::b::x::l:=.tail _ (.tail _ (.head _))
theorem dq5{α:Type}{x a b d:α}{l:List α}:x∈a::b::d::x::l:=.tail _ (.tail _ (.tail _ (.head _)))
theorem dq4{α:Type}{x a b d e:α}{l:List α}(h:x∈l):x∈a::b::d::e::l:=.tail _ (.tail _ (.tail _ (.tail _ h)))
theorem At.mem{x v ns vs}(a:At x v ns vs):x∈ns:=by induction a with|head=>exact .head _|tail _ ih=>exact .tail _ ih
theorem At.is{x v ns vs}(a:At x v ns vs)(nd:ns.Nodup):bO ns vs x=v:=by
 induction a with
 | head=>exact if_pos rfl
 | @tail y u ns vs a ih =>
  obtain⟨h1,h2⟩:=List.nodup_cons.mp nd;have hx:¬ x=y:=fun e=>h1 (e▸a.mem);exact(if_neg hx).trans (ih h2)
theorem dr.mem{x v ns vs vs'}(a:dr x v ns vs vs'):x∈ns:=by induction a with|head=>exact .head _|tail _ ih=>exact .tail _ ih
theorem dr.is{x v ns vs vs'}(a:dr x v ns vs vs')(nd:ns.Nodup):(fun y=>if y=x then some v else bO ns vs y)=bO ns vs':=by
 funext y
 induction a with
 | @head u ns vs =>
  show(if y=x then some v else if y=x then u else bO ns vs y)=if y=x then some v else bO ns vs y
  by_cases e:y=x
  ·rw[if_pos e,if_pos e]
  ·rw[if_neg e,if_neg e,if_neg e]
 | @tail z u ns vs vs' a ih =>
  obtain⟨h1,h2⟩:=List.nodup_cons.mp nd
  show(if y=x then some v else if y=z then u else bO ns vs y)=if y=z then u else bO ns vs' y
  rw[<- ih h2]
  by_cases e:y=z
  ·rw[if_pos e,if_pos e,if_neg (show ¬ y=x from fun q=>h1 (by rw[<- e,q]; exact a.mem))]
  ·rw[if_neg e,if_neg e]
theorem al4(rest:List Str):bO rest (rest.map fun Z=>none)=fun Z=>none:=by
 induction rest with
 | nil=>rfl
 | cons y r ih =>
  funext x
  show(if x=y then none else bO r _ x)=none
  rw[ih]
  split<;>rfl
theorem aj5(rest:List Str)(binds:List (Str×Value)):(binds.map (·.1)++rest).Nodup ->
  (fun x=>binds.reverse.lookup x)=bO (binds.map (·.1)++rest) (binds.map (fun b=>some b.2)++rest.map fun Z=>none):=by
 induction binds with
 | nil=>exact fun Z=>(al4 rest).symm
 | cons p r ih =>
  intro nd;obtain⟨h1,h2⟩:=List.nodup_cons.mp (show(p.1::(r.map (·.1)++rest)).Nodup from nd)
  funext x
  show(p::r).reverse.lookup x=if x=p.1 then some p.2 else bO (r.map (·.1)++rest) (r.map (fun b=>some b.2)++rest.map fun Z=>none) x
  rw[List.reverse_cons,List.lookup_append,<- congrFun (ih h2) x]
  by_cases e:x=p.1
  ·have:r.reverse.lookup x=none:=by
    rw[List.lookup_eq_none_iff];intro q hq;refine bne_iff_ne.mpr fun w=>?_;exact h1 (ji _ (by rw[<- e,w]; exact List.mem_map_of_mem (List.mem_reverse.mp hq)))
   rw[if_pos e,this,e]
   show(match p.1==p.1 with|true=>some p.2|false=>none)=_
   rw[beq_self_eq_true]
  ·rw[if_neg e]
   show((r.reverse.lookup x).or (match x==p.1 with|true=>some p.2|false=>none))=_
   rw[beq_eq_false_iff_ne.mpr e];exact Option.or_none
noncomputable def bn:ac->Prop
 | []=>True
 | p::r=>(∀ q∈r,q.1≠p.1)/\bn r
structure Fn(env:Env)(gs ns:List Str):Prop where
 nd:ns.Nodup
 loc:∀ x∈ns,env.kindOf x=some .local
 glo:∀ x∈gs,env.kindOf x=some .globalImplicit
 dbg:∀ x∈ns,(x==("__debug__" : Str))=false
 dbg':∀ x∈gs,(x==("__debug__" : Str))=false/\x ≠ "__name__"
def co(env:Env)(V:Heap)(a:Addr):Prop:=a≠env.locals/\a≠ag/\V.get? a=none
structure Fs(c:Cx)(gs ns:List Str)(env:Env)(V:Heap)(fx:ac)(vs:LO)(l:ac)(h:Heap):Prop where
 fr:Fr V env.locals h (bO ns vs)
 own:∀ p∈l,h.get? p.1=some p.2
 ord:bn l
 ap:∀ p∈l,co env V p.1
 tab:cw h
 lt:@LT.lt Nat _ ag env.locals
 no:V.get? ag=none
 gd:Gd c V
 fn:Fn env gs ns
 pl:env.scope.kind=.function/\env.globals=mainGlobals/\env.builtins=builtinsNs
 fix:∀ p∈fx,h.get? p.1=some p.2
 off:∀ p∈fx,co env V p.1/\∀ q∈l,p.1≠q.1
theorem cw.mono{h h':Heap}(t:cw h)(k:∀ b o,b=ag\/ai o->h.get? b=some o->h'.get? b=some o):cw h':=by
 obtain⟨ps,a,b,d⟩:=t;exact⟨ps,k _ _ (.inl rfl) a,b,fun pos cv e=>let ⟨x,o,e1,e2,e3⟩:=d pos cv e; ⟨x,o,e1,k _ _ (.inr e3) e2,e3⟩⟩
def ac8(V:Heap)(tl:ac):Prop:=av fun ps ex=>bK (tl=(ag,tabObj ps)::ex) (TriplesOk ps.toList) (∀ p∈ex,ai p.2) (∀ pos cv,codeAmong pos ps.toList=some cv->av fun a o=>bB (cv=.ref a) (ai o) (V.get? a=some o\/(a,o)∈ex))
theorem ce6{h V:Heap}(L:List Value):∃ ex:ac,(∀ p∈ex,h.get? p.1=some p.2/\ai p.2/\V.get? p.1=none)/\∀ a o,Value.ref a∈L->h.get? a=some o->ai o->(∀ o',V.get? a=some o'->h.get? a=some o')->V.get? a=some o\/(a,o)∈ex:=by
 induction L with
 | nil=>exact⟨[],fun p hp=>absurd hp jm,fun a o hm=>absurd hm jm⟩
 | cons v r ih =>
  obtain⟨ex,e1,e2⟩:=ih;refine(Classical.em (av fun a o=>bK (v=.ref a) (h.get? a=some o) (ai o) (V.get? a=none))).elim (fun hc=>?_) fun hc=>?_
  ·obtain⟨a,o,ev,h1,h2,h3⟩:=hc;refine⟨(a,o)::ex,fun p hp=>(jf.mp hp).elim (fun e=>e▸⟨h1,h2,h3⟩) (e1 p),fun b o' hm hb hco hk=>(jf.mp hm).elim (fun e=>?_) fun hm=>(e2 b o' hm hb hco hk).imp id (.tail _)⟩;have ea:b=a:=Value.ref.inj (e.trans ev);rw[ea,h1] at hb;rw[ea,Option.some.inj hb];exact .inr (.head _)
  ·refine⟨ex,e1,fun b o' hm hb hco hk=>(jf.mp hm).elim (fun e=>?_) fun hm=>e2 b o' hm hb hco hk⟩
   cases e0:V.get? b with
   | none=>exact absurd ⟨b,o',e.symm,hb,hco,e0⟩ hc
   | some o2=>exact .inl ((hk o2 e0).symm.trans hb)
theorem ao9{P:List Value->Prop}(h3:∀ a t b u x r,P r->P (.int a t::.int b u::x::r))(h1:P [])(h0:∀ L,(∀ pos,codeAmong pos L=none)->¬ TriplesOk L->P L)(L:List Value):P L:=by
 have no:∀ n (L:List Value),L.length<=n->P L:=by
  intro n
  induction n with
  | zero=>intro L h; rw[List.eq_nil_of_length_eq_zero (Nat.le_zero.mp h)]; exact h1
  | succ n ih =>
   intro L h
   cases L with
   | nil=>exact h1
   | cons x L =>
    cases x<;>try exact h0 _ (fun Z=>rfl) id
    cases L with
    | nil=>exact h0 _ (fun Z=>rfl) id
    | cons y L =>
     cases y<;>try exact h0 _ (fun Z=>rfl) id
     cases L with
     | nil=>exact h0 _ (fun Z=>rfl) id
     | cons z L=>exact h3 _ _ _ _ _ _ (ih L (Nat.le_of_succ_le_succ (Nat.le_of_succ_le (Nat.le_of_succ_le h))))
 exact no _ L (Nat.le_refl _)
theorem a71{pos:Pos}{a b:Int}{t u:Tok}{x:Value}{r:List Value}{P:Option Value->Prop}(h1:P (some x))(h2:P (codeAmong pos r)):P (codeAmong pos (.int a t::.int b u::x::r)):=by
 show P (if a==pos.line&&b==pos.col then some x else codeAmong pos r)
 cases (a==pos.line&&b==pos.col)
 ·exact h2
 ·exact h1
theorem a09{pos:Pos}{cv:Value}{L:List Value}:codeAmong pos L=some cv->cv∈L:=by
 refine ao9 (P:=fun L=>codeAmong pos L=some cv->cv∈L) (fun a t b u x r ih=>?_) (fun e=>absurd e (Option.some_ne_none _).symm) (fun L n Z e=>absurd ((n pos).symm.trans e) (Option.some_ne_none _).symm) L;exact a71 (P:=fun o=>o=some cv->cv∈_) (fun e=>by rw[<- Option.some.inj e]; exact .tail _ (.tail _ (.head _))) fun e=>.tail _ (.tail _ (.tail _ (ih e)))
end
section
variable {gs ns:List Str} {env:Env} {V:Heap} {fx:ac} {l l':ac} {vs vs':LO} {h h':Heap}
mutual
theorem Fs.keep(S:Fs c gs ns env V fx vs l h){b:Addr}{o:Obj}(e:V.get? b=some o):h.get? b=some o:=S.fr.keep b o e
theorem Fs.stays(S:Fs c gs ns env V fx vs l h):V.StaysIn h:=S.fr.keep
theorem Fs.good(S:Fs c gs ns env V fx vs l h):ak c h:=⟨S.gd.keeps fun b o e=>by
  by_cases hb:b=ag
  ·subst hb; rw[S.no] at e; cases e
  ·exact(Heap.hide_ne h hb).trans (S.keep e),S.tab⟩
theorem Fs.fresh(S:Fs c gs ns env V fx vs l h){a:Addr}(ha:h.objs.size<=a):co env V a :=
 ⟨jJ (js S.fr.ns.lt ha),jJ (jK S.lt (js S.fr.ns.lt ha)),by
  cases e:V.get? a with
  | none=>rfl
  | some o=>exact absurd (jw (S.keep e)) (Nat.not_lt.mpr ha)⟩
theorem Fs.push(S:Fs c gs ns env V fx vs l h)(o:Obj)(hf:autoParam (o.isFreed=false) aU):Fs c gs ns env V fx vs ((h.objs.size,o)::l) (h.push o) where
 fr:=S.fr.push o
 own:=af (jq _ hf) fun p hp=>jp _ (S.own p hp)
 ord:=⟨fun q hq=>jv (jw (S.own q hq)),S.ord⟩
 ap:=af (S.fresh (Nat.le_refl _)) fun p hp=>S.ap p hp
 tab:=S.tab.mono fun Z Z Z e=>jp _ e
 lt:=S.lt
 no:=S.no
 gd:=S.gd
 fn:=S.fn
 pl:=S.pl
 fix:=fun p hp=>jp _ (S.fix p hp)
 off:=fun p hp=>⟨(S.off p hp).1,af (jv (jw (S.fix p hp))) fun q hq=>(S.off p hp).2 q hq⟩
theorem Fs.drop{p:Addr×Obj}(S:Fs c gs ns env V fx vs (p::l) h):Fs c gs ns env V fx vs l h :=
 {S with own:=fun q hq=>S.own q (.tail _ hq),ord:=S.ord.2,ap:=fun q hq=>S.ap q (.tail _ hq),off:=fun r hr=>⟨(S.off r hr).1,fun q hq=>(S.off r hr).2 q (.tail _ hq)⟩ }
theorem Fs.toFix{p:Addr×Obj}(S:Fs c gs ns env V fx vs (p::l) h):Fs c gs ns env V (p::fx) vs l h :=
 {S.drop with
  fix:=af (S.own _ (.head _)) fun q hq=>S.fix q hq
  off:=af (⟨S.ap _ (.head _),fun r hr=>(S.ord.1 r hr).symm⟩) fun q hq=>⟨(S.off q hq).1,fun r hr=>(S.off q hq).2 r (.tail _ hr)⟩ }
theorem Fs.unfix{p:Addr×Obj}(S:Fs c gs ns env V (p::fx) vs l h):Fs c gs ns env V fx vs l h :=
 {S with fix:=fun q hq=>S.fix q (.tail _ hq),off:=fun q hq=>S.off q (.tail _ hq) }
theorem Fs.drop2{p q:Addr×Obj}(S:Fs c gs ns env V fx vs (p::q::l) h):Fs c gs ns env V fx vs (p::l) h :=
 {S with
  own:=fun r hr=>S.own r (by rcases jf.mp hr with rfl|hr; exact .head _; exact .tail _ (.tail _ hr))
  ord:=⟨fun r hr=>S.ord.1 r (.tail _ hr),S.ord.2.2⟩
  ap:=fun r hr=>S.ap r (by rcases jf.mp hr with rfl|hr; exact .head _; exact .tail _ (.tail _ hr))
  off:=fun r hr=>⟨(S.off r hr).1,fun x hx=>(S.off r hr).2 x (by rcases jf.mp hx with rfl|hx; exact .head _; exact .tail _ (.tail _ hx))⟩ }
theorem Fs.pick(S:Fs c gs ns env V fx vs l h)(hm:∀ p∈l',p∈l)(d:bn l'):Fs c gs ns env V fx vs l' h :=
 {S with own:=fun p hp=>S.own p (hm p hp),ord:=d,ap:=fun p hp=>S.ap p (hm p hp),off:=fun r hr=>⟨(S.off r hr).1,fun x hx=>(S.off r hr).2 x (hm x hx)⟩ }
theorem bn.mid{p:Addr×Obj}{a b:ac}(d:bn (a++p::b)):(∀ q∈a++b,q.1≠p.1)/\bn (a++b):=by
 induction a with
 | nil=>exact d
 | cons x a ih =>
  obtain⟨e1,e2⟩:=ih d.2;exact⟨af (d.1 p (jh _ (.head _))).symm e1,fun q hq=>d.1 q ((jg.mp hq).elim (ji _) fun m=>jh _ (.tail _ m)),e2⟩
theorem Fs.front{p:Addr×Obj}{a b:ac}(S:Fs c gs ns env V fx vs (a++p::b) h):Fs c gs ns env V fx vs (p::(a++b)) h :=
 S.pick (af (jh _ (.head _)) fun q hq=>(jg.mp hq).elim (ji _) fun m=>jh _ (.tail _ m)) ⟨(bn.mid S.ord).1,(bn.mid S.ord).2⟩
theorem Fs.front1{p q:Addr×Obj}(S:Fs c gs ns env V fx vs (q::p::l) h):Fs c gs ns env V fx vs (p::q::l) h:=Fs.front (a:=[q]) S
theorem Fs.front2{p q r:Addr×Obj}(S:Fs c gs ns env V fx vs (q::r::p::l) h):Fs c gs ns env V fx vs (p::q::r::l) h:=Fs.front (a:=[q,r]) S
inductive Up(d:Addr)(o o':Obj):ac->ac->Prop
 | head {r}:Up d o o' ((d,o)::r) ((d,o')::r)
 | tail {p r r'}:Up d o o' r r'->Up d o o' (p::r) (p::r')
theorem Up.mem{d o o' l l'}(u:Up d o o' l l'):(d,o)∈l:=by induction u with|head=>exact .head _|tail _ ih=>exact .tail _ ih
theorem Up.same{d o o' l l'}(u:Up d o o' l l'):l'.map (·.1)=l.map (·.1):=by induction u with|head=>rfl|tail _ ih=>simp [ih]
theorem bn.pw{l:ac}:bn l↔(l.map (·.1)).Pairwise fun a b=>b≠a:=by
 induction l with
 | nil=>exact⟨fun Z=>.nil,fun Z=>trivial⟩
 | cons p r ih =>
  rw[List.map_cons,List.pairwise_cons];refine and_congr ⟨fun h x hx=>?_,fun h q hq=>h _ (List.mem_map_of_mem hq)⟩ ih;obtain⟨y,hy,e⟩:=jM.mp hx;rw[<- e];exact h y hy
theorem bn.same{l l':ac}(e:l'.map (·.1)=l.map (·.1))(d:bn l):bn l':=bn.pw.mpr (by rw[e]; exact bn.pw.mp d)
theorem Up.own{d o o' l l'}(u:Up d o o' l l')(D:bn l){h h':Heap}(H:∀ p∈l,h.get? p.1=some p.2)(hd:h'.get? d=some o')(hk:∀ b x,b≠d->h.get? b=some x->h'.get? b=some x):∀ p∈l',h'.get? p.1=some p.2:=by
 induction u with
 | head =>
  exact af (hd) fun p hp=>hk _ _ (D.1 p hp) (H p (.tail _ hp))
 | @tail q r r' u ih =>
  exact af (hk _ _ (D.1 _ u.mem).symm (H _ (.head _))) fun p hp=>ih D.2 (fun p hp=>H p (.tail _ hp)) p hp
theorem Up.at{d o o' l l'}(u:Up d o o' l l'){q:Addr×Obj}(hq:q∈l'):∃ r∈l,r.1=q.1:=by
 have:q.1∈l'.map (·.1):=List.mem_map_of_mem hq;rw[u.same] at this;obtain⟨r,hr,e⟩:=jM.mp this;exact⟨r,hr,e⟩
theorem co.old_ne{a b:Addr}{o:Obj}(x:co env V a)(e:V.get? b=some o):b≠a:=fun q=>by subst q; rw[x.2.2] at e; cases e
theorem Fs.update(S:Fs c gs ns env V fx vs l h){d:Addr}{o o':Obj}(no:¬ ai o)(u:Up d o o' l l')(hd:h'.get? d=some o')(hk:∀ b x,b≠d->h.get? b=some x->h'.get? b=some x):Fs c gs ns env V fx vs l' h' where
 fr:=⟨S.fr.ns.at' fun o e=>hk _ _ (S.ap _ u.mem).1.symm e,fun b x e=>hk _ _ ((S.ap _ u.mem).old_ne e) (S.keep e),S.fr.above⟩
 own:=u.own S.ord S.own hd hk
 ord:=S.ord.same u.same
 ap:=fun q hq=>by
  obtain⟨r,hr,e⟩:=u.at hq;rw[<- e]; exact S.ap r hr
 tab:=S.tab.mono fun b x hb e=>hk b x (fun q=>hb.elim (fun t=>(S.ap _ u.mem).2.1 (q.symm.trans t)) fun t=>by rw[q,S.own _ u.mem] at e; cases e; exact no t) e
 lt:=S.lt
 no:=S.no
 gd:=S.gd
 fn:=S.fn
 pl:=S.pl
 fix:=fun p hp=>hk _ _ ((S.off p hp).2 _ u.mem) (S.fix p hp)
 off:=fun p hp=>⟨(S.off p hp).1,fun q hq=>by
  obtain⟨r,hr,e⟩:=u.at hq;rw[<- e]; exact(S.off p hp).2 r hr⟩
theorem Fs.store(S:Fs c gs ns env V fx vs l h){x:Str}{v:Value}(p:dr x v ns vs vs')(hn:h'.Ns env.locals (fun y=>if y=x then some v else bO ns vs y))(hs:Heap.SameBut env.locals h h'):Fs c gs ns env V fx vs' l h' where
 fr:=by rw[<- p.is S.fn.nd]; exact S.fr.set hn hs
 own:=fun q hq=>(hs.2 _ (S.ap q hq).1).trans (S.own q hq)
 ord:=S.ord
 ap:=S.ap
 tab:=S.tab.mono fun b x hb e=>(hs.2 b (fun q=>hb.elim (fun t=>jv S.lt (t.symm.trans q)) fun t=>by obtain⟨o,es,n,e1,e2,Z⟩:=S.fr.ns; rw[q,e1] at e; cases e; exact ai.dict e2 t)).trans e
 lt:=S.lt
 no:=S.no
 gd:=S.gd
 fn:=S.fn
 pl:=S.pl
 fix:=fun q hq=>(hs.2 _ (S.off q hq).1.1).trans (S.fix q hq)
 off:=S.off
theorem Fs.after(S:Fs c gs ns env V fx vs l h)(k:bU h h'):Fs c gs ns env V fx vs l h' where
 fr:=⟨S.fr.ns.at' fun o e=>k.get (jJ S.lt) e,fun b o e=>k.get (fun q=>by subst q; rw[S.no] at e; cases e) (S.keep e),S.fr.above⟩
 own:=fun p hp=>k.get (S.ap p hp).2.1 (S.own p hp)
 ord:=S.ord
 ap:=S.ap
 tab:=k.tab
 lt:=S.lt
 no:=S.no
 gd:=S.gd
 fn:=S.fn
 pl:=S.pl
 fix:=fun p hp=>k.get (S.off p hp).1.2.1 (S.fix p hp)
 off:=S.off
theorem Fs.take(S:Fs c gs ns env V fx vs l h)(k:bU h h'){r:Addr}{o:Obj}(hr:h'.get? r=some o)(hn:h.objs.size<=r):Fs c gs ns env V fx vs ((r,o)::l) h' :=
 let S':=S.after k
 {S' with
  own:=af (hr) fun p hp=>S'.own p hp
  ord:=⟨fun q hq=>jv (js (jw (S.own q hq)) hn),S.ord⟩
  ap:=af (S.fresh hn) fun p hp=>S.ap p hp
  off:=fun p hp=>⟨(S.off p hp).1,af (jv (js (jw (S.fix p hp)) hn)) fun q hq=>(S.off p hp).2 q hq⟩ }
theorem Fs.all(S:Fs c gs ns env V fx vs l h):∃ tl,ac8 V tl/\News V env.locals h (l++(fx++tl)):=by
 obtain⟨ps,h1,h2,h3⟩:=S.tab;obtain⟨ex,e1,e2⟩:=ce6 (h:=h) (V:=V) ps.toList;refine⟨(ag,tabObj ps)::ex,⟨ps,ex,rfl,h2,fun p hp=>(e1 p hp).2.1,fun pos cv e=>?_⟩,fun p hp=>?_⟩
 ·obtain⟨a,o,rfl,q1,q2⟩:=h3 pos cv e;exact⟨a,o,rfl,q2,e2 a o (a09 e) q1 q2 fun o' e'=>S.keep e'⟩
 ·rcases jg.mp hp with hp|hp
  ·exact⟨S.own p hp,(S.ap p hp).1,(S.ap p hp).2.2⟩
  ·rcases jg.mp hp with hp|hp
   ·exact⟨S.fix p hp,(S.off p hp).1.1,(S.off p hp).1.2.2⟩
   ·rcases jf.mp hp with rfl|hp
    ·exact⟨h1,jv S.lt,S.no⟩
    ·refine⟨(e1 p hp).1,fun q=>?_,(e1 p hp).2.2⟩;obtain⟨o,es,n,k1,k2,Z⟩:=S.fr.ns;have:=(e1 p hp).1;rw[q,k1] at this
     cases this
     exact ai.dict k2 (e1 p hp).2.1
theorem ac8.tab{tl:ac}(t:ac8 V tl)(k:V.StaysIn h')(N:∀ p∈tl,h'.get? p.1=some p.2):cw h':=by
 obtain⟨ps,ex,rfl,h1,h2,h3⟩:=t;exact⟨ps,N _ (.head _),h1,fun pos cv e=>let ⟨a,o,e1,e2,e3⟩:=h3 pos cv e; ⟨a,o,e1,e3.elim (k a o) fun m=>N _ (.tail _ m),e2⟩⟩
theorem Fs.tl_ne{tl:ac}(S:Fs c gs ns env V fx vs l h)(ht:ac8 V tl)(N:News V env.locals h (l++(fx++tl))){d:Addr}{o:Obj}(hm:(d,o)∈l)(no:¬ ai o):∀ p∈tl,p.1≠d:=by
 obtain⟨ps,ex,rfl,Z,h2,Z⟩:=ht;intro p hp
 rcases jf.mp hp with rfl|hp'
 ·exact(S.ap _ hm).2.1.symm
 ·intro e;have h1:=(N p (jh _ (jh _ hp))).1;rw[e,S.own _ hm] at h1
  cases h1
  exact no (h2 p hp')
theorem Fs.back{tl:ac}(S:Fs c gs ns env V fx vs l h)(ht:ac8 V tl)(F:Fr V env.locals h' (bO ns vs'))(N:News V env.locals h' (l'++(fx++tl)))(d:bn l')(a:∀ p∈l',p.1≠ag/\∀ q∈fx,q.1≠p.1) :
  Fs c gs ns env V fx vs' l' h' where
 fr:=F
 own:=fun p hp=>(N p (ji _ hp)).1
 ord:=d
 ap:=fun p hp=>⟨(N p (ji _ hp)).2.1,(a p hp).1,(N p (ji _ hp)).2.2⟩
 tab:=ht.tab F.keep fun p hp=>(N p (jh _ (jh _ hp))).1
 lt:=S.lt
 no:=S.no
 gd:=S.gd
 fn:=S.fn
 pl:=S.pl
 fix:=fun p hp=>(N p (jh _ (ji _ hp))).1
 off:=fun p hp=>⟨(S.off p hp).1,fun q hq=>(a q hq).2 p hp⟩
theorem Fs.frame(S:Fs c gs ns env V fx vs l h){wr:List Addr}(k:∀ b o,b∉wr->h.get? b=some o->h'.get? b=some o)(hw:∀ b∈wr,co env V b/\(∀ q∈l,q.1≠b)/\∀ p∈fx,p.1≠b)(hn:∀ b∈wr,∀ o,h.get? b=some o->¬ ai o):Fs c gs ns env V fx vs l h' :=
 {S with
  fr:=⟨S.fr.ns.at' fun o e=>k _ _ (fun q=>(hw _ q).1.1 rfl) e,fun b o e=>k _ _ (fun q=>(hw b q).1.old_ne e rfl) (S.keep e),S.fr.above⟩
  own:=fun p hp=>k _ _ (fun q=>(hw _ q).2.1 p hp rfl) (S.own p hp)
  tab:=S.tab.mono fun b o hb e=>k _ _ (fun q=>hb.elim (fun t=>(hw _ q).1.2.1 t) fun t=>hn b q o e t) e
  fix:=fun p hp=>k _ _ (fun q=>(hw _ q).2.2 p hp rfl) (S.fix p hp) }
end
end
section
variable {E:VP} {gs ns:List Str} {pos:Pos} {A:Around} {env:Env} {V:Heap} {fx:ac} {l l':ac} {vs vs':LO} {h:Heap}
mutual
theorem av6{x:Str}{v:Value}{Q:VP}(k:Q v h)(S:autoParam (Fs c gs ns env V fx vs l h) aA)(e:autoParam (aj4 ns vs x=some v) aU):Wp c E A (eval (.Name x pos) env) Q h:=.mk fun tk =>
 wpAny_Name (wpAny_loadName_local (s:=c.at h tk) S.pl.1 (S.fn.loc x (aw2 _ e).mem) S.fr.ns ((aw2 _ e).is S.fn.nd) ⟨h,tk,rfl,k⟩) (S.fn.dbg x (aw2 _ e).mem)
theorem cb9{x:Str}{v:Value}{Q:VP}(k:Q v h)(S:autoParam (Fs c gs ns env V fx vs l h) aA)(hm:autoParam (a44 gs x=true) aU)(e:nsIn (Mine.hd.heap_39 c.w.params) mainGlobals x=some (some v):=by k_is):Wp c E A (eval (.Name x pos) env) Q h:=.mk fun tk=>by
 have hx:=ba0 _ hm;obtain⟨mean,mg,mb,T⟩:=S.gd.T;have g:h.Ns env.globals mg:=by rw[S.pl.2.1]; exact T.g.keeps S.stays
 exact Calls.Name_function_global (s:=c.at h tk) S.pl.1 (S.fn.glo x hx) (Calls.loadGlobal_global g (mg_of S.gd.X T.g e) ⟨h,tk,rfl,k⟩) (S.fn.dbg' x hx).1
theorem ds6{x:Str}{v:Value}{Q:VP}(k:Q v h)(S:autoParam (Fs c gs ns env V fx vs l h) aA)(hm:autoParam (a44 gs x=true) aU)(e:nsIn (Mine.hd.heap_39 c.w.params) mainGlobals x=some none:=by k_is)(hv:bootBuiltins x=some v:=by boot_fast):Wp c E A (eval (.Name x pos) env) Q h:=.mk fun tk=>by
 have hx:=ba0 _ hm;obtain⟨mean,mg,mb,T⟩:=S.gd.T;have g:h.Ns env.globals mg:=by rw[S.pl.2.1]; exact T.g.keeps S.stays
 have b:h.Ns env.builtins mb:=by rw[S.pl.2.2]; exact T.b.keeps S.stays
 exact Calls.Name_function_global (s:=c.at h tk) S.pl.1 (S.fn.glo x hx) (Calls.loadGlobal_builtin g (mg_none_of S.gd.X T.g e) b ((T.builtins x (S.fn.dbg' x hx).2).trans hv) ⟨h,tk,rfl,k⟩) (S.fn.dbg' x hx).1
theorem bx2{x:Str}{v:Value}{Q:Unit->Heap->Prop}(k:let w:=vs'; ∀ h',Fs c gs ns env V fx w l h'->Q () h')(S:autoParam (Fs c gs ns env V fx vs l h) aA)(p:autoParam (dr x v ns vs vs') aP):Wp c E A (storeName env x v) Q h:=.mk fun tk =>
 wpAny_storeName_local (s:=c.at h tk) (S.fn.loc x p.mem) S.fr.ns (fun h' hn hs=>⟨h',(_,_),rfl,k h' (S.store p hn hs)⟩)
  (by show(env.scope.kind==.class || (env.scope.kind==.module&&env.locals != env.globals))=false; rw[S.pl.1]; rfl)
end
end
mutual
def BB(b:Bool)(P Q:Prop):Prop:=(b=true->P)/\(b=false->Q)
theorem BB.t{P Q:Prop}(p:P):BB true P Q:=⟨fun Z=>p,fun e=>(nomatch e)⟩
theorem BB.f{P Q:Prop}(q:Q):BB false P Q:=⟨fun e=>(nomatch e),fun Z=>q⟩
theorem BB.dec{p:Prop}[Decidable p]{P Q:Prop}(h1:p->P)(h2:¬ p->Q):BB (decide p) P Q:=⟨fun e=>h1 (of_decide_eq_true e),fun e=>h2 (of_decide_eq_false e)⟩
theorem BB.mk{b:Bool}{P Q:Prop}(h1:b=true->P)(h2:b=false->Q):BB b P Q:=⟨h1,h2⟩
theorem BB.not{b:Bool}{P Q:Prop}(h:BB b Q P):BB (!b) P Q:=by
 cases b
 ·exact BB.t (h.2 rfl)
 ·exact BB.f (h.1 rfl)
theorem BB.pos{b:Bool}{P Q:Prop}(e:b=true)(h:P):BB b P Q:=by subst e; exact .t h
theorem BB.neg{b:Bool}{P Q:Prop}(e:b=false)(h:Q):BB b P Q:=by subst e; exact .f h
theorem BB.pos1{b:Bool}{P Q:Prop}(h:P)(e:autoParam (b=true) aD):BB b P Q:=.pos e h
theorem BB.neg1{b:Bool}{P Q:Prop}(h:Q)(e:autoParam (b=false) aD):BB b P Q:=.neg e h
end
section
mutual
def Ku(Q:FP):Unit->Heap->Prop:=fun Z=>Q .next
def Kx(Q:FP):VP:=fun Z=>Q .next
def Krt(Q:FP):VP:=fun v=>Q (.ret v)
def KnB(Q:Bool->Heap->Prop):Bool->Heap->Prop:=fun b=>Q (!b)
def KnV(Q:VP):Bool->Heap->Prop:=fun b=>Q (.bool (!b))
def Kco(v:Value)(Q:List Value->Heap->Prop):List Value->Heap->Prop:=fun vs=>Q (v::vs)
def Kp3(k v:Value)(Q:List (Value×Value)->Heap->Prop):List (Value×Value)->Heap->Prop:=fun vs=>Q ((k,v)::vs)
abbrev Kst (c:Cx) (E:VP) (x:Str) (A:Around) (env:Env) (Q:FP):VP:=fun v h=>Wp c E A (storeName env x v) (Ku Q) h
abbrev Kas (c:Cx) (E:VP) (t:Expr) (A:Around) (env:Env) (Q:FP):VP:=fun v h=>Wp c E A (assign t env v) (Ku Q) h
abbrev Kif (c:Cx) (E:VP) (b o:List Stmt) (A:Around) (env:Env) (Q:FP):Bool->Heap->Prop:=fun t h=>BB t (Wp c E A (execs b env) Q h) (Wp c E A (execs o env) Q h)
abbrev Kix (c:Cx) (E:VP) (a b:Expr) (A:Around) (env:Env) (Q:VP):Bool->Heap->Prop:=fun t h=>BB t (Wp c E A (eval a env) Q h) (Wp c E A (eval b env) Q h)
abbrev Kwh (c:Cx) (E:VP) (b:List Stmt) (A:Around) (env:Env) (T Q:FP):Bool->Heap->Prop:=fun t h=>BB t (Wp c E A (execs b env) T h) (Q .next h)
abbrev Kbd (c:Cx) (E:VP) (b:List Stmt) (A:Around) (env:Env) (T:FP):Unit->Heap->Prop:=fun Z h=>Wp c E A (execs b env) T h
abbrev Kb2 (c:Cx) (E:VP) (op:Operator) (A:Around) (x:Value) (Q:VP):VP:=fun y h=>Wp c E A (binaryOp op x y) Q h
abbrev Kb1 (c:Cx) (E:VP) (op:Operator) (b:Expr) (A:Around) (env:Env) (Q:VP):VP:=fun x h=>Wp c E A (eval b env) (Kb2 c E op A x Q) h
abbrev Kun (c:Cx) (E:VP) (op:UnaryOp) (A:Around) (Q:VP):VP:=fun x h=>Wp c E A (unaryOp op x) Q h
abbrev Kc2 (c:Cx) (E:VP) (op:CmpOp) (A:Around) (x:Value) (Q:VP):VP:=fun y h=>Wp c E A (compareOp op x y) Q h
abbrev Kc1 (c:Cx) (E:VP) (op:CmpOp) (b:Expr) (A:Around) (env:Env) (Q:VP):VP:=fun x h=>Wp c E A (eval b env) (Kc2 c E op A x Q) h
abbrev Ktr (c:Cx) (E:VP) (A:Around) (Q:Bool->Heap->Prop):VP:=fun v h=>Wp c E A (truthy v) Q h
abbrev Kd4 (c:Cx) (E:VP) (op:CmpOp) (d:Expr) (A:Around) (env:Env) (y r:Value) (Q:VP):Bool->Heap->Prop:=fun t h=>BB t (Wp c E A (eval d env) (Kc2 c E op A y Q) h) (Q r h)
abbrev Kd3 (c:Cx) (E:VP) (op:CmpOp) (d:Expr) (A:Around) (env:Env) (y:Value) (Q:VP):VP:=fun r h=>Wp c E A (truthy r) (Kd4 c E op d A env y r Q) h
abbrev Kd2 (c:Cx) (E:VP) (op op':CmpOp) (d:Expr) (A:Around) (env:Env) (x:Value) (Q:VP):VP:=fun y h=>Wp c E A (compareOp op x y) (Kd3 c E op' d A env y Q) h
abbrev Kd1 (c:Cx) (E:VP) (op op':CmpOp) (b d:Expr) (A:Around) (env:Env) (Q:VP):VP:=fun x h=>Wp c E A (eval b env) (Kd2 c E op op' d A env x Q) h
abbrev Ktc (c:Cx) (E:VP) (ops:List CmpOp) (pos:Pos) (A:Around) (rs:List (Sem Value)) (Q:Bool->Heap->Prop):VP:=fun x h=>Wp c E A (testChain pos x ops rs) Q h
abbrev Kl3 (c:Cx) (E:VP) (ops:List CmpOp) (pos:Pos) (A:Around) (rs:List (Sem Value)) (y:Value) (Q:Bool->Heap->Prop):Bool->Heap->Prop:=fun t h=>BB t (Wp c E A (testChain pos y ops rs) Q h) (Q false h)
abbrev Kl2 (c:Cx) (E:VP) (ops:List CmpOp) (pos:Pos) (A:Around) (rs:List (Sem Value)) (y:Value) (Q:Bool->Heap->Prop):VP:=fun z h=>Wp c E A (truthy z) (Kl3 c E ops pos A rs y Q) h
abbrev Kl1 (c:Cx) (E:VP) (op:CmpOp) (ops:List CmpOp) (pos:Pos) (A:Around) (rs:List (Sem Value)) (x:Value) (Q:Bool->Heap->Prop):VP:=fun y h=>Wp c E A (compareOp op x y) (Kl2 c E ops pos A rs y Q) h
abbrev Kan (c:Cx) (E:VP) (rest:List Expr) (pos:Pos) (A:Around) (env:Env) (w:Sem Value) (Q:Bool->Heap->Prop):Bool->Heap->Prop:=fun b h=>BB b (Wp c E A (isTrue (.BoolOp .And rest pos) env w) Q h) (Q false h)
abbrev Kor (c:Cx) (E:VP) (rest:List Expr) (pos:Pos) (A:Around) (env:Env) (w:Sem Value) (Q:Bool->Heap->Prop):Bool->Heap->Prop:=fun b h=>BB b (Q true h) (Wp c E A (isTrue (.BoolOp .Or rest pos) env w) Q h)
abbrev KAn (c:Cx) (E:VP) (b:Expr) (rest:List Expr) (pos:Pos) (A:Around) (env:Env) (Q:VP) (v:Value):Bool->Heap->Prop:=fun t h=>BB t (Wp c E A (eval (.BoolOp .And (b::rest) pos) env) Q h) (Q v h)
abbrev KAN (c:Cx) (E:VP) (b:Expr) (rest:List Expr) (pos:Pos) (A:Around) (env:Env) (Q:VP):VP:=fun v h=>Wp c E A (truthy v) (KAn c E b rest pos A env Q v) h
abbrev KOr (c:Cx) (E:VP) (b:Expr) (rest:List Expr) (pos:Pos) (A:Around) (env:Env) (Q:VP) (v:Value):Bool->Heap->Prop:=fun t h=>BB t (Q v h) (Wp c E A (eval (.BoolOp .Or (b::rest) pos) env) Q h)
abbrev KOR (c:Cx) (E:VP) (b:Expr) (rest:List Expr) (pos:Pos) (A:Around) (env:Env) (Q:VP):VP:=fun v h=>Wp c E A (truthy v) (KOr c E b rest pos A env Q v) h
abbrev Kca (c:Cx) (E:VP) (args:List Expr) (pos:Pos) (A:Around) (env:Env) (Q:VP):VP:=fun f h=>Wp c E A (callWith pos f [] (backTo pos (starEach args env)) []) Q h
abbrev Kar (c:Cx) (E:VP) (rest:List Expr) (pos:Pos) (A:Around) (env:Env) (Q:List Value->Heap->Prop):VP:=fun v h=>Wp c E A (spliced (backTo pos (starEach rest env))) (Kco v Q) h
abbrev Krf (c:Cx) (E:VP) (A:Around) (f:Addr) (first:List Value) (Q:VP):List Value->Heap->Prop:=fun vs h=>c.K.In h/\Wp c E A (call (.ref f) (first++vs)) Q h
abbrev Kbl (c:Cx) (E:VP) (id:String) (A:Around) (first:List Value) (Q:VP):List Value->Heap->Prop:=fun vs h=>Wp c E A (call (.builtin id) (first++vs)) Q h
abbrev Kty (c:Cx) (E:VP) (T:String) (A:Around) (Q:VP):List Value->Heap->Prop:=fun vs h=>Wp c E A (call (.type T) vs) Q h
abbrev Km2 (c:Cx) (E:VP) (args:List Expr) (pos:Pos) (A:Around) (env:Env) (Q:VP):Value×List Value->Heap->Prop:=fun fx h=>Wp c E A (callWith pos fx.1 fx.2 (backTo pos (starEach args env)) []) Q h
abbrev Km1 (c:Cx) (E:VP) (name:Str) (args:List Expr) (pos:Pos) (A:Around) (env:Env) (pl:Sem Bool) (Q:VP):VP:=fun ov h=>Wp c E A (getMethod ov name pl) (Km2 c E args pos A env Q) h
abbrev Kli (c:Cx) (E:VP) (A:Around) (Q:VP):List Value->Heap->Prop:=fun vs h=>Wp c E A (newList vs) Q h
abbrev Ktu (c:Cx) (E:VP) (A:Around) (Q:VP):List Value->Heap->Prop:=fun vs h=>Wp c E A (newTuple vs) Q h
abbrev Ks2 (c:Cx) (E:VP) (value slice:Expr) (A:Around) (o:Value) (Q:VP):VP:=fun i h=>Wp c E A (subscriptTail value slice o i) Q h
abbrev Ks1 (c:Cx) (E:VP) (value slice:Expr) (A:Around) (env:Env) (Q:VP):VP:=fun o h=>Wp c E A (eval slice env) (Ks2 c E value slice A o Q) h
abbrev Kat (c:Cx) (E:VP) (attr:Str) (A:Around) (Q:VP):VP:=fun o h=>Wp c E A (getAttr o attr true) Q h
abbrev Kz3 (c:Cx) (E:VP) (A:Around) (x y:Value) (Q:VP):VP:=fun z h=>Wp c E A (newFields "slice" [x,y,z]) Q h
abbrev Kz2 (c:Cx) (E:VP) (st:Option Expr) (A:Around) (env:Env) (x:Value) (Q:VP):VP:=fun y h=>Wp c E A (valueOrNone (evalOpt st env)) (Kz3 c E A x y Q) h
abbrev Kz1 (c:Cx) (E:VP) (hi st:Option Expr) (A:Around) (env:Env) (Q:VP):VP:=fun x h=>Wp c E A (valueOrNone (evalOpt hi env)) (Kz2 c E st A env x Q) h
abbrev Ka2 (c:Cx) (E:VP) (attr:Str) (A:Around) (v:Value) (Q:FP):VP:=fun ov h=>Wp c E A (setAttr ov attr v) (Ku Q) h
abbrev Ka1 (c:Cx) (E:VP) (o:Expr) (attr:Str) (A:Around) (env:Env) (Q:FP):VP:=fun v h=>Wp c E A (eval o env) (Ka2 c E attr A v Q) h
abbrev Ki3 (c:Cx) (E:VP) (A:Around) (ov v:Value) (Q:FP):VP:=fun iv h=>Wp c E A (setItem ov iv v) (Ku Q) h
abbrev Ki2 (c:Cx) (E:VP) (i:Expr) (A:Around) (env:Env) (v:Value) (Q:FP):VP:=fun ov h=>Wp c E A (eval i env) (Ki3 c E A ov v Q) h
abbrev Ki1 (c:Cx) (E:VP) (o i:Expr) (A:Around) (env:Env) (Q:FP):VP:=fun v h=>Wp c E A (eval o env) (Ki2 c E i A env v Q) h
abbrev Kio (c:Cx) (E:VP) (A:Around) (ts:List (Value->Sem Unit)) (xs:List Value) (Q:Unit->Heap->Prop):Unit->Heap->Prop:=fun Z h=>Wp c E A (assignInOrder ts xs) Q h
abbrev Kp2 (c:Cx) (E:VP) (A:Around) (rest:List (Sem Value×Sem Value)) (kv:Value) (Q:List (Value×Value)->Heap->Prop):VP:=fun vv h=>Wp c E A (evalPairs rest) (Kp3 kv vv Q) h
abbrev Kp1 (c:Cx) (E:VP) (A:Around) (v:Sem Value) (rest:List (Sem Value×Sem Value)) (Q:List (Value×Value)->Heap->Prop):VP:=fun kv h=>Wp c E A v (Kp2 c E A rest kv Q) h
abbrev Kpi (c:Cx) (E:VP) (A:Around) (M:VP):VP:=fun xv h=>Wp c E A (pyIter xv) M h
abbrev Kck (c:Cx) (E:VP) (args:List Expr) (kws:List Keyword) (pos:Pos) (A:Around) (env:Env) (Q:VP):VP:=fun f h=>Wp c E A (callWith pos f [] (backTo pos (starEach args env)) (backToKw pos (keywordEach kws env))) Q h
abbrev Kk2 (c:Cx) (E:VP) (id:String) (name:Str) (A:Around) (vs:List Value) (Q:VP):VP:=fun kv h=>Wp c E A (call (.builtin id) vs [(name,kv)]) Q h
abbrev Kk1 (c:Cx) (E:VP) (id:String) (name:Str) (value:Expr) (A:Around) (env:Env) (Q:VP):List Value->Heap->Prop:=fun vs h=>Wp c E A (eval value env) (Kk2 c E id name A vs Q) h
end
end
mutual
theorem Ku.go{Q:FP}{u:Unit}{h:Heap}(k:Q .next h):Ku Q u h:=k
theorem Kx.go{Q:FP}{u:Value}{h:Heap}(k:Q .next h):Kx Q u h:=k
theorem Krt.go{Q:FP}{v:Value}{h:Heap}(k:Q (.ret v) h):Krt Q v h:=k
theorem KnB.go{Q:Bool->Heap->Prop}{b:Bool}{h:Heap}(k:Q (!b) h):KnB Q b h:=k
theorem KnV.go{Q:VP}{b:Bool}{h:Heap}(k:Q (.bool (!b)) h):KnV Q b h:=k
theorem Kco.go{v:Value}{Q:List Value->Heap->Prop}{vs:List Value}{h:Heap}(k:Q (v::vs) h):Kco v Q vs h:=k
theorem Kp3.go{a v:Value}{Q:List (Value×Value)->Heap->Prop}{vs:List (Value×Value)}{h:Heap}(k:Q ((a,v)::vs) h):Kp3 a v Q vs h:=k
end
section
variable {E:VP} {pos:Pos} {st:Stmt} {rest body orelse:List Stmt} {test value e a b d:Expr} {x:Str} {p:Pos} {op:Operator} {op' op'':CmpOp} {ops:List CmpOp} {rs:List Expr} {A:Around} {env:Env} {h:Heap}
mutual
theorem Wp.ite{t:Sem Bool}{P Q:Heap->Prop}{P' Q':Shared->Prop}{E':Value->Shared->Prop}(H:Wp c E A t (fun b O=>BB b (P O) (Q O)) h)(hP:∀ h' t',P h'->P' (c.at h' t'))(hQ:∀ h' t',Q h'->Q' (c.at h' t'))
  (hE:∀ e h' t',E e h'->E' e (c.at h' t')) (tk:Tk):wpAny (model c.prog c.w) A t (fun b sB=>if b=true then P' sB else Q' sB) E' (c.at h tk) :=
 jd (H.1 tk) (fun b s zpa=>by
  obtain⟨h1,t1,e,k⟩:=zpa;subst e
  cases b
  ·simp only[Bool.false_eq_true,if_false]; exact hQ h1 t1 (k.2 rfl)
  ·simp only[if_true]; exact hP h1 t1 (k.1 rfl)) fun e s zpa=>by obtain⟨h1,t1,q,k⟩:=zpa; subst q; exact hE e h1 t1 k
theorem Wp.eqv{α:Type}{t t':Sem α}{Q:α->Heap->Prop}(e:t=t')(H:Wp c E A t' Q h):Wp c E A t Q h:=e▸H
theorem ds3{Q:FP}(q:Q .next h):Wp c E A (execs [] env) Q h:=.mk fun tk=>wpAny_execs_nil ⟨h,tk,rfl,q⟩
def d5(c:Cx)(E:VP)(rest:List Stmt)(A:Around)(env:Env)(Q:FP)(f:Flow)(h:Heap):Prop:=match f with
 | .next=>Wp c E A (execs rest env) Q h
 | f=>Q f h
theorem cT{Q:FP}(H:Wp c E A (exec st env) (d5 c E rest A env Q) h):Wp c E A (execs (st::rest) env) Q h:=.mk fun tk =>
 wpAny_execs_cons (H.on tk fun f h1 t1 k=>by
  cases f<;>first|exact k.1 t1|exact⟨h1,t1,rfl,k⟩)
theorem d5.next{Q:FP}(H:Wp c E A (execs rest env) Q h):d5 c E rest A env Q .next h:=H
theorem d5.ret{Q:FP}{v:Value}(H:Q (.ret v) h):d5 c E rest A env Q (.ret v) h:=H
theorem d5.cont{Q:FP}(H:Q .cont h):d5 c E rest A env Q .cont h:=H
theorem dt4{Q:FP}
  (H:Wp c E A (isTrue test env (eval test env)) (Kif c E body orelse A env Q) h):Wp c E A (exec (.If test body orelse pos) env) Q h:=.mk fun tk =>
 wpAny_If (Wp.ite H (fun h' t' k=>k.1 t') (fun h' t' k=>k.1 t') (fun e h' t' k=>⟨h',t',rfl,k⟩) tk)
theorem dk5{Q:FP}(H:Wp c E A (eval value env) (Kst c E x A env Q) h)
  (hs:autoParam (swapsWith value (some (.Name x p)) pos.line env=Pure.pure false) aU):Wp c E A (exec (.Assign [.Name x p] value pos) env) Q h:=.mk fun tk =>
 wpAny_Assign_Name (H.on tk fun v h1 t1 k=>k.1 t1) hs
theorem bp0{Q:FP}(H:Wp c E A (eval e env) (Krt Q) h):Wp c E A (exec (.Return (some e) pos) env) Q h:=.mk fun tk=>wpAny_Return_some (H.1 tk)
theorem dp6{Q:FP}(H:Wp c E A (eval e env) (Kx Q) h)
  (hi:autoParam (interactive env=false) aU) (hs:autoParam (swapsWith e none pos.line env=Pure.pure false) aU):Wp c E A (exec (.Expr e pos) env) Q h:=.mk fun tk=>wpAny_Expr_any (H.1 tk) hi hs
theorem cf3{Q:FP}(q:Q .cont h):Wp c E A (exec (.Continue pos) env) Q h:=.mk fun tk=>fun Z Z Z=>⟨h,tk,rfl,q⟩
theorem ds4{i:Int}{k:Nat}{Q:VP}(q:∀ t,Q (.int i t) h):Wp c E A (eval (.Constant (.int i) k pos) env) Q h:=.mk fun tk=>wpAny_Constant_int ⟨h,(_,_),rfl,q _⟩
theorem dr9{k:Nat}{Q:VP}(q:∀ t,Q (.str x t) h):Wp c E A (eval (.Constant (.str x) k pos) env) Q h:=.mk fun tk=>Constant_str ⟨h,(_,_),rfl,q _⟩
theorem dq0{b:Bool}{k:Nat}{Q:VP}(q:Q (.bool b) h):Wp c E A (eval (.Constant (.bool b) k pos) env) Q h:=.mk fun tk=>wpAny_Constant_bool ⟨h,(_,_),rfl,q⟩
theorem dp3{k:Nat}{Q:VP}(q:Q .none h):Wp c E A (eval (.Constant .none k pos) env) Q h:=.mk fun tk=>wpAny_Constant_none ⟨h,(_,_),rfl,q⟩
theorem do1{Q:VP}(H:Wp c E A (eval a env) (Kb1 c E op b A env Q) h):Wp c E A (eval (.BinOp a op b pos) env) Q h:=.mk fun tk =>
 wpAny_BinOp (H.on tk fun v h1 t1 k=>k.nest t1)
theorem dp2{op:UnaryOp}{Q:VP}(H:Wp c E A (eval a env) (Kun c E op A Q) h):Wp c E A (eval (.UnaryOp op a pos) env) Q h:=.mk fun tk=>UnaryOp_ (H.nest tk)
theorem ci8{op:CmpOp}{Q:VP}(H:Wp c E A (eval a env) (Kc1 c E op b A env Q) h)
  (hm:autoParam (behindInMarks op b=false) aU):Wp c E A (eval (.Compare a [op] [b] pos) env) Q h:=.mk fun tk =>
 wpAny_Compare1 (H.on tk fun v h1 t1 k=>k.nest t1) hm
theorem cf4{op:CmpOp}{Q:VP}
  (H:Wp c E A (eval a env) (Kd1 c E op op' b d A env Q) h)
  (hm:autoParam (lastMarks [op,op'] [b,d]=false) aU):Wp c E A (eval (.Compare a [op,op'] [b,d] pos) env) Q h:=.mk fun tk =>
 Compare_chain (H.on tk fun x h1 t1 k=>by
  refine chain_link ((k.on t1 fun y h2 t2 k=>?_));refine k.on t2 fun r h3 t3 k=>?_;exact Wp.ite k (fun h' t' k=>chain_last (k.nest t')) (fun h' t' k=>⟨h',t',rfl,k⟩) (fun e h' t' k=>⟨h',t',rfl,k⟩) t3) hm
theorem ds7{rest:List Expr}{Q:VP}(H:Wp c E A (eval a env) (KAN c E b rest pos A env Q) h) :
  Wp c E A (eval (.BoolOp .And (a::b::rest) pos) env) Q h:=.mk fun tk =>
 BoolOp_and (H.on tk fun v h1 t1 k=>Wp.ite k (fun h' t' k=>k.1 t') (fun h' t' k=>⟨h',t',rfl,k⟩) (fun e h' t' k=>⟨h',t',rfl,k⟩) t1)
theorem cb8{rest:List Expr}{Q:VP}(H:Wp c E A (eval a env) (KOR c E b rest pos A env Q) h) :
  Wp c E A (eval (.BoolOp .Or (a::b::rest) pos) env) Q h:=.mk fun tk =>
 BoolOp_or (H.on tk fun v h1 t1 k=>Wp.ite k (fun h' t' k=>⟨h',t',rfl,k⟩) (fun h' t' k=>k.1 t') (fun e h' t' k=>⟨h',t',rfl,k⟩) t1)
theorem ds0{op:BoolOp}{Q:VP}(H:Wp c E A (eval a env) Q h):Wp c E A (eval (.BoolOp op [a] pos) env) Q h:=.mk fun tk=>BoolOp_one (H.1 tk)
theorem aJ{Q:VP}(H:Wp c E A (isTrue test env (eval test env)) (Kix c E a b A env Q) h):Wp c E A (eval (.IfExp test a b pos) env) Q h:=.mk fun tk =>
 IfExp_ (Wp.ite H (fun h' t' k=>k.1 t') (fun h' t' k=>k.1 t') (fun e h' t' k=>⟨h',t',rfl,k⟩) tk)
theorem ci6{op:CmpOp}{whole:Sem Value}{Q:Bool->Heap->Prop}(H:Wp c E A (eval a env) (Kc1 c E op b A env (Ktr c E A Q)) h)
  (hm:autoParam (behindInMarks op b=false) aU):Wp c E A (isTrue (.Compare a [op] [b] pos) env whole) Q h:=.mk fun tk =>
 wpAny_isTrue_Compare1 (H.on tk fun x h1 t1 k=>by
  exact(k.on t1 fun y h2 t2 k=>k.nest t2)) hm
theorem dn8{whole:Sem Value}{Q:Bool->Heap->Prop}(H:Wp c E A whole (Ktr c E A Q) h)
  (he:autoParam (isTrue e env whole=(do let v <- whole; standAt e.pos; PySem.holding [v] (truthy v))) aU):Wp c E A (isTrue e env whole) Q h:=.mk fun tk=>isTrue_plain (H.nest tk) he
theorem dr6{x:Expr}{whole:Sem Value}{Q:Bool->Heap->Prop}(H:Wp c E A (isTrue x env (eval x env)) (KnB Q) h):Wp c E A (isTrue (.UnaryOp .Not x pos) env whole) Q h:=.mk fun tk=>isTrue_not (H.1 tk)
theorem dr7{x:Expr}{rest:List Expr}{whole:Sem Value}{Q:Bool->Heap->Prop}(H:Wp c E A (isTrue x env (eval x env)) (Kan c E rest pos A env whole Q) h) :
  Wp c E A (isTrue (.BoolOp .And (x::rest) pos) env whole) Q h:=.mk fun tk=>isTrue_and (Wp.ite H (fun h' t' k=>k.1 t') (fun h' t' k=>⟨h',t',rfl,k⟩) (fun e h' t' k=>⟨h',t',rfl,k⟩) tk)
theorem dp1{whole:Sem Value}{Q:Bool->Heap->Prop}(q:Q true h):Wp c E A (isTrue (.BoolOp .And [] pos) env whole) Q h:=.mk fun tk=>isTrue_and_nil ⟨h,tk,rfl,q⟩
theorem dt3{x:Expr}{rest:List Expr}{whole:Sem Value}{Q:Bool->Heap->Prop}(H:Wp c E A (isTrue x env (eval x env)) (Kor c E rest pos A env whole Q) h) :
  Wp c E A (isTrue (.BoolOp .Or (x::rest) pos) env whole) Q h:=.mk fun tk=>isTrue_or (Wp.ite H (fun h' t' k=>⟨h',t',rfl,k⟩) (fun h' t' k=>k.1 t') (fun e h' t' k=>⟨h',t',rfl,k⟩) tk)
theorem dr5{whole:Sem Value}{Q:Bool->Heap->Prop}(q:Q false h):Wp c E A (isTrue (.BoolOp .Or [] pos) env whole) Q h:=.mk fun tk=>isTrue_or_nil ⟨h,tk,rfl,q⟩
theorem bg3{b:Bool}{Q:Bool->Heap->Prop}(q:Q b h):Wp c E A (truthy (.bool b)) Q h:=.mk fun tk=>wpAny_truthy_bool ⟨h,tk,rfl,q⟩
theorem a94{op:CmpOp}{whole:Sem Value}{Q:Bool->Heap->Prop}
  (H:Wp c E A (eval a env) (Ktc c E (op::op'::ops) pos A (eval b env::eval d env::evalEach rs env) Q) h)
  (hm:autoParam (lastMarks (op::op'::ops) (b::d::rs)=false) aU):Wp c E A (isTrue (.Compare a (op::op'::ops) (b::d::rs) pos) env whole) Q h:=.mk fun tk=>isTrue_chain (H.nest tk) hm
theorem dj7{op:CmpOp}{whole:Sem Value}{Q:Bool->Heap->Prop}(H:Wp c E A (eval a env) (Ktc c E [op,op'] pos A [eval b env,eval d env] Q) h)
  (hm:autoParam (lastMarks [op,op'] [b,d]=false) aU):Wp c E A (isTrue (.Compare a [op,op'] [b,d] pos) env whole) Q h:=a94 H hm
theorem dj6{op:CmpOp}{whole:Sem Value}{Q:Bool->Heap->Prop}(H:Wp c E A (eval a env) (Ktc c E [op,op',op''] pos A [eval b env,eval d env,eval e env] Q) h)
  (hm:autoParam (lastMarks [op,op',op''] [b,d,e]=false) aU):Wp c E A (isTrue (.Compare a [op,op',op''] [b,d,e] pos) env whole) Q h:=a94 H hm
theorem dn6{op:CmpOp}{x:Value}{r r':Sem Value}{rs:List (Sem Value)}{Q:Bool->Heap->Prop}
  (H:Wp c E A r (Kl1 c E op (op'::ops) pos A (r'::rs) x Q) h):Wp c E A (testChain pos x (op::op'::ops) (r::r'::rs)) Q h:=.mk fun tk =>
 test_link (H.on tk fun y h2 t2 k=>by
  refine k.on t2 fun r h3 t3 k=>?_;exact Wp.ite k (fun h' t' k=>k.1 t') (fun h' t' k=>⟨h',t',rfl,k⟩) (fun e h' t' k=>⟨h',t',rfl,k⟩) t3)
theorem dn7{op:CmpOp}{x:Value}{r:Sem Value}{Q:Bool->Heap->Prop}
  (H:Wp c E A r (Kc2 c E op A x (Ktr c E A Q)) h):Wp c E A (testChain pos x [op] [r]) Q h:=.mk fun tk =>
 test_last (H.on tk fun y h2 t2 k=>k.nest t2)
end
section
variable {x y:Int} {t u:Tok}
mutual
theorem dt1{Q:VP}(q:∀ t,Q (.int (x+y) t) h):Wp c E A (binaryOp .Add (.int x t) (.int y u)) Q h:=.mk fun tk=>add_int ⟨h,(_,_),rfl,q _⟩
theorem ds8{Q:VP}(q:∀ t,Q (.int (x-y) t) h):Wp c E A (binaryOp .Sub (.int x t) (.int y u)) Q h:=.mk fun tk=>sub_int ⟨h,(_,_),rfl,q _⟩
theorem ai8{Q:VP}(q:∀ t,Q (.int (x*y) t) h)(ok:autoParam (IntMulOk x y) aW):Wp c E A (binaryOp .Mult (.int x t) (.int y u)) Q h:=.mk fun tk=>mul_int ⟨h,(_,_),rfl,q _⟩ ok
theorem ag3{Q:VP}(q:∀ t,Q (.int (Int.fdiv x y) t) h)(hy:autoParam (y≠0) aD)(hp:autoParam (y.natAbs<1073741824) aD):Wp c E A (binaryOp .FloorDiv (.int x t) (.int y u)) Q h:=.mk fun tk=>floordiv_int hy ⟨h,(_,_),rfl,q _⟩ (.inl (PyProof.noPylong_small hp))
theorem a15{Q:VP}(q:∀ t,Q (.int (Int.fmod x y) t) h)(hy:autoParam (y≠0) aD):Wp c E A (binaryOp .Mod (.int x t) (.int y u)) Q h:=.mk fun tk=>mod_int' hy ⟨h,(_,_),rfl,q _⟩
theorem dt0{Q:VP}(q:∀ t,Q (.int (-x) t) h):Wp c E A (unaryOp .USub (.int x t)) Q h:=.mk fun tk=>neg_int ⟨h,(_,_),rfl,q _⟩
theorem du0{Q:VP}(q:Q (.bool (decide (x=y))) h):Wp c E A (compareOp .Eq (.int x t) (.int y u)) Q h:=.mk fun tk=>eq_int ⟨h,(_,_),rfl,q⟩
theorem dt5{Q:VP}(q:Q (.bool (x != y)) h):Wp c E A (compareOp .NotEq (.int x t) (.int y u)) Q h:=.mk fun tk=>ne_int ⟨h,(_,_),rfl,q⟩
theorem dt6{Q:VP}(q:Q (.bool (decide (x<y))) h):Wp c E A (compareOp .Lt (.int x t) (.int y u)) Q h:=.mk fun tk=>lt_int ⟨h,(_,_),rfl,q⟩
theorem dt7{Q:VP}(q:Q (.bool (decide (x<=y))) h):Wp c E A (compareOp .LtE (.int x t) (.int y u)) Q h:=.mk fun tk=>le_int ⟨h,(_,_),rfl,q⟩
theorem dt8{Q:VP}(q:Q (.bool (decide (x>y))) h):Wp c E A (compareOp .Gt (.int x t) (.int y u)) Q h:=.mk fun tk=>gt_int ⟨h,(_,_),rfl,q⟩
theorem dt9{Q:VP}(q:Q (.bool (decide (x≥y))) h):Wp c E A (compareOp .GtE (.int x t) (.int y u)) Q h:=.mk fun tk=>ge_int ⟨h,(_,_),rfl,q⟩
end
end
end
mutual
structure Ar(A:Around)(d:Nat):Prop where
 handled:A.handled=none
 depth:A.depth+d<900
 units:A.units+8*d<9000
theorem Ar.le{A:Around}{d e:Nat}(a:Ar A d)(h:autoParam (e<=d) aD):Ar A e:=⟨a.handled,by have:=a.depth; exact cn7 h this,by have:=a.units; exact cn6 h this⟩
theorem Ar.deeper{A:Around}{d:Nat}{env:Env}(a:Ar A (d+1)):Ar (A.deeper env) d :=
 ⟨a.handled,by have:=a.depth; show A.depth+1+d<900; exact cn5 this,by have:=a.units; show A.units+3+8*d<9000; exact cn4 this⟩
def Ct(c:Cx)(d:Nat)(f:Value)(args:List Value)(h:Heap)(Post:VP):Prop :=
 ∀ A,Ar A d->Wp c (fun Z Z=>False) A (call f args) (fun v h'=>bU h h'/\Post v h') h
end
section
variable {E:VP} {gs ns:List Str} {pos:Pos} {q name qual:Str} {sc scope:Scope} {params:Arguments} {body:List Stmt} {A:Around} {env:Env} {h:Heap}
mutual
def aj9(Q:VP):FP:=fun fl h'=>Q (match fl with|.ret v=>v|_=>.none) h'
noncomputable def dK(sc:Scope)(gs ns:List Str):Bool:=decide ns.Nodup&&ns.all (fun x=>sc.names.lookup x==some .local&&!(x==("__debug__" : Str)))&&gs.all (fun x=>sc.names.lookup x==some .globalImplicit&&!(x==("__debug__" : Str))&&!(x==("__name__" : Str)))
theorem Fn.of{L f:Addr}{cd:Value}{gs ns:List Str}(e:dK sc gs ns=true):Fn (ce q sc f cd L) gs ns:=by
 unfold dK at e;simp only[jC,decide_eq_true_eq,List.all_eq_true,beq_iff_eq,Bool.not_eq_true',beq_eq_false_iff_ne] at e;obtain⟨⟨h1,h2⟩,h3⟩:=e;exact⟨h1,fun x hx=>(h2 x hx).1,fun x hx=>(h3 x hx).1.1,fun x hx=>beq_eq_false_iff_ne.mpr (h2 x hx).2,fun x hx=>⟨beq_eq_false_iff_ne.mpr (h3 x hx).1.2,(h3 x hx).2⟩⟩
noncomputable def bl4:{ k:FuncData->List Value->Option (Array Value)->Sem (List (Str×Value)) // ∀ fd pos,bindArgs fd ⟨pos,[]⟩=seqItems? fd.defaults >>= k fd pos }:=⟨_,fun Z Z=>rfl⟩
theorem bZ{s:Shared}{K:Frag}{fd:FuncData}{vs:List Value}{binds:List (Str×Value)}{T:Addr}{o:Obj}{items:Array Value}{n:Nat}(X:K.In s.heap)(h1:fd.defaults=.ref T)(h2:K.lookup T=some o)(h3:o.data=.seq items n)
  (h4:bl4.1 fd vs (some items)=pure binds):BindsTo s fd ⟨vs,[]⟩ binds:=binds_K X h1 h2 h3 (bl4.2 fd vs) h4
theorem at3{d:Nat}{f:Addr}{args:List Value}{dV kV doc pm cdv ct oc:Value}{an od:Option Addr}{osl:Array (Option Value)}
  {binds:List (Str×Value)} {gs ns rest:List Str} {vs:LO} {V:Heap} {lA:ac} {Q:VP} (ar:Ar A (d+1))
  (gd:Gd c V) (tab:cw h) (st:V.StaysIn h) (no:V.get? ag=none) (sz:V.objs.size<=h.objs.size) (oA:∀ p∈lA,h.get? p.1=some p.2/\p.1≠ag/\V.get? p.1=none) (dA:bn lA)
  (hl:(Mine.hd.heap_39 c.w.params).lookup f=some ⟨oc,od,.func (fnOf name qual params body scope dV kV doc pm an cdv ct),osl⟩) (hcd:codeIn (Mine.hd.heap_39 c.w.params) cdv qual=true)
  (hb:∀ s:Shared,(Mine.hd.heap_39 c.w.params).In s.heap->BindsTo s (fnOf name qual params body scope dV kV doc pm an cdv ct) ⟨args,[]⟩ binds)
  (hns:ns=binds.map (·.1)++rest) (hvs:vs=binds.map (fun b=>some b.2)++rest.map fun Z=>none) (fn:dK scope gs ns=true)
  (W:∀ A L O,Ar A d->h.objs.size<=L->let env:=ce qual scope f cdv L; let w:=vs; Fs c gs ns env V [] w lA O->∀ R,eg (aj9 Q) R->Wp c (fun Z Z=>False) A (execs body env) R O)
  (hco:scope.isCoroutine=false) (hgen:scope.isGenerator=false) (hk:scope.kind=.function) (hcell:scope.names.all (fun x=>x.2 != .cell)=true):Cp c A (.call (.ref f) ⟨args,[]⟩) (fun r h'=>∃ v,r=.ok (.ret v)/\Q v h') h:=by
 refine .mk fun tk=>?_;subst hns hvs;have X:c.K.In h:=gd.X.keeps st;obtain⟨mean,mg,mb,T⟩:=gd.T;have hcl:∀ x∈scope.names,x.2≠.cell:=fun x hx=>bne_iff_ne.mp (List.all_eq_true.mp hcell x hx);have hFn:Fn (ce qual scope f cdv h.objs.size) gs (binds.map (·.1)++rest):=Fn.of fn;have hloc:∀ x∈binds,scope.names.lookup x.1=some .local:=fun x hx=>by
  have:=hFn.loc x.1 (ji _ (List.mem_map_of_mem hx));exact this
 refine(codeAny_call_def (s:=c.at h tk) (fd:=fnOf name qual params body scope dV kV doc pm an cdv ct) (body:=body) (binds:=binds) (by have:=ar.depth; show A.depth<1000; exact bb0 this)
  (X _ _ hl) rfl (T.nolimit.keeps st) (codeRec_of X hcd) rfl (hb (c.at h tk) X) hcl hloc (fun O hns hkB=>?_) hco hgen hk)
 have S:Fs c gs (binds.map (·.1)++rest) (ce qual scope f cdv h.objs.size) V [] (binds.map (fun b=>some b.2)++rest.map fun Z=>none) lA O :=
  {fr:=⟨by rw[<- aj5 rest binds hFn.nd]; exact hns,fun b o e=>hkB b o (st b o e),sz⟩
   own:=fun p hp=>hkB _ _ (oA p hp).1
   ord:=dA
   ap:=fun p hp=>⟨jv (jw (oA p hp).1),(oA p hp).2.1,(oA p hp).2.2⟩
   tab:=tab.mono fun Z Z Z e=>hkB _ _ e
   lt:=by obtain⟨Z,e,Z,Z⟩:=tab; exact jw e
   no:=no
   gd:=gd
   fn:=hFn
   pl:=⟨hk,rfl,rfl⟩
   fix:=fun p hp=>absurd hp jm
   off:=fun p hp=>absurd hp jm }
 refine jd ((W _ _ O (ar.deeper (env:=ce qual scope f cdv h.objs.size)) (Nat.le_refl _) S _ .rfl).run (tk.1+binds.length,tk.2)) (fun fl s ⟨h',t',e,q⟩=>?_) (fun e s zpa=>by obtain⟨h',t',Z,q⟩:=zpa; exact q.elim);subst e;exact⟨h',t',rfl,_,rfl,q⟩
theorem Cp.call{f:Value}{args:List Value}{Q:VP}(H:Cp c A (.call f ⟨args,[]⟩) (fun r h'=>∃ v,r=.ok (.ret v)/\Q v h') h):Wp c E A (call f args) Q h:=.mk fun tk =>
 wpAny_call (codeAny_mono (H.run tk) fun r s zpa=>by obtain⟨h',t',e,v,hr,q⟩:=zpa; subst hr; exact⟨h',t',e,q⟩)
theorem al{d:Nat}{f:Addr}{args:List Value}{dV kV doc pm cdv ct oc:Value}{an od:Option Addr}{osl:Array (Option Value)}
  {binds:List (Str×Value)} {gs ns rest:List Str} {Post:VP} {vs:LO} (G:ak c h)
  (hl:(Mine.hd.heap_39 c.w.params).lookup f=some ⟨oc,od,.func (fnOf name qual params body scope dV kV doc pm an cdv ct),osl⟩) (hcd:codeIn (Mine.hd.heap_39 c.w.params) cdv qual=true)
  (hb:∀ s:Shared,(Mine.hd.heap_39 c.w.params).In s.heap->BindsTo s (fnOf name qual params body scope dV kV doc pm an cdv ct) ⟨args,[]⟩ binds)
  (hns:ns=binds.map (·.1)++rest) (hvs:vs=binds.map (fun b=>some b.2)++rest.map fun Z=>none) (fn:dK scope gs ns=true)
  (W:∀ A L O,Ar A d->h.objs.size<=L->let env:=ce qual scope f cdv L; let w:=vs; Fs c gs ns env (h.hide ag) [] w [] O ->
   ∀ R,eg (aj9 fun v h'=>bU h h'/\Post v h') R->Wp c (fun Z Z=>False) A (execs body env) R O)
  (hco:autoParam (scope.isCoroutine=false) aU) (hgen:autoParam (scope.isGenerator=false) aU) (hk:autoParam (scope.kind=.function) aU)
  (hcell:autoParam (scope.names.all (fun x=>x.2 != .cell)=true) aU):Ct c (d+1) (.ref f) args h Post:=fun Z ar =>
 Cp.call (at3 ar G.gd G.tab (ae8 h ag) (Heap.hide_self h ag) (jB (Heap.hide_size h ag)) (fun p hp=>absurd hp jm) trivial hl hcd hb hns hvs fn W hco hgen hk hcell)
theorem Fs.kept{gs ns:List Str}{fx:ac}{vs:LO}{l:ac}{h':Heap}(S:Fs c gs ns env (h.hide ag) fx vs l h')(hL:h.objs.size<=env.locals):bU h h' :=
 ⟨S.fr.keep,S.tab,jI (ju hL S.fr.ns.lt)⟩
end
end
section
variable {E:VP} {gs ns:List Str} {pos:Pos} {x name:Str} {func e o:Expr} {args rest elts:List Expr} {id T:String} {apos p:Pos} {st:Stmt} {A:Around} {env:Env} {V:Heap} {fx l l':ac} {vs:LO} {h:Heap}
mutual
theorem dk0{v:Value}{Q:FP}(k:let w:=vs'; ∀ h',Fs c gs ns env V fx w l h'->Q .next h')(S:autoParam (Fs c gs ns env V fx vs l h) aA)(p:autoParam (dr x v ns vs vs') aP):Wp c E A (storeName env x v) (Ku Q) h:=bx2 k S p
theorem Fs.kin(S:Fs c gs ns env V fx vs l h):c.K.In h:=S.gd.X.keeps S.stays
theorem do5{p:Prop}(k:p)(S:autoParam (Fs c gs ns env V fx vs l h) aA):c.K.In h/\p:=⟨S.kin,k⟩
theorem ba{d e:Nat}{f:Value}{args:List Value}{Post:VP}{Q:VP}(S:Fs c gs ns env V fx vs l h)(ct:Ct c d f args h Post)(ar:Ar A e)
  (k:∀ v h',Fs c gs ns env V fx vs l h'->bU h h'->Post v h'->Q v h') (hd:autoParam (d<=e) aD):Wp c E A (call f args) Q h :=
 (ct A (ar.le hd)).conseq fun v h' zpa=>by obtain⟨k1,k2⟩:=zpa; exact k v h' (S.after k1) k1 k2
theorem bq{d e:Nat}{f w:Value}{args:List Value}{Q:VP}(S:Fs c gs ns env V fx vs l h)(ct:Ct c d f args h fun v Z=>v=w)(ar:Ar A e)
  (k:∀ h',Fs c gs ns env V fx vs l h'->bU h h'->Q w h') (hd:autoParam (d<=e) aD):Wp c E A (call f args) Q h:=ba S ct ar (fun Z h' S k1 e=>e▸k h' S k1) hd
theorem ch{τ:Type}{d e:Nat}{f:Value}{w:τ->Value}{args:List Value}{Q:VP}(S:Fs c gs ns env V fx vs l h)(ct:Ct c d f args h fun v Z=>∃ t,v=w t)(ar:Ar A e)
  (k:∀ t h',Fs c gs ns env V fx vs l h'->bU h h'->Q (w t) h') (hd:autoParam (d<=e) aD):Wp c E A (call f args) Q h:=ba S ct ar (fun Z h' S k1 zpa=>by obtain⟨t,e⟩:=zpa; exact e▸k t h' S k1) hd
theorem cQ{τ:Type}{d e:Nat}{f:Value}{w:τ->Value}{P:τ->Heap->Prop}{args:List Value}{Q:VP}(S:Fs c gs ns env V fx vs l h)(ct:Ct c d f args h fun v h'=>∃ t,v=w t/\P t h')(ar:Ar A e)
  (k:∀ t h',Fs c gs ns env V fx vs l h'->bU h h'->P t h'->Q (w t) h') (hd:autoParam (d<=e) aD):Wp c E A (call f args) Q h:=ba S ct ar (fun Z h' S k1 zpa=>by obtain⟨t,e,p⟩:=zpa; exact e▸k t h' S k1 p) hd
theorem dp9{Q:VP}(H:Wp c E A (eval func env) (Kca c E args pos A env Q) h)
  (he:autoParam (eval (.Call func args [] pos) env=(do callWith pos (<- eval func env) [] (backTo pos (starEach args env)) (backToKw pos (keywordEach [] env)))) aU):Wp c E A (eval (.Call func args [] pos) env) Q h:=.mk fun tk=>Call_ (H.nest tk) he
theorem ci3{Q:List Value->Heap->Prop}(q:Q [] h):Wp c E A (spliced (backTo pos (starEach [] env))) Q h:=.mk fun tk=>spliced_none ⟨h,tk,rfl,q⟩
theorem a74{Q:List Value->Heap->Prop}(H:Wp c E A (eval e env) (Kar c E rest pos A env Q) h)
  (he:autoParam (starEach (e::rest) env=(false,eval e env)::starEach rest env) aU):Wp c E A (spliced (backTo pos (starEach (e::rest) env))) Q h:=.mk fun tk =>
 spliced_more (H.on tk fun v h1 t1 k=>k.1 t1) he
theorem dn4{x:Str}{v:Value}{Q:List Value->Heap->Prop}(q:Q [v] h)(S:autoParam (Fs c gs ns env V fx vs l h) aA)(e1:autoParam (aj4 ns vs x=some v) aU):Wp c E A (spliced (backTo pos (starEach [.Name x p] env))) Q h:=a74 (av6 (ci3 q) S e1) rfl
theorem dn3{x y:Str}{q:Pos}{v w:Value}{Q:List Value->Heap->Prop}(k:Q [v,w] h)(S:autoParam (Fs c gs ns env V fx vs l h) aA)(e1:autoParam (aj4 ns vs x=some v) aU)(e2:autoParam (aj4 ns vs y=some w) aU):Wp c E A (spliced (backTo pos (starEach [.Name x p,.Name y q] env))) Q h:=a74 (av6 (dn4 k S e2) S e1) rfl
theorem du1{x y z:Str}{q r:Pos}{u v w:Value}{Q:List Value->Heap->Prop}(k:Q [u,v,w] h)(S:autoParam (Fs c gs ns env V fx vs l h) aA)(e1:autoParam (aj4 ns vs x=some u) aU)(e2:autoParam (aj4 ns vs y=some v) aU)(e3:autoParam (aj4 ns vs z=some w) aU):Wp c E A (spliced (backTo pos (starEach [.Name x p,.Name y q,.Name z r] env))) Q h:=a74 (av6 (dn3 k S e2 e3) S e1) rfl
theorem dr3{f:Addr}{first:List Value}{Q:VP}
  (H:Wp c E A (spliced (backTo pos (starEach (e::rest) env))) (Krf c E A f first Q) h) (hk:keepIn (Mine.hd.heap_39 c.w.params) (.ref f)=true:=by k_is) (X:autoParam (c.K.In h) aK)
  (he:autoParam (starEach (e::rest) env=(false,eval e env)::starEach rest env) aU) (hn:autoParam ((backTo pos (starEach rest env)).any (·.1)=false) aU) :
  Wp c E A (callWith pos (.ref f) first (backTo pos (starEach (e::rest) env)) []) Q h:=.mk fun tk =>
 callWith_K X hk (jd (H.1 tk) (fun v s zpa=>by obtain⟨h1,t1,e,k1,k2⟩:=zpa; subst e; exact⟨k1,k2.1 t1⟩) fun Z Z x=>x) he hn
theorem do7{f:Addr}{first:List Value}{Q:VP}(H:Wp c E A (call (.ref f) (first++[])) Q h)(hk:keepIn (Mine.hd.heap_39 c.w.params) (.ref f)=true:=by k_is)
  (X:autoParam (c.K.In h) aK):Wp c E A (callWith pos (.ref f) first (backTo pos (starEach [] env)) []) Q h:=.mk fun tk=>callWith_K0 (s:=c.at h tk) X hk (H.1 tk)
theorem dr4{first:List Value}{Q:VP}(H:Wp c E A (spliced (backTo pos (starEach (e::rest) env))) (Kbl c E id A first Q) h)
  (he:autoParam (starEach (e::rest) env=(false,eval e env)::starEach rest env) aU) (hn:autoParam ((backTo pos (starEach rest env)).any (·.1)=false) aU) :
  Wp c E A (callWith pos (.builtin id) first (backTo pos (starEach (e::rest) env)) []) Q h:=.mk fun tk=>PyProof.Rows.callWith_method1 (H.nest tk) he hn
theorem do8{first:List Value}{Q:VP}(H:Wp c E A (call (.builtin id) first) Q h) :
  Wp c E A (callWith pos (.builtin id) first (backTo pos (starEach [] env)) []) Q h:=.mk fun tk=>PyProof.Rows.callWith_method0 (H.1 tk)
theorem do6{Q:VP}(H:Wp c E A (spliced (backTo pos (starEach (e::rest) env))) (Kty c E T A Q) h)
  (he:autoParam (starEach (e::rest) env=(false,eval e env)::starEach rest env) aU) (hn:autoParam ((backTo pos (starEach rest env)).any (·.1)=false) aU) :
  Wp c E A (callWith pos (.type T) [] (backTo pos (starEach (e::rest) env)) []) Q h:=.mk fun tk=>PyProof.Rows.callWith_type1 (H.nest tk) he hn
theorem dp4{pl:Sem Bool}{Q:VP}
  (H:Wp c E A (eval o env) (Km1 c E name args pos A env pl Q) h)
  (he:eval (.Call (.Attribute o name apos) args [] pos) env=(do
   let ov <- eval o env
   standAt apos.atName
   let (f,first) <- PySem.holding [ov] (getMethod ov name pl)
   callWith pos f first (backTo pos (starEach args env)) (backToKw pos (keywordEach [] env))):=by walk_at"u"):Wp c E A (eval (.Call (.Attribute o name apos) args [] pos) env) Q h:=.mk fun tk =>
 methodCall_KW (H.on tk fun v h1 t1 k=>k.nest t1) he
theorem dp5{Q:VP}(H:Wp c E A (spliced (backTo pos (starEach elts env))) (Kli c E A Q) h):Wp c E A (eval (.List elts pos) env) Q h:=.mk fun tk=>List_ (H.nest tk)
theorem dn9{n:Nat}{Q:VP}(H:Wp c E A (spliced (backTo pos (starEach elts env))) (Ktu c E A Q) h):Wp c E A (eval (.Tuple elts n pos) env) Q h:=.mk fun tk=>Tuple_ (H.nest tk)
noncomputable abbrev ai0(vs:List Value):Obj:={ cls:=.type "tuple", data:=.seq vs.toArray }
theorem ad{xs:List Value}{Q:VP}(S:Fs c gs ns env V fx vs l h)(hsz:xs.length<=sizeLine)(k:∀ a h',h.objs.size<=a->bU h h'->let q9:=((a,listOf xs.toArray 0)::l); Fs c gs ns env V fx vs q9 h'->Q (.ref a) h'):Wp c E A (newList xs) Q h:=.mk fun tk =>
 wpAny_newList ⟨_,(_,_),rfl,k _ _ (Nat.le_refl _) ⟨fun b o e=>jp _ (Heap.of_hide e),(S.push (listOf xs.toArray 0)).tab,by rw[jH]; exact Nat.le_succ _⟩ (S.push (listOf xs.toArray 0))⟩ hsz
theorem a99{xs:List Value}{Q:VP}(k:∀ a h',h.objs.size<=a->bU h h'->let q9:=((a,ai0 xs)::l); Fs c gs ns env V fx vs q9 h'->Q (.ref a) h')(S:autoParam (Fs c gs ns env V fx vs l h) aA)(hsz:autoParam (xs.length<=sizeLine) aZ):Wp c E A (newTuple xs) Q h:=.mk fun tk =>
 wpAny_newTuple ⟨_,(_,_),rfl,k _ _ (Nat.le_refl _) ⟨fun b o e=>jp _ (Heap.of_hide e),(S.push (ai0 xs)).tab,by rw[jH]; exact Nat.le_succ _⟩ (S.push (ai0 xs))⟩ hsz
theorem dl3{a:Addr}{its:Array Value}{n:Nat}{pl:Sem Bool}{Q:Value×List Value->Heap->Prop}(q:Q (.builtin "list.append", [.ref a]) h) (ha:autoParam (h.get? a=some (listOf its n)) aM):Wp c E A (getMethod (.ref a) (PySem.Str.ofString "append") pl) Q h:=.mk fun tk =>
 getMethod_list_append (s:=c.at h tk) ha rfl rfl ⟨h,tk,rfl,q⟩
theorem aj{a:Addr}{its:List Value}{n:Nat}{x:Value}{Q:VP}(S:Fs c gs ns env V fx vs l h)(u:Up a (listOf its.toArray n) (listOf (its++[x]).toArray (n+1)) l l')(hsz:its.length<=1000000)
  (k:let q9:=l'; ∀ h',Fs c gs ns env V fx vs q9 h'->Q .none h'):Wp c E A (call (.builtin "list.append") [.ref a,x]) Q h:=.mk fun tk =>
 append_at (s:=c.at h tk) (hsz:=by rw[List.size_toArray]; exact jr hsz (by decide)) (S.own _ u.mem) fun h' hs ho=>⟨h',(_,_),rfl,k h' (S.update (ai.seq rfl) u (by rw[ho,List.push_toArray]) fun b o hb e=>(hs.2 b hb).trans e)⟩
theorem bd{n:Nat}(h:n<=1000000):n<=sizeLine:=jr h (by decide)
theorem Fs.get1{a:Addr}{o:Obj}(S:Fs c gs ns env V fx vs l h)(x:(a,o)∈l):h.get? a=some o:=S.own _ x
theorem aq{a:Addr}{its:Array Value}{n:Nat}(e:h.get? a=some (listOf its n)):h.IsList a its:=⟨_,e,rfl,n,rfl⟩
theorem bQ{a:Addr}{its:List Value}{n:Nat}{Q:VP}(ha:h.get? a=some (listOf its.toArray n))(hf:its.length<2 ^ 60)(q:∀ t,Q (.int its.length t) h):Wp c E A (call (.builtin "len") [.ref a]) Q h:=.mk fun tk =>
 len_list (s:=c.at h tk) (aq ha) (by simp; exact b30 hf) ⟨h,(_,_),rfl,q _⟩
end
end
section
variable {E:VP} {gs ns:List Str} {pos:Pos} {st:Stmt} {rest body:List Stmt} {e test target iter:Expr} {elts:List Expr} {tp p:Pos} {x:Str} {A:Around} {env:Env} {V:Heap} {fx:ac} {l:ac} {vs:LO} {h:Heap}
mutual
abbrev Fs.like(_S:Fs c gs ns env V fx vs l h)(vs':LO)(l':ac)(h':Heap):Prop:=Fs c gs ns env V fx vs' l' h'
abbrev Fs.now(_S:Fs c gs ns env V fx vs l h)(h':Heap):Prop:=h=h'
theorem Fs.new{g:Heap}{a:Addr}(S:Fs c gs ns env V fx vs l h)(hL:g.objs.size<=env.locals)(ha:h.objs.size<=a):g.objs.size<=a:=jr hL (jr (jI S.fr.ns.lt) ha)
theorem br{Q:FP}(M:Heap->Prop)(H1:ay1 (fun f h=>f=.next/\M h) fun R=>Wp c E A (exec st env) R h)(H2:∀ h,M h->Wp c E A (execs rest env) Q h):Wp c E A (execs (st::rest) env) Q h :=
 cT ((H1 _ .rfl).mono (fun f h zpa=>by obtain⟨e,m⟩:=zpa; subst e; exact H2 h m) fun Z Z x=>x)
theorem c9{Q:VP}(M:VP)(H1:ay1 M fun R=>Wp c E A (eval e env) R h)(H2:∀ v h,M v h->Q v h):Wp c E A (eval e env) Q h:=(H1 _ .rfl).mono H2 fun Z Z x=>x
def cz(N:Heap->Prop)(Q:FP)(f:Flow)(h:Heap):Prop:=match f with
 | .next|.cont=>N h
 | .brk=>Q .next h
 | .ret v=>Q (.ret v) h
theorem cz.next{N:Heap->Prop}{Q:FP}(n:N h):cz N Q .next h:=n
theorem cz.cont{N:Heap->Prop}{Q:FP}(n:N h):cz N Q .cont h:=n
theorem cz.ret{N:Heap->Prop}{Q:FP}{v:Value}(q:Q (.ret v) h):cz N Q (.ret v) h:=q
def bu0(I:Nat->Heap->Prop)(Q:FP)(n:Nat):FP:=cz (fun hq3=>∃ m,m<n/\I m hq3) Q
theorem dq8{I:Nat->Heap->Prop}{Q:FP}{T:Nat->FP}{n:Nat}{f:Flow}(p:cz (fun hq3=>∃ m,m<n/\I m hq3) Q f h)(K:autoParam (a77 (bu0 I Q) T) aA):T n f h:=K.run _ _ _ p
theorem aa2{Q:FP}(I:Nat->Heap->Prop)(n:Nat)(h0:I n h)
  (turn:∀ T,a77 (bu0 I Q) T->∀ n h,I n h->Wp c (fun Z Z=>False) A (isTrue test env (eval test env)) (Kwh c (fun Z Z=>False) body A env (T n) Q) h) :
  Wp c E A (exec (.While test body [] pos) env) Q h:=.mk fun tk=>by
 refine wpAny_While (codeAny_whileLoop (fun n s=>av fun h' t'=>s=c.at h' t'/\I n h') ?_ n ⟨h,tk,rfl,h0⟩);rintro n s ⟨h',t',rfl,hI⟩;refine jd ((turn _ .rfl n h' hI).run t') (fun b s zpa=>?_) (fun e s zpa=>by obtain⟨h1,t1,Z,k⟩:=zpa; exact k.elim);obtain⟨h1,t1,e,k⟩:=zpa;subst e
 cases b with
 | false=>simp only[Bool.false_eq_true,if_false]; exact wpAny_execs_nil ⟨h1,t1,rfl,k.2 rfl⟩
 | true =>
  simp only[if_true];refine jd ((k.1 rfl).run t1) (fun f s zpa=>?_) (fun e s zpa=>by obtain⟨h1,t1,Z,k⟩:=zpa; exact k.elim);obtain⟨h2,t2,e,k⟩:=zpa;subst e
  cases f with
  | next=>obtain⟨m,hm,hi⟩:=k; exact⟨m,hm,h2,t2,rfl,hi⟩
  | cont=>obtain⟨m,hm,hi⟩:=k; exact⟨m,hm,h2,t2,rfl,hi⟩
  | brk=>exact⟨h2,t2,rfl,k⟩
  | ret v=>exact⟨h2,t2,rfl,k⟩
def bu1(c:Cx)(target:Expr)(body:List Stmt)(A:Around)(env:Env)(Q:FP)(it:Value)(h:Heap):Prop :=
 Cp c A (.forLoop target it body [] env) (fun r h'=>∃ f,r=.ok f/\Q f h') h
theorem ds5{Q:FP}(H:Wp c E A (eval iter env) (Kpi c E A (bu1 c target body A env Q)) h)
  (hs:autoParam (∀ x,foldedSetIterable iter env x=Pure.pure x) aI):Wp c E A (exec (.For target iter body [] pos) env) Q h:=.mk fun tk=>by
 refine wpAny_For (jd (H.1 tk) (fun v s zpa=>?_) fun Z Z x=>x) hs;obtain⟨h1,t1,e,k⟩:=zpa;subst e;refine k.on t1 fun it h2 t2 k=>?_;refine codeAny_mono (k.1 t2) fun r s zpa=>?_;obtain⟨h3,t3,e,f,hr,q⟩:=zpa;subst e hr;exact⟨h3,t3,rfl,q⟩
theorem Fs.addFix{own:ac}(S:Fs c gs ns env V fx vs l h)(h1:∀ p∈own,h.get? p.1=some p.2)(h2:∀ p∈own,co env V p.1/\∀ q∈l,p.1≠q.1):Fs c gs ns env V (own++fx) vs l h :=
 {S with fix:=fun p hp=>(jg.mp hp).elim (h1 p) (S.fix p),off:=fun p hp=>(jg.mp hp).elim (h2 p) (S.off p) }
theorem Fs.dropFix{own:ac}(S:Fs c gs ns env V (own++fx) vs l h):Fs c gs ns env V fx vs l h :=
 {S with fix:=fun p hp=>S.fix p (jh _ hp),off:=fun p hp=>S.off p (jh _ hp) }
def dR(c:Cx)(target:Expr)(A:Around)(env:Env)(V:Heap)(fx l:ac)(h:Heap)(it:Value)(n:Nat)(P:Nat->VP):Prop :=
 dU fun I fp wr Md St=>eF (it=.ref I) (KTurns c.prog c.w A target I fp wr n P Md St) (St 0 h) (∀ b∈wr,co env V b/\(∀ q∈l,q.1≠b)/\∀ p∈fx,p.1≠b) (∀ i h,St i h->∀ b∈wr,∃ o,h.get? b=some o/\¬ ai o) (∀ b∈fp,b∈wr\/(∃ o,V.get? b=some o)\/∃ o,(b,o)∈fx) (∀ i (s:Shared) (Q E:Value->Shared->Prop),St i s.heap->Q (.ref I) s->wpAny (model c.prog c.w) A (pyIter (.ref I)) Q E s)
theorem KTurns.wider{prog:Program}{w:World}{A:Around}{I:Addr}{fp wr wr':List Addr}{n:Nat}{P Md:Nat->VP}{St:Nat->Heap->Prop}(W:KTurns prog w A target I fp wr n P Md St)(h1:∀ b∈wr,b∈wr')(h2:∀ b∈wr',b∈fp) :
  KTurns prog w A target I fp wr' n P Md St where
 sub:=h2
 frame:=W.frame
 item:=fun i s Q E hi st hQ=>W.item i s Q E hi st fun v h' tk m k=>hQ v h' tk m fun b o hb e=>k b o (fun q=>hb (h1 b q)) e
 go:=fun i v s Q E m hQ=>W.go i v s Q E m fun h' p st k=>hQ h' p st fun b o hb e=>k b o (fun q=>hb (h1 b q)) e
 done:=fun s Q E st hQ=>W.done s Q E st fun h' tk k=>hQ h' tk fun b o hb e=>k b o (fun q=>hb (h1 b q)) e
theorem noc{wr:List Addr}{St:Nat->Heap->Prop}(hx:∀ i h,St i h->∀ b∈wr,∃ o,h.get? b=some o/\¬ ai o){i:Nat}{h:Heap}(st:St i h):∀ b∈wr,∀ o,h.get? b=some o->¬ ai o:=fun b hb o e=>by
 obtain⟨o',e1,e2⟩:=hx i h st b hb;rw[e] at e1; cases e1; exact e2
theorem bj1{h:Heap}{b:Addr}(hb:h.objs.size<=b):∀ o,h.get? b=some o->¬ ai o:=fun o e=>absurd (jw e) (Nat.not_lt.mpr hb)
def bf8(c:Cx)(gs ns:List Str)(env:Env)(V:Heap)(fx:ac)(Inv:Nat->LO->ac->Prop)(Q:FP)(i:Nat)(own:ac):FP :=
 cz (fun h₂=>av fun vs l=>Inv (i+1) vs l/\Fs c gs ns env V (own++fx) vs l h₂) Q
theorem dq9{Inv:Nat->LO->ac->Prop}{Q:FP}{T:Nat->ac->FP}{i:Nat}{own:ac}{f:Flow}(p:cz (fun h₂=>av fun vs l=>Inv (i+1) vs l/\Fs c gs ns env V (own++fx) vs l h₂) Q f h)(K:autoParam (ax7 (bf8 c gs ns env V fx Inv Q) T) aA):T i own f h:=K.run _ _ _ _ p
theorem dk7{wr:List Addr}(hex:∀ b∈wr,∃ o,h.get? b=some o):∃ own:ac,(∀ p∈own,h.get? p.1=some p.2/\p.1∈wr)/\∀ b∈wr,∃ o,(b,o)∈own:=by
 induction wr with
 | nil=>exact⟨[],b7,b7⟩
 | cons b r ih =>
  obtain⟨own,h1,h2⟩:=ih fun x hx=>hex x (.tail _ hx);obtain⟨o,ho⟩:=hex b (.head _);exact⟨(b,o)::own,af ⟨ho,.head _⟩ fun p hp=>⟨(h1 p hp).1,.tail _ (h1 p hp).2⟩,af ⟨o,.head _⟩ fun x hx=>(h2 x hx).imp fun Z=>.tail _⟩
theorem a27{wr fp:List Addr}(hex:∀ b∈wr,∃ o,h.get? b=some o)(S:Fs c gs ns env V fx vs l h)(hw:∀ b∈wr,co env V b/\(∀ q∈l,q.1≠b)/\∀ p∈fx,p.1≠b)
  (hf:∀ b∈fp,b∈wr\/(∃ o,V.get? b=some o)\/∃ o,(b,o)∈fx):∃ own:ac,Fs c gs ns env V (own++fx) vs l h/\∀ vs' l' h3,Fs c gs ns env V (own++fx) vs' l' h3 ->
   (∀ b∈fp,∀ o,h.get? b=some o->h3.get? b=some o)/\∀ b∈wr,co env V b/\(∀ q∈l',q.1≠b)/\∀ p∈fx,p.1≠b:=by
 obtain⟨own,hown,hin⟩:=dk7 hex;refine⟨own,S.addFix (fun p hp=>(hown p hp).1) fun p hp=>⟨(hw _ (hown p hp).2).1,fun q hq=>((hw _ (hown p hp).2).2.1 q hq).symm⟩,fun vs' l' h3 SD=>⟨fun b hb o e=>?_,fun b hb=>?_⟩⟩
 ·refine(hf b hb).elim (fun hb=>?_) fun hb=>hb.elim (fun⟨o',ho'⟩=>?_) fun⟨o',ho'⟩=>?_
  ·obtain⟨o',ho'⟩:=hin b hb;exact cK (hown _ ho').1 e▸SD.fix _ (ji _ ho')
  ·exact cK (S.keep ho') e▸SD.keep ho'
  ·exact cK (S.fix _ ho') e▸SD.fix _ (jh _ ho')
 ·obtain⟨o',ho'⟩:=hin b hb;exact⟨(hw b hb).1,fun q hq=>((SD.off _ (ji _ ho')).2 q hq).symm,(hw b hb).2.2⟩
def LSt(c:Cx)(gs ns:List Str)(env:Env)(V:Heap)(fx:ac)(n:Nat)(wr:List Addr)(St:Nat->Heap->Prop)(Inv:Nat->LO->ac->Prop)(k:Nat)(s:Shared):Prop :=
 dU fun h' t' i vs l=>eF (s=c.at h' t') (k=n-i) (i<=n) (St i h') (Inv i vs l) (Fs c gs ns env V fx vs l h') (∀ b∈wr,co env V b/\(∀ q∈l,q.1≠b)/\∀ p∈fx,p.1≠b)
theorem ay5{n:Nat}{it:Value}{P:Nat->VP}{Q:FP}{EB:VP}{R:Result->Shared->Prop}(hE:∀ e h (tk:Tk),EB e h->notedBy (model c.prog c.w) A env (fun x s=>R (.error x) s) e (c.at h tk))
  (src:dR c target A env V fx l h it n P) (S:Fs c gs ns env V fx vs l h)
  (Inv:Nat->LO->ac->Prop) (h0:Inv 0 vs l)
  (turn:∀ T,ax7 (bf8 c gs ns env V fx Inv Q) T->∀ i v vs l h own,i<n->P i v h->Inv i vs l->Fs c gs ns env V (own++fx) vs l h ->
   Wp c EB A (assign target env v) (Kbd c EB body A env (T i own)) h)
  (hQ:∀ f h (tk:Tk),Q f h->R (.ok f) (c.at h tk)) (done:∀ vs l h,Inv n vs l->Fs c gs ns env V fx vs l h->Q .next h) (tk:Tk):codeAny (model c.prog c.w) A (.forLoop target it body [] env) R (c.at h tk):=by
 obtain⟨I,fp,wr,Md,St,rfl,W,st,hw,hx,hf,Z⟩:=src;refine codeAny_forLoop_any (LSt c gs ns env V fx n wr St Inv) (fun k s H=>?_) n ⟨h,tk,0,vs,l,rfl,rfl,Nat.zero_le _,st,h0,S,hw⟩;obtain⟨h',t',i,vs,l,rfl,rfl,hi,st,hI,S,hw⟩:=H;refine(Nat.lt_or_ge i n).elim (fun hlt=>W.item i _ _ _ hlt st fun v h'A tB hM hkA=>W.go i v _ _ _ hM fun O hP stb hkB=>?_) fun hge=>?_
 ·obtain⟨own,SC,fin⟩:=a27 (fun b hb=>(hx _ _ stb b hb).imp fun Z x=>x.1) (S.frame (fun b o hb e=>hkB b o hb (hkA b o hb e)) hw (noc hx st)) hw hf;have fin:∀ {h3} {t3:Tk},(av fun vs l=>Inv (i+1) vs l/\Fs c gs ns env V (own++fx) vs l h3)->∃ m,m<n-i/\LSt c gs ns env V fx n wr St Inv m (c.at h3 t3):=fun{h3 t3} zpa=>by obtain⟨vs',l',hI',SD⟩:=zpa; exact
   ⟨n-(i+1),by exact z11 hlt,h3,t3,i+1,vs',l',rfl,rfl,hlt,W.frame _ _ _ stb (fin _ _ _ SD).1,hI',SD.dropFix,(fin _ _ _ SD).2⟩
  refine jd ((turn _ .rfl i v vs l O own hlt hP hI SC).run (tB,t'.2)) (fun _ s ⟨h2,t2,e,k⟩=>e▸jd (k.1 t2) (fun f s ⟨h3,t3,e,k⟩=>e▸?_) (fun e s zpa=>by obtain⟨h1,t1,es,q⟩:=zpa; exact es▸hE e h1 t1 q)) (fun e s zpa=>by obtain⟨h1,t1,es,q⟩:=zpa; exact es▸hE e h1 t1 q)
  cases f with
  | next=>exact fin k
  | cont=>exact fin k
  | brk=>exact hQ _ _ _ k
  | ret v=>exact hQ _ _ _ k
 ·have hin:i=n:=Nat.le_antisymm hi hge;rw[hin] at st hI;exact W.done _ _ _ st fun O tB hkB=>wpAny_execs_nil (hQ _ _ (tB,t'.2) (done vs l O hI (S.frame hkB hw (noc hx st))))
theorem aS{n:Nat}{it:Value}{P:Nat->VP}{Q:FP}
  (src:dR c target A env V fx l h it n P) (S:Fs c gs ns env V fx vs l h)
  (Inv:Nat->LO->ac->Prop) (h0:Inv 0 vs l)
  (turn:∀ T,ax7 (bf8 c gs ns env V fx Inv Q) T->∀ i v vs l h own,i<n->P i v h->Inv i vs l->Fs c gs ns env V (own++fx) vs l h ->
   Wp c (fun Z Z=>False) A (assign target env v) (Kbd c (fun Z Z=>False) body A env (T i own)) h)
  (done:∀ vs l h,Inv n vs l->Fs c gs ns env V fx vs l h->Q .next h):bu1 c target body A env Q it h:=.mk fun tk =>
 ay5 (fun Z Z Z q=>q.elim) src S Inv h0 turn (fun Z Z Z k=>⟨_,_,rfl,_,rfl,k⟩) done tk
theorem Fs.apt(S:Fs c gs ns env V fx vs l h){a:Addr}(ha:h.objs.size<=a):co env V a/\(∀ q∈l,q.1≠a)/\∀ p∈fx,p.1≠a :=
 ⟨S.fresh ha,fun q hq=>jv (js (jw (S.own q hq)) ha),fun q hq=>jv (js (jw (S.fix q hq)) ha)⟩
theorem Fs.ext{h':Heap}(S:Fs c gs ns env V fx vs l h)(k:∀ b o,h.get? b=some o->h'.get? b=some o):Fs c gs ns env V fx vs l h' :=
 S.frame (wr:=[]) (fun b o Z e=>k b o e) (fun b hb=>absurd hb jm) fun b hb=>absurd hb jm
def In(V:Heap)(fx:ac)(a:Addr)(o:Obj):Prop:=V.get? a=some o\/(a,o)∈fx
theorem Fs.at'(S:Fs c gs ns env V fx vs l h){a:Addr}{o:Obj}(x:In V fx a o):h.get? a=some o:=x.elim S.keep (S.fix _)
theorem In.fp{a:Addr}{o:Obj}(x:In V fx a o):(∃ o,V.get? a=some o)\/∃ o,(a,o)∈fx:=x.imp (fun e=>⟨_,e⟩) fun e=>⟨_,e⟩
theorem bz3{k:Nat}{I ax:Addr}{i:Nat}(v:Value)(s:Shared){Q:Unit->Shared->Prop}{E:Value->Shared->Prop}(hi:s.heap.IsListIter I ax i)(q:Q () s):wpAny (model c.prog c.w) A (letOwnedTupleGo (.Tuple elts k tp) (.ref I) v) Q E s:=by
 cases v with
 | ref T=>exact wpAny_letOwnedTupleGo_listiter hi q
 | _=>exact jc q
theorem al5{a:Addr}{its:List Value}{k:Nat}{T:Expr->Prop}{Q:VP}(hh:A.handled=none)(S:Fs c gs ns env V fx vs l h)(ha:In V fx a (listOf its.toArray k))
  (K:∀ it h',Fs c gs ns env V fx vs l h'->(∀ target,T target->dR c target A env V fx l h' it its.length (fun i v Z=>its[i]?=some v))->Q it h')
  (hgo:∀ target,T target->∀ I ax i v (s:Shared) (Q:Unit->Shared->Prop) (E:Value->Shared->Prop),s.heap.IsListIter I ax i->Q () s->wpAny (model c.prog c.w) A (letOwnedTupleGo target (.ref I) v) Q E s):Wp c E A (pyIter (.ref a)) Q h:=.mk fun tk=>by
 have hl:h.IsList a its.toArray:=aq (n:=k) (S.at' ha);obtain⟨o,ho,Z⟩:=id hl;refine wpAny_pyIter_list (s:=c.at h tk) hl ?_;have hne:a≠h.objs.size:=jv (jw ho);have W:=Walks.list (prog:=c.prog) (w:=c.w) (A:=A) hh h.objs.size a hne its.toArray;refine⟨_,(_,_),rfl,K _ _ ((S.push { cls:=.type "list_iterator", data:=.fields #[.ref a,.int 0 0] }).drop) fun target hT=>?_⟩;have W':=KTurns.ofWalks (target:=target) W (fun i v s Q E st q=>hgo target hT _ _ _ v s Q E st.1 q);have e1:its.toArray.size=its.length:=by simp
 have e2:(fun(i:Nat) (v:Value) (_:Heap)=>its.toArray[i]?=some v)=fun i v Z=>its[i]?=some v:=by funext i v _; simp
 rw[e1,e2] at W';refine⟨_,_,_,_,_,rfl,W',⟨⟨_,jq _ rfl,rfl,rfl⟩,hl.at fun o e=>jp _ e⟩,?_,?_,?_,fun i s Q E st q=>W.self i s Q E st q⟩
 ·intro b hb;rw[je.mp hb];exact S.apt (Nat.le_refl _)
 ·intro i h' st b hb;rw[je.mp hb];obtain⟨o,e,Z,ed⟩:=st.1;exact⟨o,e,ai.fld ed (by simp)⟩
 ·intro b hb
  rcases jf.mp hb with rfl|hb
  ·exact .inl (je.mpr rfl)
  ·rw[je.mp hb];exact .inr ha.fp
theorem bp{a:Addr}{its:List Value}{k:Nat}{Q:VP}(hh:A.handled=none)(S:Fs c gs ns env V fx vs l h)(ha:In V fx a (listOf its.toArray k))
  (K:∀ it h',Fs c gs ns env V fx vs l h'->(∀ x xp,dR c (.Name x xp) A env V fx l h' it its.length (fun i v Z=>its[i]?=some v))->Q it h'):Wp c E A (pyIter (.ref a)) Q h :=
 al5 (T:=fun t=>av fun x xp=>t=.Name x xp) hh S ha (fun it h' S src=>K it h' S fun x xp=>src _ ⟨x,xp,rfl⟩) fun Z hT Z Z Z Z Z Z Z Z q=>by obtain⟨x,xp,rfl⟩:=hT; exact jc q
theorem a48{a:Addr}{its:List Value}{k:Nat}{Q:VP}(hh:A.handled=none)(S:Fs c gs ns env V fx vs l h)(ha:In V fx a (listOf its.toArray k))
  (K:∀ it h',Fs c gs ns env V fx vs l h'->(∀ elts tk tp,dR c (.Tuple elts tk tp) A env V fx l h' it its.length (fun i v Z=>its[i]?=some v))->Q it h'):Wp c E A (pyIter (.ref a)) Q h :=
 al5 (T:=fun t=>b5 fun e k p=>t=.Tuple e k p) hh S ha (fun it h' S src=>K it h' S fun e k p=>src _ ⟨e,k,p,rfl⟩) fun Z hT Z Z Z v s Z Z hi q=>by obtain⟨e,k,p,rfl⟩:=hT; exact bz3 v s hi q
theorem as6{a:Addr}{its:List Value}{k:Nat}{Q:VP}(hh:A.handled=none)(S:Fs c gs ns env V fx vs l h)(ha:In V fx a { cls:=.type "tuple", data:=.seq its.toArray k })
  (K:∀ it h',Fs c gs ns env V fx vs l h'->(∀ x xp,dR c (.Name x xp) A env V fx l h' it its.length (fun i v Z=>its[i]?=some v))->Q it h'):Wp c E A (pyIter (.ref a)) Q h:=.mk fun tk=>by
 have hl:h.IsTuple a its.toArray:=⟨_,S.at' ha,rfl,k,rfl⟩;obtain⟨o,ho,Z⟩:=id hl;refine wpAny_pyIter_tuple (s:=c.at h tk) hl ?_;have hne:a≠h.objs.size:=jv (jw ho);have W:=Walks.tuple (prog:=c.prog) (w:=c.w) (A:=A) hh h.objs.size a hne its.toArray;refine⟨_,(_,_),rfl,K _ _ ((S.push { cls:=.type "tuple_iterator", data:=.fields #[.ref a,.int 0 0] }).drop) fun x xp=>?_⟩;have W':=KTurns.ofWalks (target:=.Name x xp) W (fun i v s Q E st q=>jc q);have e1:its.toArray.size=its.length:=by simp
 have e2:(fun(i:Nat) (v:Value) (_:Heap)=>its.toArray[i]?=some v)=fun i v Z=>its[i]?=some v:=by funext i v _; simp
 rw[e1,e2] at W';refine⟨_,_,_,_,_,rfl,W',⟨⟨_,jq _ rfl,rfl,rfl⟩,hl.at fun o e=>jp _ e⟩,?_,?_,?_,fun i s Q E st q=>W.self i s Q E st q⟩
 ·intro b hb;rw[je.mp hb];exact S.apt (Nat.le_refl _)
 ·intro i h' st b hb;rw[je.mp hb];obtain⟨o,e,Z,ed⟩:=st.1;exact⟨o,e,ai.fld ed (by simp)⟩
 ·intro b hb
  rcases jf.mp hb with rfl|hb
  ·exact .inl (je.mpr rfl)
  ·rw[je.mp hb];exact .inr ha.fp
theorem dr2{v:Value}{Q:Unit->Heap->Prop}(H:Wp c E A (storeName env x v) Q h):Wp c E A (assign (.Name x p) env v) Q h:=.mk fun tk=>wpAny_assign_Name (H.1 tk)
end
end
section
variable {E:VP} {gs ns:List Str} {pos:Pos} {value slice:Expr} {T id:String} {A:Around} {env:Env} {V:Heap} {fx:ac} {l l':ac} {vs:LO} {h:Heap}
mutual
theorem dr8{Q:VP}(H:Wp c E A (eval value env) (Ks1 c E value slice A env Q) h):Wp c E A (eval (.Subscript value slice pos) env) Q h:=.mk fun tk =>
 Subscript_ (H.on tk fun v h1 t1 k=>k.nest t1)
theorem ay2{s:Shared}{o i:Value}{Q E:Value->Shared->Prop}(hT:s.TypeIs o T)(hl:typeLookup (.type T) "__getitem__" = Pure.pure (some (.builtin id))) (H:wpAny (model c.prog c.w) A (getItem o i) Q E s)
  (hs:∃ ops,subscripted slice false o i=operate ops (getItem o i)):wpAny (model c.prog c.w) A (subscriptTail value slice o i) Q E s:=by
 obtain⟨ops,hs⟩:=hs;unfold subscriptTail;refine jb ?_;rw[getitemInPython_of_ne hT.not_modules];refine jb (wpAny_specialOf hT hl ?_);have fin:wpAny (model c.prog c.w) A (subscripted slice false o i) (fun r sD=>wpAny (model c.prog c.w) A (letTemporaryGo value o r >>= fun Z=>Pure.pure r) Q E sD) E s:=by
  rw[hs];exact wpAny_operating (jd H (fun r sD hq3=>jb (wpAny_letTemporaryGo (jc hq3))) fun Z Z x=>x)
 first
  | exact jc (jb fin)
  | exact jb (jc (jb fin))
  | exact jb fin
theorem aa5{o i:Value}{Q:VP}(hT:∀ tk,(c.at h tk).TypeIs o T)(hl:typeLookup (.type T) "__getitem__" = Pure.pure (some (.builtin id))) (H:Wp c E A (getItem o i) Q h)
  (hs:∃ ops,subscripted slice false o i=operate ops (getItem o i)):Wp c E A (subscriptTail value slice o i) Q h:=.mk fun tk=>ay2 (hT tk) hl (H.1 tk) hs
theorem bk{a:Addr}{its:List Value}{n:Nat}{k:Int}{u:Tok}{x:Value}{Q:VP}(ha:h.get? a=some (listOf its.toArray n))(h0:0<=k)(hk:k<2 ^ 63)(hx:its[k.toNat]?=some x)(q:Q x h)
  (hs:autoParam (∃ ops,subscripted slice false (.ref a) (.int k u)=operate ops (getItem (.ref a) (.int k u))) aX) :
  Wp c E A (subscriptTail value slice (.ref a) (.int k u)) Q h:=aa5 (fun tk=>(aq ha).typeIs) list_getitem_lookup (.mk fun tk=>getItem_listL (s:=c.at h tk) (aq ha) h0 hk hx ⟨h,tk,rfl,q⟩) hs
theorem cc{a:Addr}{its:Array Value}{n:Nat}(e:h.get? a=some { cls:=.type "tuple", data:=.seq its n }):IsTup h a its:=⟨_,e,rfl,n,rfl⟩
theorem bI{a:Addr}{its:List Value}{n:Nat}{k:Int}{u:Tok}{j:Nat}{x:Value}{Q:VP}(ha:h.get? a=some { cls:=.type "tuple", data:=.seq its.toArray n }) (hlo:-(2 ^ 63)<=k) (hhi:k<2 ^ 63) (hj:seqIndex? k its.length=some j) (hx:its[j]?=some x) (q:Q x h)
  (hs:autoParam (∃ ops,subscripted slice false (.ref a) (.int k u)=operate ops (getItem (.ref a) (.int k u))) aX) :
  Wp c E A (subscriptTail value slice (.ref a) (.int k u)) Q h:=aa5 (fun tk=>(cc ha).typeIs) slot_tuple_getitem.lookup (.mk fun tk=>PyProof.Rows.getItem_tuple (s:=c.at h tk) (cc ha) hlo hhi (by simpa using hj) (by simpa using hx) ⟨h,tk,rfl,q⟩) hs
theorem au{vs:List Value}{xs:List Int}(i:IntsAre vs xs){k:Nat}(h:k<xs.length):∃ t,vs[k]?=some (.int (xs.getD k 0) t):=by
 have e:xs[k]?=some xs[k]:=by simp [h]
 obtain⟨t,ht⟩:=i.get k _ e;exact⟨t,by rw[ht]; simp [h]⟩
end
end
mutual
inductive bN:List DictEntry->List (Str×Value)->Prop
 | nil:bN [] []
 | cons {hs x t v es at'}:bN es at'->bN (⟨hs,.str x t,v⟩::es) ((x,v)::at')
noncomputable def ai6(x:Str)(v:Value):List (Str×Value)->List (Str×Value)
 | []=>[(x,v)]
 | p::r=>if p.1=x then(x,v)::r else p::ai6 x v r
theorem al6{x y:Str}{t:Tok}:(Value.str y t).isStr x=decide (y=x):=by
 show(y==x)=_
 by_cases h:y=x
 ·subst h; simp
 ·rw[jy h]; exact beq_eq_false_iff_ne.mpr h
theorem bN.any{es at'}(x:bN es at'):es.any (·.refKey)=false:=by
 induction x with
 | nil=>rfl
 | cons e ih=>rw[List.any_cons,ih]; rfl
theorem bN.get{x:Str}{v:Value}:∀ {es at'},bN es at'->(at'.map (·.1)).Nodup->(x,v)∈at'->getL x es=some (some v):=by
 intro es at' e
 induction e with
 | nil=>intro Z h; exact absurd h jm
 | @cons hs y t u es at' e ih =>
  intro nd h;obtain⟨n1,n2⟩:=List.nodup_cons.mp nd;unfold getL;rw[List.find?_cons];have q1:(DictEntry.mk hs (Value.str y t) u).key.isStr x=decide (y=x):=al6;rw[q1]
  rcases jf.mp h with h|h
  ·cases h; simp
  ·have:y≠x:=fun q=>n1 (by subst q; exact jM.mpr ⟨_,h,rfl⟩);rw[jy this];have ih':=ih n2 h;unfold getL at ih'
   split at ih'
   ·rename_i q; simp only[q]; exact ih'
   ·rename_i q
    rw[e.any] at ih'
    cases ih'
theorem bN.miss{x:Str}:∀ {es at'},bN es at'->x∉at'.map (·.1)->getL x es=some none:=by
 intro es at' e h;have:es.find? (·.key.isStr x)=none:=by
  induction e with
  | nil=>rfl
  | @cons hs y t u es at' e ih =>
   rw[List.find?_cons];have hy:y≠x:=fun q=>h (by subst q; exact .head _);have:(Value.str y t).isStr x=false:=by rw[al6,jy hy]
   simp only[this];exact ih fun q=>h (.tail _ q)
 unfold getL;rw[this,e.any]; rfl
theorem bN.put{x:Str}{v:Value}{hsh:Int}{t:Tok}{es at'}(e:bN es at'):bN (putL x hsh (.str x t) v es) (ai6 x v at'):=by
 induction e with
 | nil=>exact .cons .nil
 | @cons hs y u w es at' e ih =>
  show bN (if(Value.str y u).isStr x=true then _ else _) (if y=x then _ else _)
  rw[al6]
  by_cases h:y=x
  ·rw[if_pos (jz h),if_pos h,h]; exact .cons e
  ·rw[if_neg (fun q=>h (of_decide_eq_true q)),if_neg h]; exact .cons ih
theorem bN.isSome{x:Str}{es at'}(e:bN es at'):(getL x es).isSome=true:=by
 unfold getL
 split
 ·rfl
 ·rw[e.any]; rfl
theorem bN.length{es at'}(e:bN es at'):es.length=at'.length:=by
 induction e with
 | nil=>rfl
 | cons _ ih=>exact congrArg (·+1) ih
theorem ap2(x:Str)(v:Value)(at':List (Str×Value)):(ai6 x v at').length<=at'.length+1:=by
 induction at' with
 | nil=>exact Nat.le_refl _
 | cons p r ih =>
  show(if p.1=x then(x,v)::r else p::ai6 x v r).length<=_
  split
  ·exact Nat.le_succ _
  ·exact Nat.succ_le_succ ih
def bt(R:RP)(x C:Addr)(at':List (Str×Value)):Prop:=b5 fun dx es n=>bB (R x (instObj C dx)) (R dx (dictOf es n)) (bN es at')
theorem bt.mono{R R':RP}{x C:Addr}{at':List (Str×Value)}(i:bt R x C at')(k:∀ a o,R a o->R' a o):bt R' x C at':=by
 obtain⟨dx,es,n,a,b,e⟩:=i;exact⟨dx,es,n,k _ _ a,k _ _ b,e⟩
def LI(R:RP)(a:Addr)(xs:List Int):Prop:=av fun vs n=>R a (listOf vs.toArray n)/\IntsAre vs xs
theorem LI.mono{R R':RP}{a:Addr}{xs:List Int}(i:LI R a xs)(k:∀ a o,R a o->R' a o):LI R' a xs:=by obtain⟨vs,n,e,h⟩:=i; exact⟨vs,n,k _ _ e,h⟩
def Hs(h:Heap)(a:Addr)(o:Obj):Prop:=h.get? a=some o/\a≠ag
def Nw(h h':Heap)(a:Addr)(o:Obj):Prop:=h'.get? a=some o/\h.objs.size<=a
theorem Hs.in{h:Heap}(a:Addr)(o:Obj)(x:Hs h a o):In (h.hide ag) [] a o:=.inl ((Heap.hide_ne h x.2).trans x.1)
theorem In.nil{V:Heap}{fx:ac}(a:Addr)(o:Obj)(x:In V [] a o):In V fx a o:=.inl (x.elim id fun e=>absurd e jm)
theorem In.cons{V:Heap}{fx:ac}{p:Addr×Obj}(a:Addr)(o:Obj)(x:In V fx a o):In V (p::fx) a o:=x.imp id (.tail _)
theorem In.app{V:Heap}{fx own:ac}(a:Addr)(o:Obj)(x:In V fx a o):In V (own++fx) a o:=x.imp id (jh _)
theorem In.here{V:Heap}{fx:ac}{p:Addr×Obj}:In V (p::fx) p.1 p.2:=.inr (.head _)
noncomputable def dM(K:Frag)(C:Addr)(name:Str):Bool:=plainGet K C name&&hasDictIn K C&&(match findIn K (.ref C) name with|some a=>noGet K a|none=>false)
def dN(K:Frag)(C:Addr)(name:Str)(f:Addr):Prop:=bB (plainGet K C name=true) (findIn K (.ref C) name=some (some (.ref f))) (isFn K (.ref f)=true)
def ax4(K:Frag)(C:Addr)(name:Str):Prop:=bK (findIn K (.ref C) "__setattr__" = some (some (.builtin "object.__setattr__"))) (plainOver K C=true) (takerIn K C name=some none) (hasDictIn K C=true)
def Is(h:Heap)(a:Addr)(o:Obj):Prop:=h.get? a=some o
end
section
variable {E:VP} {gs ns:List Str} {pos:Pos} {value o:Expr} {attr name:Str} {p:Pos} {A:Around} {env:Env} {V:Heap} {fx:ac} {l l':ac} {vs:LO} {h:Heap}
mutual
theorem Fs.hs(S:Fs c gs ns env V fx vs l h)(a:Addr)(o:Obj)(x:In V fx a o):Hs h a o :=
 x.elim (fun e=>⟨S.keep e,fun q=>by subst q; rw[S.no] at e; cases e⟩) fun e=>⟨S.fix _ e,(S.off _ e).1.2.1⟩
theorem Fs.ho(S:Fs c gs ns env V fx vs l h){a:Addr}{o:Obj}(x:(a,o)∈l):Hs h a o:=⟨S.own _ x,(S.ap _ x).2.1⟩
theorem Fs.takeF{h':Heap}(S:Fs c gs ns env V fx vs l h)(k:bU h h'){r:Addr}{o:Obj}(x:Nw h h' r o):Fs c gs ns env V ((r,o)::fx) vs l h':=(S.take k x.1 x.2).toFix
theorem Fs.takeFs{h':Heap}:∀ {ents:ac} (_:Fs c gs ns env V fx vs l h) (_:bU h h') (_:∀ p∈ents,Nw h h' p.1 p.2),Fs c gs ns env V (ents++fx) vs l h'
 | ents,S,k,x=>{ S.after k with
  fix:=fun p hp=>(jg.mp hp).elim (fun e=>(x p e).1) ((S.after k).fix p)
  off:=fun p hp=>(jg.mp hp).elim (fun e=>⟨S.fresh (x p e).2,fun q hq=>jJ (js (jw (S.own q hq)) (x p e).2)⟩) ((S.after k).off p) }
theorem dq1{Q:VP}(H:Wp c E A (eval value env) (Kat c E attr A Q) h)
  (he:autoParam (eval (.Attribute value attr pos) env=(do
   let o <- eval value env
   standAt pos.atName
   let r <- PySem.holding [o] (getAttr o attr true)
   letTemporaryGo value o r
   Pure.pure r)) aU):Wp c E A (eval (.Attribute value attr pos) env) Q h:=.mk fun tk=>Attribute_any_ (H.nest tk) he
theorem a54{x C dx:Addr}{es:List DictEntry}{n:Nat}(a:h.get? x=some (instObj C dx))(b:h.get? dx=some (dictOf es n)):W.InstAt h x (instObj C dx) C (some (dictOf es n)):=⟨a,rfl,rfl,b⟩
theorem cJ{x C:Addr}{at':List (Str×Value)}{v:Value}{ex:Bool}{Q:VP}(S:Fs c gs ns env V fx vs l h)(i:bt (Is h) x C at')(ok:dM (Mine.hd.heap_39 c.w.params) C name=true)(nd:(at'.map (·.1)).Nodup)(m:(name,v)∈at')
  (hv:handedIn v=true) (q:Q v h):Wp c E A (getAttr (.ref x) name ex) Q h:=.mk fun tk=>by
 obtain⟨dx,es,n,a,b,e⟩:=i;obtain⟨h1,o3⟩:=Bool.and_eq_true_iff.mp ok;obtain⟨o1,o2⟩:=Bool.and_eq_true_iff.mp h1
 cases hf:findIn (Mine.hd.heap_39 c.w.params) (.ref C) name with
 | none=>rw[hf] at o3; cases o3
 | some a'=>rw[hf] at o3; exact get_own (s:=c.at h tk) S.fr S.gd.X (a54 a b) o1 o2 hf o3 (e.get nd m) hv ⟨h,(_,_),rfl,q⟩
theorem aw1{x C f:Addr}{at':List (Str×Value)}{pl:Sem Bool}{Q:Value×List Value->Heap->Prop}(S:Fs c gs ns env V fx vs l h)(i:bt (Is h) x C at')(ok:dN (Mine.hd.heap_39 c.w.params) C name f)(m:name∉at'.map (·.1))
  (q:Q (.ref f,[.ref x]) h):Wp c E A (getMethod (.ref x) name pl) Q h:=.mk fun tk=>by
 obtain⟨dx,es,n,a,b,e⟩:=i;exact method_inst (s:=c.at h tk) S.fr S.gd.X (a54 a b) ok.h0 ok.h1 ok.h2 (e.miss m) ⟨h,tk,rfl,q⟩
theorem am{x C:Addr}{at':List (Str×Value)}{v:Value}{ex:Bool}{Q:VP}(S:Fs c gs ns env V fx vs l h)(i:bt (In V fx) x C at')(ok:dM (Mine.hd.heap_39 c.w.params) C name=true)(nd:(at'.map (·.1)).Nodup)(m:(name,v)∈at')
  (hv:handedIn v=true) (q:Q v h):Wp c E A (getAttr (.ref x) name ex) Q h:=cJ S (i.mono fun a o y=>(S.hs a o y).1) ok nd m hv q
theorem bx{x C f:Addr}{at':List (Str×Value)}{pl:Sem Bool}{Q:Value×List Value->Heap->Prop}(S:Fs c gs ns env V fx vs l h)(i:bt (In V fx) x C at')(ok:dN (Mine.hd.heap_39 c.w.params) C name f)(m:name∉at'.map (·.1))
  (q:Q (.ref f,[.ref x]) h):Wp c E A (getMethod (.ref x) name pl) Q h:=aw1 S (i.mono fun a o y=>(S.hs a o y).1) ok m q
theorem ci7{Q:FP}(H:Wp c E A (eval value env) (Ka1 c E o attr A env Q) h)
  (hs:autoParam (swapsWith value (some (.Attribute o attr p)) pos.line env=Pure.pure false) aU):Wp c E A (exec (.Assign [.Attribute o attr p] value pos) env) Q h:=.mk fun tk =>
 plainObj_wpAny_Assign_Attribute (H.on tk fun v h1 t1 k=>k.nest t1) hs
theorem Up.upd{d:Addr}{o o':Obj}{l l' r:ac}(u:Up d o o' l l')(D:bn l)(hr:∀ p∈r,p.1≠d):Upd d o o' (l++r) (l'++r):=by
 induction u with
 | head=>exact .head fun p hp=>(jg.mp hp).elim (fun h=>D.1 p h) (hr p)
 | @tail q rB rC u ih=>exact .tail (D.1 _ u.mem).symm (ih D.2)
theorem aE{x C dx:Addr}{es:List DictEntry}{n:Nat}{at':List (Str×Value)}{v:Value}{lf:Obj->ac}{Q:Unit->Heap->Prop}(S:Fs c gs ns env V fx vs l h)(a:h.get? x=some (instObj C dx))(e:bN es at')
  (ok:ax4 (Mine.hd.heap_39 c.w.params) C name) (u:∀ o',Up dx (dictOf es n) o' l (lf o')) (hz:at'.length<900)
  (k:∀ es' n' h',bN es' (ai6 name v at')->Fs c gs ns env V fx vs (lf (dictOf es' n')) h'->Q () h'):Wp c E A (setAttr (.ref x) name v) Q h:=.mk fun tk=>by
 obtain⟨hb,o2,ht,o4⟩:=ok;obtain⟨ps,tok,N⟩:=S.all;have e':=e.put (x:=name) (v:=v) (hsh:=PyData.keyHash c.w.params name) (t:=tk.1+1);refine set_dict (s:=c.at h tk) S.fr S.gd.X N (a54 a (S.own _ (u (dictOf es n)).mem)) rfl hb o2 ht o4 e.isSome rfl ((u _).upd S.ord ?_) ?_ fun h' F N'=>⟨h',(_,_),rfl,k _ _ h' e' (S.back tok F N' ?_ ?_)⟩
 ·intro p hp
  rcases jg.mp hp with hp|hp
  ·exact(S.off p hp).2 _ (u (dictOf es n)).mem
  ·exact S.tl_ne tok N (u (dictOf es n)).mem (ai.dict rfl) p hp
 ·rw[e'.length];have:=ap2 name v at';exact cn3 hz this
 ·exact S.ord.same (u _).same
 ·intro p hp;obtain⟨r,hr,er⟩:=(u _).at hp;rw[<- er];exact⟨(S.ap r hr).2.1,fun q hq=>(S.off q hq).2 r hr⟩
def ah9(c:Cx)(d:Nat)(fI C:Addr)(args:List Value)(h:Heap)(Post:Addr->Heap->Prop):Prop :=
 ∀ A x dx O,Ar A d->@LT.lt Nat _ dx x->h.objs.size<=dx->bU h O->O.get? x=some (instObj C dx)->O.get? dx=some (dictOf [] 0) ->
  Cp c A (.call (.ref fI) ⟨.ref x::args,[]⟩) (fun r h'=>∃ v,r=.ok (.ret v)/\bB (v=.none) (bU h h') (Post x h')) O
theorem ap5{d:Nat}{fI C:Addr}{args:List Value}{Post:Addr->Heap->Prop}(G:ak c h)(ci:ah9 c d fI C args h Post)
  (hm:makesIn (Mine.hd.heap_39 c.w.params) C=true) (hi:findIn (Mine.hd.heap_39 c.w.params) (.ref C) "__init__" = some (some (.ref fI))) (hf:isFn (Mine.hd.heap_39 c.w.params) (.ref fI)=true) :
  Ct c (d+2) (.ref C) args h (fun v h'=>∃ x,bB (v=.ref x) (h.objs.size<=x) (Post x h')):=fun A ar=>.mk fun tk=>by
 have X:c.K.In h:=G.gd.X.keeps (ae8 h ag);refine wpAny_call (make_core (h:=h) (g:=c.gens) (d:=tk.2) (t:=tk.1) (os:=c.os) (makes_of X hm) (looks_findIn X hi) (fun self=>bind_fn X self (beq_iff_eq.mp hf)) (.inl rfl) ?_);have old:∀ b o,h.get? b=some o->((h.push emptyDict).push (instObj C h.objs.size)).get? b=some o:=fun b o e=>jp _ (jp _ e);have hx:((h.push emptyDict).push (instObj C h.objs.size)).get? (h.objs.size+1)=some (instObj C h.objs.size):=by
  have:=jq (h.push emptyDict) (o:=instObj C h.objs.size) rfl
  rwa [jH] at this
 have hdx:((h.push emptyDict).push (instObj C h.objs.size)).get? h.objs.size=some (dictOf [] 0):=jp _ (jq _ rfl);have K1:bU h ((h.push emptyDict).push (instObj C h.objs.size)):=⟨fun b o e=>old b o (Heap.of_hide e),G.tab.mono (fun b o Z e=>old b o e),by rw[jH,jH]; exact b31⟩;have ar':Ar (A.under (.builtin "type.__call__" ⟨.ref C::args,[]⟩)) d:=by
  refine⟨ar.handled,?_,?_⟩
  ·have:=ar.depth;have e:(A.under (.builtin "type.__call__" ⟨.ref C::args,[]⟩)).depth=A.depth+1:=rfl;exact cn2 this e
  ·have:=ar.units;have e:(A.under (.builtin "type.__call__" ⟨.ref C::args,[]⟩)).units<=A.units+8:=by
    show A.units+_<=_
    exact Nat.add_le_add_left (show _<=8 from by with_unfolding_all exact Nat.le_of_ble_eq_true rfl) _
   exact cn1 this e
 refine codeAny_mono ((ci _ (h.objs.size+1) h.objs.size _ ar' (Nat.lt_succ_self _) (Nat.le_refl _) K1 hx hdx).run tk) fun r s zpa=>?_;obtain⟨h2,t2,e,v,hr,hv,k1,k2⟩:=zpa;subst e hr hv;exact⟨rfl,h2,t2,rfl,k1,h.objs.size+1,rfl,Nat.le_succ _,k2⟩
end
end
theorem as7{A:Around}{h O:Heap}{d:Nat}{f C x dx:Addr}{args:List Value}{name qual:Str}{params:Arguments}{body:List Stmt}{scope:Scope}{dV kV doc pm cdv ct oc:Value}{an od:Option Addr}{osl:Array (Option Value)}
  {binds:List (Str×Value)} {gs ns rest:List Str} {vs:LO} {Q:VP} (G:ak c h) (ar:Ar A (d+1)) (hlt:@LT.lt Nat _ dx x) (hsz:h.objs.size<=dx) (K1:bU h O) (hx:O.get? x=some (instObj C dx)) (hdx:O.get? dx=some (dictOf [] 0))
  (hl:(Mine.hd.heap_39 c.w.params).lookup f=some ⟨oc,od,.func (fnOf name qual params body scope dV kV doc pm an cdv ct),osl⟩) (hcd:codeIn (Mine.hd.heap_39 c.w.params) cdv qual=true)
  (hb:∀ s:Shared,(Mine.hd.heap_39 c.w.params).In s.heap->BindsTo s (fnOf name qual params body scope dV kV doc pm an cdv ct) ⟨.ref x::args,[]⟩ binds)
  (hns:ns=binds.map (·.1)++rest) (hvs:vs=binds.map (fun b=>some b.2)++rest.map fun Z=>none) (fn:dK scope gs ns=true)
  (W:∀ A L h₂,Ar A d->h.objs.size<=L->let env:=ce qual scope f cdv L; let w:=vs; Fs c gs ns env (h.hide ag) [] w [(x,instObj C dx),(dx,dictOf [] 0)] h₂->∀ R,eg (aj9 Q) R->Wp c (fun Z Z=>False) A (execs body env) R h₂)
  (hco:autoParam (scope.isCoroutine=false) aU) (hgen:autoParam (scope.isGenerator=false) aU) (hk:autoParam (scope.kind=.function) aU)
  (hcell:autoParam (scope.names.all (fun x=>x.2 != .cell)=true) aU):Cp c A (.call (.ref f) ⟨.ref x::args,[]⟩) (fun r h'=>∃ v,r=.ok (.ret v)/\Q v h') O:=by
 have ht:@LT.lt Nat _ ag h.objs.size:=by obtain⟨Z,e,Z,Z⟩:=G.tab; exact jw e
 have none_at:∀ a,h.objs.size<=a->(h.hide ag).get? a=none:=fun a ha=>by
  cases e:(h.hide ag).get? a with
  | none=>rfl
  | some o=>exact absurd (jw (Heap.of_hide e)) (Nat.not_lt.mpr ha)
 have hx':h.objs.size<=x:=jI (ju hsz hlt);refine at3 ar (V:=h.hide ag) (lA:=[(x,instObj C dx),(dx,dictOf [] 0)]) G.gd K1.tab K1.stays (Heap.hide_self h ag) (by rw[Heap.hide_size]; exact K1.size) ?_ ⟨?_,?_,trivial⟩ hl hcd hb hns hvs fn (fun A L h₂ ar hL S=>W A L h₂ ar (jr K1.size hL) S) hco hgen hk hcell
 ·intro p hp
  rcases jf.mp hp with rfl|hp
  ·exact⟨hx,jJ (js ht hx'),none_at _ hx'⟩
  ·rw[je.mp hp];exact⟨hdx,jJ (js ht hsz),none_at _ hsz⟩
 ·intro q hq;rw[je.mp hq]; exact jv hlt
 ·intro q hq;exact absurd hq jm
section
variable {E:VP} {gs ns:List Str} {pos:Pos} {elts:List Expr} {tpos:Pos} {value:Expr} {names:List Str} {x y z:Str} {A:Around} {env:Env} {V:Heap} {fx:ac} {l l':ac} {vs:LO} {h:Heap}
mutual
theorem Fs.extBut{h':Heap}(S:Fs c gs ns env V fx vs l h)(he:Heap.ExtBut h.objs.size h h'):Fs c gs ns env V fx vs l h' :=
 S.frame (wr:=[h.objs.size]) (fun b o hb e=>he b o (fun q=>hb (by rw[q]; exact .head _)) e) (fun b hb=>by
  rw[je.mp hb];exact S.apt (Nat.le_refl _)) fun b hb=>by rw[je.mp hb]; exact bj1 (Nat.le_refl _)
theorem ci9{k:Nat}{Q:FP}(H:Wp c E A (eval value env) (Kas c E (.Tuple elts k tpos) A env Q) h)
  (hs:autoParam (swapsWithSole [.Tuple elts k tpos] value pos.line env=Pure.pure false) aU) (hw:autoParam (swappedStores [.Tuple elts k tpos] value env=Pure.pure none) aU) :
  Wp c E A (exec (.Assign [.Tuple elts k tpos] value pos) env) Q h:=.mk fun tk=>Assign_Tuple (H.on tk fun v h1 t1 k=>k.1 t1) hs hw
theorem bh3{k:Nat}{Q:FP}
  (H:Wp c E A (eval value env) (fun v O=>Wp c E A (unpackItems v names.length none) (fun items h₂=>Wp c E A (assignInOrder (names.reverse.map fun n=>bindName env n) items.reverse) (fun Z=>Q .next) h₂) O) h)
  (hs:autoParam (swapsWithSole [.Tuple elts k tpos] value pos.line env=Pure.pure false) aU) (hw:autoParam (swappedStores [.Tuple elts k tpos] value env=Pure.pure (some names)) aU) :
  Wp c E A (exec (.Assign [.Tuple elts k tpos] value pos) env) Q h:=.mk fun tk=>Assign_Tuple_swapped (H.on tk fun v h1 t1 k=>by
   exact(k.on t1 fun items h2 t2 k=>k.1 t2)) hs hw
theorem ak7{v:Value}{Q:Unit->Heap->Prop}(H:Wp c E A (storeName env x v) Q h):Wp c E A (bindName env x v) Q h:=.mk fun tk=>wpAny_bindName (H.1 tk)
theorem al9{t:Value->Sem Unit}{ts:List (Value->Sem Unit)}{x:Value}{xs:List Value}{Q:Unit->Heap->Prop}(H:Wp c E A (t x) (Kio c E A ts xs Q) h):Wp c E A (assignInOrder (t::ts) (x::xs)) Q h:=.mk fun tk=>assignInOrder_cons (H.nest tk)
theorem bv1{xs:List Value}{Q:Unit->Heap->Prop}(q:Q () h):Wp c E A (assignInOrder [] xs) Q h:=.mk fun tk=>assignInOrder_nil ⟨h,tk,rfl,q⟩
theorem bD{t:Addr}{items:List Value}{n k:Nat}{Q:List Value->Heap->Prop}(S:Fs c gs ns env V fx vs l h)(hh:A.handled=none)(ht:h.get? t=some { cls:=.type "tuple", data:=.seq items.toArray n }) (hk:k=items.length)
  (K:∀ h',Fs c gs ns env V fx vs l h'->Q items h'):Wp c E A (unpackItems (.ref t) k none) Q h:=.mk fun tk=>by
 have e:k=items.toArray.size:=by simp [hk]
 rw[e];exact unpackItems_tuple (s:=c.at h tk) hh (cc ht) fun h' he=>⟨h',(_,_),rfl,K h' (S.extBut he)⟩
end
section
mutual
abbrev Kss (c:Cx) (E:VP) (x:Str) (A:Around) (env:Env) (a:Value) (Q:Unit->Heap->Prop):Unit->Heap->Prop:=fun Z h=>Wp c E A (storeName env x a) Q h
def Kw2(c:Cx)(E:VP)(x y:Str)(A:Around)(env:Env)(Q:FP):List Value->Heap->Prop:=fun items h=>av fun a b=>items=[a,b]/\Wp c E A (storeName env y b) (Kss c E x A env a (Ku Q)) h
abbrev Kv2 (c:Cx) (E:VP) (x y:Str) (A:Around) (env:Env) (Q:FP):VP:=fun v h=>Wp c E A (unpackItems v 2 none) (Kw2 c E x y A env Q) h
def Kw3(c:Cx)(E:VP)(x y z:Str)(A:Around)(env:Env)(Q:FP):List Value->Heap->Prop:=fun items h=>b5 fun a b d=>items=[a,b,d]/\Wp c E A (storeName env z d) (Kss c E y A env b (Kss c E x A env a (Ku Q))) h
abbrev Kv3 (c:Cx) (E:VP) (x y z:Str) (A:Around) (env:Env) (Q:FP):VP:=fun v h=>Wp c E A (unpackItems v 3 none) (Kw3 c E x y z A env Q) h
end
end
mutual
theorem bl{k:Nat}{Q:FP}
  (H:Wp c E A (eval value env) (Kv2 c E x y A env Q) h)
  (hs:autoParam (swapsWithSole [.Tuple elts k tpos] value pos.line env=Pure.pure false) aU) (hw:autoParam (swappedStores [.Tuple elts k tpos] value env=Pure.pure (some [x,y])) aU) :
  Wp c E A (exec (.Assign [.Tuple elts k tpos] value pos) env) Q h:=bh3 (names:=[x,y]) (H.mono (fun v h H=>H.mono (fun items h zpa=>by obtain⟨a,b,e,H⟩:=zpa; subst e; exact al9 (ak7 (H.mono (fun Z Z H=>al9 (ak7 (H.mono (fun Z Z q=>bv1 q) fun Z Z x=>x))) fun Z Z x=>x))) fun Z Z x=>x) fun Z Z x=>x) hs hw
theorem am8{k:Nat}{Q:FP}
  (H:Wp c E A (eval value env) (Kv3 c E x y z A env Q) h)
  (hs:autoParam (swapsWithSole [.Tuple elts k tpos] value pos.line env=Pure.pure false) aU) (hw:autoParam (swappedStores [.Tuple elts k tpos] value env=Pure.pure (some [x,y,z])) aU) :
  Wp c E A (exec (.Assign [.Tuple elts k tpos] value pos) env) Q h:=bh3 (names:=[x,y,z]) (H.mono (fun v h H=>H.mono (fun items h zpa=>by obtain⟨a,b,d,e,H⟩:=zpa; subst e; exact al9 (ak7 (H.mono (fun Z Z H=>al9 (ak7 (H.mono (fun Z Z H=>al9 (ak7 (H.mono (fun Z Z q=>bv1 q) fun Z Z x=>x))) fun Z Z x=>x))) fun Z Z x=>x))) fun Z Z x=>x) fun Z Z x=>x) hs hw
theorem cL{t:Addr}{items:List Value}{k n:Nat}{Q:Unit->Heap->Prop}(S:Fs c gs ns env V fx vs l h)(hh:A.handled=none)(ht:h.get? t=some { cls:=.type "tuple", data:=.seq items.toArray n })
  (hn:(assignEach elts env).length=items.length) (hs:(assignEach elts env).findIdx? (·.1)=none) (K:∀ h',Fs c gs ns env V fx vs l h'->Wp c E A (assignInOrder ((assignEach elts env).map (·.2)) items) Q h') :
  Wp c E A (assign (.Tuple elts k pos) env (.ref t)) Q h:=.mk fun tk =>
 assign_Tuple_tuple (s:=c.at h tk) (items:=items.toArray) hh (cc ht) (by simp [hn]) hs fun h' he=>(K h' (S.extBut he)).1 tk
end
end
section
variable {E:VP} {gs ns:List Str} {pos:Pos} {A:Around} {env:Env} {V:Heap} {fx:ac} {l l':ac} {vs:LO} {h:Heap}
mutual
theorem Fs.sep(S:Fs c gs ns env V fx vs l h):∀ p∈l,p.1≠ag/\∀ q∈fx,q.1≠p.1:=fun p hp=>⟨(S.ap p hp).2.1,fun q hq=>(S.off q hq).2 p hp⟩
theorem Fs.same{h':Heap}{tl:ac}(S:Fs c gs ns env V fx vs l h)(ht:ac8 V tl)(F:Fr V env.locals h' (bO ns vs))(N:News V env.locals h' (l++(fx++tl))):Fs c gs ns env V fx vs l h' :=
 S.back ht F N S.ord S.sep
theorem Fs.one{h':Heap}{tl:ac}{a:Addr}{o:Obj}(S:Fs c gs ns env V fx vs l h)(ht:ac8 V tl)(ha:h.objs.size<=a)(F:Fr V env.locals h' (bO ns vs))(N:News V env.locals h' ((a,o)::(l++(fx++tl)))):Fs c gs ns env V fx vs ((a,o)::l) h' :=
 S.back ht F N ⟨fun q hq=>jv (js (jw (S.own q hq)) ha),S.ord⟩ (af (⟨(S.fresh ha).2.1,fun q hq=>jv (js (jw (S.fix q hq)) ha)⟩) fun p hp=>S.sep p hp)
theorem bc8{x y:Int}{t u:Tok}{Q:VP}(S:Fs c gs ns env V fx vs l h)(hh:A.handled=none)(k:∀ t h',Fs c gs ns env V fx vs l h'->Q (.int (max x y) t) h'):Wp c E A (call (.builtin "max") [.int x t,.int y u]) Q h:=.mk fun tk=>by
 obtain⟨ps,ht,N⟩:=S.all;refine max_two_N (s:=c.at h tk) hh S.fr N fun h' tk F N'=>⟨h',(_,_),rfl,?_⟩;have e:(if y>x then y else x)=max x y:=by simp only[Int.max_def]; split<;>split<;>lia
 rw[e];exact k _ h' (S.same ht F N')
theorem bu6{x y:Int}{t u:Tok}{Q:VP}(S:Fs c gs ns env V fx vs l h)(hh:A.handled=none)(k:∀ t h',Fs c gs ns env V fx vs l h'->Q (.int (min x y) t) h'):Wp c E A (call (.builtin "min") [.int x t,.int y u]) Q h:=.mk fun tk=>by
 obtain⟨ps,ht,N⟩:=S.all;refine min_two_N (s:=c.at h tk) hh S.fr N fun h' tk F N'=>⟨h',(_,_),rfl,?_⟩;have e:(if y<x then y else x)=min x y:=by simp only[Int.min_def]; split<;>split<;>lia
 rw[e];exact k _ h' (S.same ht F N')
theorem bj{a b:Addr}{xs ys:List Value}{m n:Nat}{Q:VP}(S:Fs c gs ns env V fx vs l h)(ha:h.get? a=some (listOf xs.toArray m))(hb:h.get? b=some (listOf ys.toArray n))(hz:xs.length+ys.length<=1000000)
  (k:∀ r h',h.objs.size<=r->let q9:=((r,listOf (xs++ys).toArray 0)::l); Fs c gs ns env V fx vs q9 h'->Q (.ref r) h'):Wp c E A (binaryOp .Add (.ref a) (.ref b)) Q h:=.mk fun tk=>by
 obtain⟨ps,ht,N⟩:=S.all;refine PyProof.Rows.add_arrays (s:=c.at h tk) S.fr N (aq ha) (aq hb) (fun h' F N'=>⟨h',(_,_),rfl,k _ h' (Nat.le_refl _) ?_⟩) (by simp only[List.size_toArray]; exact jr hz (by decide));exact S.one ht (Nat.le_refl _) F N'
end
end
structure ez(env:Env)(V:Heap)(fx:ac)(ns:List Str)(vs:LO)(g:Heap):Prop where
 ns:g.Ns env.locals (bO ns vs)
 old:V.StaysIn g
 fx:∀ p∈fx,g.get? p.1=some p.2
 no:g.get? ag=none
section
variable {E:VP} {gs ns:List Str} {pos:Pos} {gs' ns':List Str} {t target elt iter:Expr} {scope:Scope} {ifs:List Expr} {y:Str} {py cpos:Pos} {A:Around} {env:Env} {V:Heap} {fx:ac} {l l':ac} {vs:LO} {h:Heap}
mutual
theorem ez.in{g:Heap}(b:ez env V fx ns vs g){own:ac}(a:Addr)(o:Obj)(x:In V fx a o):In g own a o:=.inl (x.elim (b.old a o) (b.fx (a,o)))
theorem Fs.sub(S:Fs c gs ns env V fx vs l h)(wr:List Addr)(hw:∀ b∈wr,co env V b/\∀ p∈fx,p.1≠b) :
  ∃ g:Heap,eH (ez env V fx ns vs g) (g.StaysIn h) (g.objs.size=h.objs.size) (∀ p∈l,g.get? p.1=none) (∀ b∈wr,g.get? b=none):=by
 have nm:∀ {b:Addr} {o:Obj},h.get? b=some o->b≠ag->b∉wr->(∀ p∈l,p.1≠b)->(hideAll h (ag::(wr++l.map (·.1)))).get? b=some o:=fun{b o} e h1 h2 h3=>hideAll_get _ e fun q=>by
  rcases jf.mp q with q|q
  ·exact h1 q
  ·rcases jg.mp q with q|q
   ·exact h2 q
   ·obtain⟨p,hp,e⟩:=jM.mp q;exact h3 p hp e
 refine⟨hideAll h (ag::(wr++l.map (·.1))),⟨S.fr.ns.at' fun o e=>nm e (jJ S.lt) (fun q=>(hw _ q).1.1 rfl) fun p hp=>(S.ap p hp).1,fun b o e=>nm (S.keep e) (fun q=>by subst q; rw[S.no] at e; cases e) (fun q=>(hw b q).1.old_ne e rfl) (fun p hp q=>(S.ap p hp).old_ne e q.symm),fun p hp=>nm (S.fix p hp) (S.off p hp).1.2.1 (fun q=>(hw _ q).2 p hp rfl) (fun q hq e=>(S.off p hp).2 q hq e.symm),hideAll_none _ (.head _)⟩,fun b o e=>of_hideAll _ e,hideAll_size _ _,fun p hp=>hideAll_none _ (.tail _ (jh _ (List.mem_map_of_mem hp))),fun b hb=>hideAll_none _ (.tail _ (ji _ hb))⟩
theorem ez.gd{g:Heap}(b:ez env V fx ns vs g)(G:Gd c V):Gd c g:=G.keeps b.old
theorem Fs.unsub{g h':Heap}{env':Env}{fx':ac}{vs':LO}(S:Fs c gs ns env V fx vs l h)(b:ez env V fx ns vs g)(S':Fs c gs' ns' env' g fx' vs' l' h'):Fs c gs ns env V fx vs l' h' where
 fr:=⟨b.ns.at' fun o e=>S'.keep e,fun x o e=>S'.keep (b.old x o e),S.fr.above⟩
 own:=S'.own
 ord:=S'.ord
 ap:=fun p hp=>by
  refine⟨fun q=>?_,(S'.ap p hp).2.1,?_⟩
  ·obtain⟨o,Z,Z,e,Z⟩:=b.ns;rw[<- q,(S'.ap p hp).2.2] at e; cases e
  ·cases e:V.get? p.1 with
   | none=>rfl
   | some o=>have:=b.old _ _ e; rw[(S'.ap p hp).2.2] at this; cases this
 tab:=S'.tab
 lt:=S.lt
 no:=S.no
 gd:=S.gd
 fn:=S.fn
 pl:=S.pl
 fix:=fun p hp=>S'.keep (b.fx p hp)
 off:=fun p hp=>⟨(S.off p hp).1,fun q hq e=>by have:=b.fx p hp; rw[e,(S'.ap q hq).2.2] at this; cases this⟩
theorem Fn.ofS{env:Env}{gs ns:List Str}(e:dK env.scope gs ns=true):Fn env gs ns:=by
 unfold dK at e;simp only[jC,decide_eq_true_eq,List.all_eq_true,beq_iff_eq,Bool.not_eq_true',beq_eq_false_iff_ne] at e;obtain⟨⟨h1,h2⟩,h3⟩:=e;exact⟨h1,fun x hx=>(h2 x hx).1,fun x hx=>(h3 x hx).1.1,fun x hx=>beq_eq_false_iff_ne.mpr (h2 x hx).2,fun x hx=>⟨beq_eq_false_iff_ne.mpr (h3 x hx).1.2,(h3 x hx).2⟩⟩
noncomputable def an5(ifs:List Expr)(cenv:Env):Sem Bool:=forIn ifs true fun x r=>if r=true then do let ok <- isTrue x cenv (eval x cenv); Pure.pure (ForInStep.yield ok) else Pure.pure (ForInStep.yield r)
theorem dr1{Q:Bool->Heap->Prop}(q:Q true h):Wp c E A (an5 [] env) Q h:=.mk fun tk=>jc ⟨h,tk,rfl,q⟩
theorem dr0{Q:Bool->Heap->Prop}(H:Wp c E A (isTrue t env (eval t env)) Q h):Wp c E A (an5 [t] env) Q h:=.mk fun tk=>by
 unfold an5;rw[List.forIn_cons];refine jb ?_;rw[if_pos rfl];refine jb (jd (H.1 tk) (fun b s q=>?_) fun Z Z x=>x);exact jc (by dsimp only; rw[List.forIn_nil]; exact jc q)
noncomputable def ad5(scope:Scope):Bool:=scope.names.all fun x=>(x.2 != .local || scope.names.lookup x.1==some .local)&&x.2 != .cell
theorem ao3(e:ad5 scope=true):∀ x∈scope.names,x.2=.local->scope.names.lookup x.1=some .local:=fun x hx hl=>by
 have:=List.all_eq_true.mp e x hx;simp only[jC,Bool.or_eq_true,bne_iff_ne,beq_iff_eq] at this;exact this.1.resolve_left fun q=>q hl
theorem a42(e:ad5 scope=true):∀ x∈scope.names,x.2≠.cell:=fun x hx=>by
 have:=List.all_eq_true.mp e x hx;simp only[jC,Bool.or_eq_true,bne_iff_ne,beq_iff_eq] at this;exact this.2
def bg0(c:Cx)(E:VP)(e:Expr)(scope:Scope)(A:Around)(env:Env)(cl:List (Str×Addr))(use:Option (Value->Sem Unit))(Q:VP)(it:Value)(h:Heap):Prop:=∀ tk,
 wpAny (model c.prog c.w) A (newList []) (fun acc sD=>wpAny (model c.prog c.w) A (newFunctionEnv scope env.globals cl [] env.qual none .none (some env)) (fun cenv sE =>
  codeAny (model c.prog c.w) A (.compStart e 0 it acc { cenv with scope:=relabel scope env }) (compPost (model c.prog c.w) A (fun e s=>av fun h' tk'=>s=c.at h' tk'/\E e h') use (fun a s=>av fun h' tk'=>s=c.at h' tk'/\Q a h') acc cenv.locals) sE)
  (fun e s=>av fun h' tk'=>s=c.at h' tk'/\E e h') sD) (fun e s=>av fun h' tk'=>s=c.at h' tk'/\E e h') (c.at h tk)
theorem dp7{cl:List (Str×Addr)}{Q:VP}
  (H:Wp c E A (eval iter env) (Kpi c E A (bg0 c E (.ListComp elt [⟨target,iter,ifs,0⟩] scope pos) scope A env cl none Q)) h)
  (hclos:autoParam (closureFor scope env=Pure.pure cl) aU) (hkind:autoParam (scope.kind=.function) aU) (hnames:autoParam (ad5 scope=true) aU)
  (hs:autoParam (∀ x,foldedSetIterable iter env x=Pure.pure x) aI):Wp c E A (eval (.ListComp elt [⟨target,iter,ifs,0⟩] scope pos) env) Q h:=.mk fun tk=>by
 rw[eval_ListComp];refine wpAny_comprehension_free (use:=none) rfl hs hclos hkind (ao3 hnames) ((H.on tk fun v h1 t1 k=>?_));refine k.on t1 fun it h2 t2 k=>?_;exact k t2
theorem an0{cl:List (Str×Addr)}{Q:FP}
  (H:Wp c E A (eval iter env) (Kpi c E A (bg0 c E (.ListComp elt [⟨target,iter,ifs,0⟩] scope cpos) scope A env cl (some (assign (.Name y py) env)) (Kx Q))) h)
  (hsw:autoParam (swapsWith (.ListComp elt [⟨target,iter,ifs,0⟩] scope cpos) (some (.Name y py)) pos.line env=Pure.pure true) aU)
  (hclos:autoParam (closureFor scope env=Pure.pure cl) aU) (hkind:autoParam (scope.kind=.function) aU) (hnames:autoParam (ad5 scope=true) aU)
  (hs:autoParam (∀ x,foldedSetIterable iter env x=Pure.pure x) aI):Wp c E A (exec (.Assign [.Name y py] (.ListComp elt [⟨target,iter,ifs,0⟩] scope cpos) pos) env) Q h:=.mk fun tk=>by
 rw[exec_Assign_Name_used _ _ _ _ hsw];refine jb (wpAny_standAt (jb ?_))
 show wpAny _ A (do let _ <- comprehension (.ListComp elt [⟨target,iter,ifs,0⟩] scope cpos) scope env _ (newList []) false (eval iter env) (some (assign (.Name y py) env))) _ _ _
 refine jb (jd (wpAny_comprehension_free (use:=some (assign (.Name y py) env)) (Q:=fun Z s=>av fun h' tk'=>s=c.at h' tk'/\Q .next h') rfl hs hclos hkind (ao3 hnames) (jd (H.1 tk) (fun v s zpa=>?_) fun Z Z x=>x)) (fun Z s' hq=>jc (jc hq)) fun Z Z x=>x);obtain⟨h1,t1,e,k⟩:=zpa;subst e;refine k.on t1 fun it h2 t2 k=>?_;exact k t2
theorem b9{α:Type}{l:List α}(h:l.length=1):∃ a,l=[a]:=by
 cases l with
 | nil=>cases h
 | cons a r=>exact⟨a,by rw[List.eq_nil_of_length_eq_zero (Nat.succ.inj h)]⟩
theorem dX{α:Type}{l:List α}(h:l.length=2):av fun a b=>l=[a,b]:=by
 cases l with
 | nil=>cases h
 | cons a r =>
  obtain⟨b,e⟩:=b9 (Nat.succ.inj h);exact⟨a,b,by rw[e]⟩
theorem ap6{α:Type}{l:List α}(h:l.length=3):b5 fun a b d=>l=[a,b,d]:=by
 cases l with
 | nil=>cases h
 | cons a r =>
  obtain⟨b,d,e⟩:=dX (Nat.succ.inj h);exact⟨a,b,d,by rw[e]⟩
abbrev an9(c:Cx)(A:Around)(cenv:Env)(gs' ns':List Str)(g:Heap)(own:ac)(D:Addr)(acc:List Value)(k:Nat)(N:List Value->ac->Prop)(h:Heap):Prop :=
 av fun ov l=>bB (ov.length=ns'.length) (N acc l) (Fs c gs' ns' cenv g own ov ((D,listOf acc.toArray k)::l) h)
theorem a68{it acc:Value}{cenv:Env}{R:Result->Shared->Prop}{s:Shared}(I:Nat->Shared->Prop)
  (turn:∀ n s,I n s->wpAny (model c.prog c.w) A (pyNext it) (fun r sB=>match r with
   | none=>R (.ok .next) sB
   | some v=>wpAny (model c.prog c.w) A (letOwnedTupleGo target it v) (fun Z sA=>wpAny (model c.prog c.w) A (assign target cenv v) (fun Z sC =>
     wpAny (model c.prog c.w) A (an5 ifs cenv) (fun ok sD =>
      if ok=true then wpAny (model c.prog c.w) A (eval elt cenv) (fun x sE =>
       wpAny (model c.prog c.w) A (call (.builtin "list.append") [acc,x]) (fun Z sF=>∃ m,m<n/\I m sF) (notedBy (model c.prog c.w) A cenv fun e s'=>R (.error e) s') sE) (notedBy (model c.prog c.w) A cenv fun e s'=>R (.error e) s') sD
      else ∃ m,m<n/\I m sD) (notedBy (model c.prog c.w) A cenv fun e s'=>R (.error e) s') sC) (notedBy (model c.prog c.w) A cenv fun e s'=>R (.error e) s') sA) (notedBy (model c.prog c.w) A cenv fun e s'=>R (.error e) s') sB) (notedBy (model c.prog c.w) A cenv fun e s'=>R (.error e) s') s)
  (n:Nat) (h:I n s):codeAny (model c.prog c.w) A (.compLoop (.ListComp elt [⟨target,iter,ifs,0⟩] scope cpos) 0 it acc cenv) R s:=by
 refine codeAny_loop rfl I (fun n s hI=>?_) n h
 show wpAny _ A ((compTurn (.ListComp elt [⟨target,iter,ifs,0⟩] scope cpos) 0 it acc cenv).onRaise (fun x=>do noteFrame x cenv; theTreesLotGoes x)) _ _ s
 refine wpAny_noted ?_;rw[compTurn_list];refine jb (wpAny_standAt (jb (jd (turn n s hI) (fun r sB O=>?_) fun Z Z x=>x)))
 cases r with
 | none=>exact jc O
 | some v =>
  refine jb (jd O (fun Z sA V=>jb (jd V (fun Z sC h₂=>jb (jd h₂ (fun ok sD hq3=>?_) fun Z Z x=>x)) fun Z Z x=>x)) fun Z Z x=>x)
  cases ok with
  | false=>exact jc ⟨rfl,hq3⟩
  | true=>exact jb (jb (jd hq3 (fun x sE hq4=>jb (jd hq4 (fun Z sF hq5=>jc (jc ⟨rfl,hq5⟩)) fun Z Z x=>x)) fun Z Z x=>x))
def CSt(c:Cx)(gs' ns':List Str)(cenv:Env)(g:Heap)(n:Nat)(wr:List Addr)(D:Addr)(St:Nat->Heap->Prop)(Inv:Nat->List Value->ac->Prop)(k:Nat)(s:Shared):Prop :=
 fb fun h' t' i acc kk ov l'=>An9 (s=c.at h' t') (k=n-i) (i<=n) (St i h') (Inv i acc l') (acc.length<=i) (ov.length=ns'.length) (Fs c gs' ns' cenv g [] ov ((D,listOf (List.toArray acc) kk)::l') h') (∀ b∈wr,co cenv g b/\(∀ q∈(D,listOf (List.toArray acc) kk)::l',q.1≠b))
theorem az7{n:Nat}{it:Value}{P:Nat->VP}{cl:List (Str×Addr)}{RR:Value->Addr->Result->Shared->Prop}
  (src:dR c target A env V fx l h it n P) (hn:n<=1000000) (S:Fs c gs ns env V fx vs l h)
  (hkind:scope.kind=.function) (hnames:ad5 scope=true) (hfn:dK (relabel scope env) gs' ns'=true)
  (Inv:Nat->List Value->ac->Prop) (h0:Inv 0 [] l)
  (turn:∀ C g D i v acc k ov l' h' own,ez env V fx ns vs g->i<n->P i v h'->Inv i acc l'->acc.length<=i->ov.length=ns'.length->Fs c gs' ns' (compEnvC scope cl C env) g own ov ((D,listOf acc.toArray k)::l') h' ->
   Wp c (fun Z Z=>False) A (assign target (compEnvC scope cl C env) v) (fun Z O=>Wp c (fun Z Z=>False) A (an5 ifs (compEnvC scope cl C env)) (fun ok h₂=>BB ok
    (Wp c (fun Z Z=>False) A (eval elt (compEnvC scope cl C env)) (fun y hq3=>an9 c A (compEnvC scope cl C env) gs' ns' g own D acc k (fun acc l=>Inv (i+1) (acc++[y]) l) hq3) h₂)
    (an9 c A (compEnvC scope cl C env) gs' ns' g own D acc k (Inv (i+1)) h₂)) O) h')
  (done:∀ C D acc k l' h' tk m,h.objs.size<=D->Inv n acc l'->acc.length<=n->Fs c gs ns env V fx vs ((D,listOf acc.toArray k)::l') h'->h'.Ns C m->(co env V C/\(∀ q∈(D,listOf acc.toArray k)::l',q.1≠C)/\∀ p∈fx,p.1≠C)->RR (.ref D) C (.ok .next) (c.at h' tk))
  (tk:Tk) (EA:Value->Shared->Prop) :
  wpAny (model c.prog c.w) A (newList []) (fun acc sD=>wpAny (model c.prog c.w) A (newFunctionEnv scope env.globals cl [] env.qual none .none (some env)) (fun cenv sE =>
   codeAny (model c.prog c.w) A (.compStart (.ListComp elt [⟨target,iter,ifs,0⟩] scope cpos) 0 it acc { cenv with scope:=relabel scope env }) (RR acc cenv.locals) sE) EA sD) EA (c.at h tk):=by
 obtain⟨I,fp,wr,Md,St,rfl,W,st,hw,hx,hf,self⟩:=src;obtain⟨g,sb,gst,gsz,gl,gwr⟩:=S.sub wr fun b hb=>⟨(hw b hb).1,(hw b hb).2.2⟩;refine wpAny_newObj_type (wpAny_newFunctionEnv (a42 hnames) (by intro y hy; simp at hy) (fun O hnsB hsbB=>?_) hkind);dsimp only at hnsB hsbB ⊢;generalize hD:h.objs.size=D at hnsB hsbB ⊢;have e2:Heap.push h { cls:=.type "list", dict:=none,data:=.seq ([]:List Value).toArray }=h.push (listOf #[] 0):=rfl;rw[e2] at hnsB hsbB ⊢;rw[jH,hD] at hnsB hsbB ⊢;have hCn:∀ b o,h.get? b=some o->O.get? b=some o:=fun b o e=>hsbB.extBut b o (jv (Nat.lt_succ_of_lt (hD▸jw e))) (jp _ (jp _ e));have hDl:O.get? D=some (listOf #[] 0):=hsbB.extBut _ _ (jv (Nat.lt_succ_self _)) (jp _ (hD▸jq _ rfl));have gD:g.get? D=none:=by
  cases e:g.get? D with
  | none=>rfl
  | some o=>exact absurd (jw (gst _ _ e)) (by rw[hD]; exact Nat.lt_irrefl _)
 have lD:∀ b o,h.get? b=some o->b≠D:=fun b o e=>jv (hD▸jw e);have SB:Fs c gs' ns' (compEnvC scope cl (D+1) env) g [] (ns'.map fun Z=>none) ((D,listOf #[] 0)::l) O :=
  {fr:=⟨by rw[al4]; exact hnsB,fun b o e=>hCn b o (gst b o e),by rw[gsz,hD]; exact Nat.le_succ _⟩
   own:=af (hDl) fun p hp=>hCn _ _ (S.own p hp)
   ord:=⟨fun q hq=>lD _ _ (S.own q hq),S.ord⟩
   ap:=af (⟨jv (Nat.lt_succ_self _),by rw[<- hD]; exact jJ (jK S.lt S.fr.ns.lt),gD⟩) fun p hp=>⟨jv (Nat.lt_succ_of_lt (hD▸jw (S.own p hp))),(S.ap p hp).2.1,gl p hp⟩
   tab:=S.tab.mono fun b o Z e=>hCn _ _ e
   lt:=Nat.lt_succ_of_lt (hD▸jK S.lt S.fr.ns.lt)
   no:=sb.no
   gd:=sb.gd S.gd
   fn:=Fn.ofS hfn
   pl:=⟨hkind,S.pl.2.1,S.pl.2.2⟩
   fix:=fun p hp=>absurd hp jm
   off:=fun p hp=>absurd hp jm }
 have stb:St 0 O:=W.frame _ _ _ st fun b Z o e=>hCn b o e;have hwB:∀ b∈wr,co (compEnvC scope cl (D+1) env) g b/\(∀ q∈(D,listOf #[] 0)::l,q.1≠b):=fun b hb=>by
  obtain⟨o,ho,Z⟩:=hx _ _ st b hb;refine⟨⟨jv (Nat.lt_succ_of_lt (hD▸jw ho)),(hw b hb).1.2.1,gwr b hb⟩,fun q hq=>?_⟩
  rcases jf.mp hq with rfl|hq
  ·exact(lD _ _ ho).symm
  ·exact(hw b hb).2.1 q hq
 have loop:∀ tk,codeAny (model c.prog c.w) A (.compLoop (.ListComp elt [⟨target,iter,ifs,0⟩] scope cpos) 0 (.ref I) (.ref D) (compEnvC scope cl (D+1) env)) (RR (.ref D) (D+1)) (c.at O tk):=by
  intro tk;refine a68 (CSt c gs' ns' (compEnvC scope cl (D+1) env) g n wr D St Inv) ?_ n
   ⟨O,tk,0,[],0,_,l,rfl,rfl,Nat.zero_le _,stb,h0,Nat.le_refl _,by rw[List.length_map],SB,hwB⟩
  rintro k s ⟨h',t',i,acc,kk,ov,l',rfl,rfl,hi,st,hI,ha,hov,S',hw'⟩
  by_cases hlt:i<n
  ·refine W.item i _ _ _ hlt st fun v h'A tB hM hkA=>?_;refine W.go i v _ _ _ hM fun O hP stb hkB=>?_;have SB:Fs c gs' ns' (compEnvC scope cl (D+1) env) g [] ov ((D,listOf acc.toArray kk)::l') O:=S'.frame (fun b o hb e=>hkB b o hb (hkA b o hb e)) (fun b hb=>⟨(hw' b hb).1,(hw' b hb).2,fun p hp=>absurd hp jm⟩) (noc hx st);obtain⟨own,SC,fin0⟩:=a27 (fun b hb=>(hx _ _ stb b hb).imp fun Z x=>x.1) SB (fun b hb=>⟨(hw' b hb).1,(hw' b hb).2,b7⟩) fun b hb=>(hf b hb).imp id fun q=>.inl (q.elim (fun zpa=>by obtain⟨o,e⟩:=zpa; exact⟨o,sb.old _ _ e⟩) fun zpa=>by obtain⟨o,e⟩:=zpa; exact⟨o,sb.fx _ e⟩);rw[jD] at SC;have fin:∀ {acc':List Value} {kk':Nat} {ov':LO} {l'':ac} {h3 t3},Inv (i+1) acc' l''->acc'.length<=i+1->ov'.length=ns'.length->Fs c gs' ns' (compEnvC scope cl (D+1) env) g own ov' ((D,listOf acc'.toArray kk')::l'') h3 ->
     ∃ m,m<n-i/\CSt c gs' ns' (compEnvC scope cl (D+1) env) g n wr D St Inv m (c.at h3 t3):=by
    intro acc' kk' ov' l'' h3 t3 hI' ha' ho' SD;have SE:Fs c gs' ns' (compEnvC scope cl (D+1) env) g [] ov' ((D,listOf acc'.toArray kk')::l'') h3:={ SD with fix:=fun p hp=>absurd hp jm,off:=fun p hp=>absurd hp jm };obtain⟨f1,f2⟩:=fin0 ov' _ h3 (by rw[jD]; exact SD);exact⟨n-(i+1),by exact z11 hlt,h3,t3,i+1,acc',kk',ov',l'',rfl,rfl,hlt,W.frame _ _ _ stb f1,hI',ha',ho',SE,fun b hb=>⟨(f2 b hb).1,(f2 b hb).2.1⟩⟩
   have nw:∀ {α:Type} {t:Sem α} {Q:α->Heap->Prop} {Q':α->Shared->Prop} {E':Value->Shared->Prop} {h t1},Wp c (fun Z Z=>False) A t Q h->(∀ a h' t',Q a h'->Q' a (c.at h' t'))->wpAny (model c.prog c.w) A t Q' E' (c.at h t1) :=
    fun H k=>jd (H.1 _) (fun a s zpa=>by obtain⟨h',t',e,q⟩:=zpa; subst e; exact k a h' t' q) fun e s zpa=>by obtain⟨Z,Z,Z,q⟩:=zpa; exact q.elim
   refine nw (t1:=(tB,t'.2)) (turn (D+1) g D i v acc kk ov l' O own sb hlt hP hI ha hov SC) fun Z h2 t2 H2=>?_;refine nw H2 fun ok h3 t3 H3=>?_
   cases ok with
   | false =>
    obtain⟨ov',l'',ho',hI',SD⟩:=H3.2 rfl;exact fin hI' (Nat.le_succ_of_le ha) ho' SD
   | true =>
    refine nw (H3.1 rfl) fun y h4 t4 zpa=>?_;obtain⟨ov',l'',ho',hI',SD⟩:=zpa;refine nw (aj SD .head (jI (ju ha (js hlt hn))) fun h' S=>(show _ from⟨_,rfl,S⟩)) (Q:=fun Z h'=>∃ k',k'=kk+1/\Fs c gs' ns' (compEnvC scope cl (D+1) env) g own ov' ((D,listOf (acc++[y]).toArray k')::l'') h') fun Z h5 t5 zpa=>?_;obtain⟨k',Z,S5⟩:=zpa;exact fin hI' (by rw[jl]; exact Nat.succ_le_succ ha) ho' S5
  ·have hin:i=n:=by exact b44 hi hlt
   rw[hin] at st hI ha;refine W.done _ _ _ st fun O tB hkB=>?_;have SB:Fs c gs' ns' (compEnvC scope cl (D+1) env) g [] ov ((D,listOf acc.toArray kk)::l') O:=S'.frame hkB (fun b hb=>⟨(hw' b hb).1,(hw' b hb).2,fun p hp=>absurd hp jm⟩) (noc hx st);have gC:g.get? (D+1)=none:=by
    cases e:g.get? (D+1) with
    | none=>rfl
    | some o=>exact absurd (jw (gst _ _ e)) (by rw[hD]; exact Nat.not_lt.mpr (Nat.le_succ _))
   refine done (D+1) D acc kk l' O (tB,t'.2) _ (hD▸Nat.le_refl _) hI ha (S.unsub sb SB) SB.fr.ns ⟨⟨jJ (Nat.lt_succ_of_lt (hD▸S.fr.ns.lt)),jJ SB.lt,?_⟩,fun q hq=>(SB.ap q hq).1,fun p hp e=>?_⟩
   ·cases e:V.get? (D+1) with
    | none=>rfl
    | some o=>have:=sb.old _ _ e; rw[gC] at this; cases this
   ·have:=sb.fx p hp; rw[e,gC] at this; cases this
 exact codeAny_compStart_list (loop _) (self 0 _ _ _ stb (loop _))
theorem Fs.butC{C:Addr}{h' h'':Heap}(S:Fs c gs ns env V fx vs l h')(hC:co env V C/\(∀ q∈l,q.1≠C)/\∀ p∈fx,p.1≠C){m:Str->Option Value}(hn:h'.Ns C m)(hs:Heap.SameBut C h' h''):Fs c gs ns env V fx vs l h'' :=
 S.frame (wr:=[C]) (fun b o hb e=>(hs.2 b fun q=>hb (by rw[q]; exact .head _)).trans e) (fun b hb=>by rw[je.mp hb]; exact hC) fun b hb o e=>by
  rw[je.mp hb] at e;obtain⟨o',es,n,e1,e2,Z⟩:=hn;rw[e] at e1; cases e1; exact ai.dict e2
structure ax8(P Q:Nat->List Value->ac->Prop):Prop where mk ::
 run:∀ i acc l,P i acc l->Q i acc l
theorem ax8.rfl{P:Nat->List Value->ac->Prop}:ax8 P P:=⟨fun Z Z Z x=>x⟩
def CE(c:Cx)(gs' ns':List Str)(A:Around)(cenv:Env)(g:Heap)(own:ac)(D:Addr)(acc:List Value)(k:Nat)(N:Nat->List Value->ac->Prop)(i:Nat):VP:=fun y h =>
 an9 c A cenv gs' ns' g own D acc k (fun acc l=>N (i+1) (acc++[y]) l) h
def CF(c:Cx)(gs' ns':List Str)(A:Around)(cenv:Env)(g:Heap)(own:ac)(D:Addr)(acc:List Value)(k:Nat)(N:Nat->List Value->ac->Prop)(i:Nat):Heap->Prop:=fun h =>
 an9 c A cenv gs' ns' g own D acc k (N (i+1)) h
theorem CE.end{cenv:Env}{g:Heap}{own:ac}{D:Addr}{acc:List Value}{k i:Nat}{y:Value}{h:Heap}{P N:Nat->List Value->ac->Prop}(p:an9 c A cenv gs' ns' g own D acc k (fun acc l=>P (i+1) (acc++[y]) l) h)(K:autoParam (ax8 P N) aA):CE c gs' ns' A cenv g own D acc k N i y h:=by obtain⟨ov,l,a,b,d⟩:=p; exact⟨ov,l,a,K.run _ _ _ b,d⟩
theorem CF.end{cenv:Env}{g:Heap}{own:ac}{D:Addr}{acc:List Value}{k i:Nat}{h:Heap}{P N:Nat->List Value->ac->Prop}(p:an9 c A cenv gs' ns' g own D acc k (P (i+1)) h)(K:autoParam (ax8 P N) aA):CF c gs' ns' A cenv g own D acc k N i h:=by obtain⟨ov,l,a,b,d⟩:=p; exact⟨ov,l,a,K.run _ _ _ b,d⟩
abbrev Kcb (c:Cx) (elt:Expr) (A:Around) (cenv:Env) (T:VP) (U:Heap->Prop):Bool->Heap->Prop:=fun ok h₂=>BB ok (Wp c (fun Z Z=>False) A (eval elt cenv) T h₂) (U h₂)
abbrev Kci (c:Cx) (ifs:List Expr) (elt:Expr) (A:Around) (cenv:Env) (T:VP) (U:Heap->Prop):Unit->Heap->Prop:=fun Z O=>Wp c (fun Z Z=>False) A (an5 ifs cenv) (Kcb c elt A cenv T U) O
theorem bJ{n:Nat}{it:Value}{P:Nat->VP}{cl:List (Str×Addr)}{Q:VP}
  (src:dR c target A env V fx l h it n P) (hn:n<=1000000) (S:Fs c gs ns env V fx vs l h)
  (hkind:scope.kind=.function) (hnames:ad5 scope=true) (hfn:dK (relabel scope env) gs' ns'=true)
  (Inv:Nat->List Value->ac->Prop) (h0:Inv 0 [] l)
  (turn:∀ N,ax8 Inv N->∀ C g D i v acc k ov l' h' own,ez env V fx ns vs g->i<n->P i v h'->Inv i acc l'->acc.length<=i->ov.length=ns'.length->Fs c gs' ns' (compEnvC scope cl C env) g own ov ((D,listOf acc.toArray k)::l') h' ->
   Wp c (fun Z Z=>False) A (assign target (compEnvC scope cl C env) v) (Kci c ifs elt A (compEnvC scope cl C env) (CE c gs' ns' A (compEnvC scope cl C env) g own D acc k N i) (CF c gs' ns' A (compEnvC scope cl C env) g own D acc k N i)) h')
  (done:∀ D acc k l' h',h.objs.size<=D->Inv n acc l'->acc.length<=n->Fs c gs ns env V fx vs ((D,listOf acc.toArray k)::l') h'->Q (.ref D) h')
  : bg0 c E (.ListComp elt [⟨target,iter,ifs,0⟩] scope cpos) scope A env cl none Q it h:=fun tk =>
 az7 (RR:=fun acc C r s=>compPost (model c.prog c.w) A (fun e s=>av fun h' tk'=>s=c.at h' tk'/\E e h') none (fun a s=>av fun h' tk'=>s=c.at h' tk'/\Q a h') acc C r s) src hn S hkind hnames hfn Inv h0 (turn _ .rfl)
  (fun C D acc k l' h' tk m hD hI ha S' hns hC=>⟨m,hns,fun h'' hs=>⟨h'',tk,rfl,done D acc k l' h'' hD hI ha (S'.butC hC hns hs)⟩⟩) tk _
theorem ae9{n:Nat}{it:Value}{P:Nat->VP}{cl:List (Str×Addr)}{Q:VP}{vf:Value->LO}
  (src:dR c target A env V fx l h it n P) (hn:n<=1000000) (S:Fs c gs ns env V fx vs l h)
  (hkind:scope.kind=.function) (hnames:ad5 scope=true) (hfn:dK (relabel scope env) gs' ns'=true)
  (Inv:Nat->List Value->ac->Prop) (h0:Inv 0 [] l)
  (turn:∀ N,ax8 Inv N->∀ C g D i v acc k ov l' h' own,ez env V fx ns vs g->i<n->P i v h'->Inv i acc l'->acc.length<=i->ov.length=ns'.length->Fs c gs' ns' (compEnvC scope cl C env) g own ov ((D,listOf acc.toArray k)::l') h' ->
   Wp c (fun Z Z=>False) A (assign target (compEnvC scope cl C env) v) (Kci c ifs elt A (compEnvC scope cl C env) (CE c gs' ns' A (compEnvC scope cl C env) g own D acc k N i) (CF c gs' ns' A (compEnvC scope cl C env) g own D acc k N i)) h')
  (hput:∀ v,dr y v ns vs (vf v))
  (done:∀ D acc k l' h',h.objs.size<=D->Inv n acc l'->acc.length<=n->Fs c gs ns env V fx (vf (.ref D)) ((D,listOf acc.toArray k)::l') h'->Q .none h')
  : bg0 c E (.ListComp elt [⟨target,iter,ifs,0⟩] scope cpos) scope A env cl (some (assign (.Name y py) env)) Q it h:=fun tk =>
 az7 (RR:=fun acc C r s=>compPost (model c.prog c.w) A (fun e s=>av fun h' tk'=>s=c.at h' tk'/\E e h') (some (assign (.Name y py) env)) (fun a s=>av fun h' tk'=>s=c.at h' tk'/\Q a h') acc C r s) src hn S hkind hnames hfn Inv h0 (turn _ .rfl)
  (fun C D acc k l' h' tk m hD hI ha S' hns hC=>wpAny_assign_Name (wpAny_storeName_local (s:=c.at h' tk) (S'.fn.loc y (hput .none).mem) S'.fr.ns (fun h'' hn' hs'=>by
    have S2:=S'.store (hput (.ref D)) hn' hs';exact⟨m,hns.sameBut hs' hC.1.1,fun h3 hs3=>⟨h3,(_,_),rfl,done D acc k l' h3 hD hI ha (S2.butC hC (hns.sameBut hs' hC.1.1) hs3)⟩⟩)
   (by show(env.scope.kind==.class || (env.scope.kind==.module&&env.locals != env.globals))=false; rw[S'.pl.1]; rfl))) tk _
end
end
section
variable {E:VP} {gs ns:List Str} {pos:Pos} {A:Around} {env:Env} {V:Heap} {fx:ac} {l l':ac} {vs:LO} {h:Heap}
mutual
theorem ds9{v:Value}{Q:VP}(H:Wp c E A (truthy v) (KnV Q) h):Wp c E A (unaryOp .Not v) Q h:=.mk fun tk=>not_of (H.1 tk)
theorem do3{Q:VP}(q:Q (.bool true) h):Wp c E A (compareOp .Is .none .none) Q h:=.mk fun tk=>wpAny_is_self rfl ⟨h,tk,rfl,q⟩
theorem dk8{Q:VP}(q:Q (.bool false) h):Wp c E A (compareOp .IsNot .none .none) Q h:=.mk fun tk=>wpAny_isNot_self rfl ⟨h,tk,rfl,q⟩
theorem dk9{a:Addr}{Q:VP}(q:Q (.bool false) h):Wp c E A (compareOp .Is (.ref a) .none) Q h:=.mk fun tk=>wpAny_is_other rfl (by intro e; cases e) ⟨h,tk,rfl,q⟩
theorem dl0{x:Int}{t:Tok}{Q:VP}(q:Q (.bool false) h):Wp c E A (compareOp .Is (.int x t) .none) Q h:=.mk fun tk=>is_int_none ⟨h,tk,rfl,q⟩
theorem cj0{x:Int}{t:Tok}{Q:VP}(q:Q (.bool true) h):Wp c E A (compareOp .IsNot (.int x t) .none) Q h:=.mk fun tk=>isnot_int_none ⟨h,tk,rfl,q⟩
end
end
mutual
theorem Ar.u{A:Around}{d:Nat}(ar:Ar A d):A.units+64<cLine:=by have:=ar.units; show A.units+64<9900; exact cn0 this
noncomputable def bY{α:Type}(l:List α)(lo hi:Option Int):List α:=(l.drop (kms_lo lo l.length)).take (kms_hi hi l.length-kms_lo lo l.length)
theorem ad1{α:Type}(l:List α)(lo hi:Option Int):(bY l lo hi).length<=l.length:=by
 unfold bY;rw[jL,List.length_drop];exact cm9
theorem bf{vs:List Value}{ns:List Int}(h:IntsAre vs ns)(lo hi:Option Int):IntsAre (bY vs lo hi) (bY ns lo hi):=by
 unfold bY;rw[h.length];exact(h.drop _).take _
noncomputable abbrev ac9(lo hi st:Value):Obj:={ cls:=.type "slice", data:=.fields #[lo,hi,st] }
end
section
variable {E:VP} {gs ns:List Str} {pos:Pos} {e value slice:Expr} {lo hi st:Option Expr} {xs:List Str} {x name:Str} {id:String} {A:Around} {env:Env} {V:Heap} {fx:ac} {l l':ac} {vs:LO} {h:Heap}
mutual
theorem dp0{Q:VP}(q:Q .none h):Wp c E A (valueOrNone (evalOpt none env)) Q h:=.mk fun tk=>jc ⟨h,tk,rfl,q⟩
theorem do9{Q:VP}(H:Wp c E A (eval e env) Q h):Wp c E A (valueOrNone (evalOpt (some e) env)) Q h:=.mk fun tk=>by
 show wpAny _ A (valueOrNone (some (eval e env))) _ _ _
 unfold valueOrNone;exact H.1 tk
theorem do0{Q:VP}
  (H:Wp c E A (valueOrNone (evalOpt lo env)) (Kz1 c E hi st A env Q) h):Wp c E A (eval (.Slice lo hi st pos) env) Q h:=by
 refine .eqv (arm_eval_Slice lo hi st pos env) (.bind (H.mono (fun x h1 k=>.bind (.holding (k.mono (fun y h2 k=>.bind (.holding (k.mono (fun z h3 k=>k) fun Z Z x=>x))) fun Z Z x=>x))) fun Z Z x=>x))
theorem do4{x y z:Value}{Q:VP}(k:∀ a h',h.objs.size<=a->let q9:=((a,ac9 x y z)::l); Fs c gs ns env V fx vs q9 h'->Q (.ref a) h')(S:autoParam (Fs c gs ns env V fx vs l h) aA):Wp c E A (newFields "slice" [x,y,z]) Q h:=.mk fun tk =>
 wpAny_newObj_type ⟨_,(_,_),rfl,k _ _ (Nat.le_refl _) (S.push (ac9 x y z))⟩
theorem aQ{a sl:Addr}{its:List Value}{n:Nat}{vl vu:Value}{lo hi:Option Int}{Q:VP}(S:Fs c gs ns env V fx vs ((sl,ac9 vl vu .none)::l) h)(ha:h.get? a=some (listOf its.toArray n))(pl:IsPart vl lo)(pu:IsPart vu hi)(hz:its.length<=1000000)
  (k:∀ r h',h.objs.size<=r->let q9:=((r,listOf (bY its lo hi).toArray 0)::l); Fs c gs ns env V fx vs q9 h'->Q (.ref r) h')
  (hs:autoParam (∃ ops,subscripted slice false (.ref a) (.ref sl)=operate ops (getItem (.ref a) (.ref sl))) aX) :
  Wp c E A (subscriptTail value slice (.ref a) (.ref sl)) Q h:=by
 refine aa5 (fun tk=>(aq ha).typeIs) list_getitem_lookup (.mk fun tk=>wpAny_getItem_list_slice (s:=c.at h tk) (aq ha) ⟨_,S.own _ (.head _),rfl,rfl⟩ pl pu .none (by simp) ⟨_,(_,_),rfl,k _ _ (Nat.le_refl _) ?_⟩ (by rw[List.size_toArray]; exact bd hz)) hs;have e:({ cls:=.type "list", data:=.seq (slicePick its.toArray lo hi none) }:Obj)=listOf (bY its lo hi).toArray 0:=by rw[kms_pick_eq]; rfl
 rw[e];exact S.drop.push _
theorem bu4{a sl:Addr}{its:List Value}{n:Nat}{vk:Value}{Q:VP}(S:Fs c gs ns env V fx vs ((sl,ac9 .none .none vk)::l) h)(ha:h.get? a=some (listOf its.toArray n))(pk:IsPart vk (some (-1)))(hz:its.length<=1000000)
  (k:∀ r h',h.objs.size<=r->let q9:=((r,listOf its.reverse.toArray 0)::l); Fs c gs ns env V fx vs q9 h'->Q (.ref r) h')
  (hs:autoParam (∃ ops,subscripted slice false (.ref a) (.ref sl)=operate ops (getItem (.ref a) (.ref sl))) aX) :
  Wp c E A (subscriptTail value slice (.ref a) (.ref sl)) Q h:=by
 refine aa5 (fun tk=>(aq ha).typeIs) list_getitem_lookup (.mk fun tk=>wpAny_getItem_list_slice (s:=c.at h tk) (aq ha) ⟨_,S.own _ (.head _),rfl,rfl⟩ .none .none pk (by simp) ⟨_,(_,_),rfl,k _ _ (Nat.le_refl _) ?_⟩ (by rw[List.size_toArray]; exact bd hz)) hs;have e:({ cls:=.type "list", data:=.seq (slicePick its.toArray none none (some (-1))) }:Obj)=listOf its.reverse.toArray 0:=by rw[krv_pick]
 rw[e];exact S.drop.push _
theorem bp4{a:Addr}{its:List Value}{n:Nat}{xs:List Int}{x:Int}{t:Tok}{Q:VP}(ha:h.get? a=some (listOf its.toArray n))(hi:IntsAre its xs)(q:Q (.bool (xs.any (·==x))) h):Wp c E A (compareOp .In (.int x t) (.ref a)) Q h:=.mk fun tk =>
 in_list_ints (s:=c.at h tk) (aq ha) hi ⟨h,tk,rfl,q⟩
theorem bc9{a:Addr}{its:List Value}{n:Nat}{xs:List Int}{x:Int}{t:Tok}{Q:VP}(ha:h.get? a=some { cls:=.type "tuple", data:=.seq its.toArray n }) (hi:IntsAre its xs) (q:Q (.bool (xs.any (·==x))) h):Wp c E A (compareOp .In (.int x t) (.ref a)) Q h:=.mk fun tk =>
 in_tuple_ints (s:=c.at h tk) (cc ha) hi ⟨h,tk,rfl,q⟩
theorem bi2{a:Addr}{its:List Value}{n:Nat}{xs:List Int}{x:Int}{t:Tok}{Q:VP}(ha:h.get? a=some { cls:=.type "tuple", data:=.seq its.toArray n }) (hi:IntsAre its xs) (q:Q (.bool (!(xs.any (·==x)))) h):Wp c E A (compareOp .NotIn (.int x t) (.ref a)) Q h:=.mk fun tk =>
 notin_tuple_ints (s:=c.at h tk) (cc ha) hi ⟨h,tk,rfl,q⟩
theorem as3{a:Addr}{its:List Value}{n:Nat}{t:Tok}{Q:VP}(ha:h.get? a=some { cls:=.type "tuple", data:=.seq its.toArray n }) (hi:StrsAre its xs) (q:Q (.bool (xs.any (·==x))) h):Wp c E A (compareOp .In (.str x t) (.ref a)) Q h:=.mk fun tk =>
 in_tuple_strs (s:=c.at h tk) (cc ha) hi ⟨h,tk,rfl,q⟩
theorem cE{a b:Addr}{xs ys:List Value}{m n d:Nat}{as bs:List Int}{Q:VP}(ar:Ar A d)(ha:h.get? a=some (listOf xs.toArray m))(hb:h.get? b=some (listOf ys.toArray n))(ia:IntsAre xs as)(ib:IntsAre ys bs)(q:Q (.bool (decide (as=bs))) h):Wp c E A (compareOp .Eq (.ref a) (.ref b)) Q h:=.mk fun tk =>
 eq_intsK (s:=c.at h tk) (aq ha) ia (aq hb) ib ar.u ⟨h,tk,rfl,q⟩
theorem dy{a b:Addr}{xs ys:List Value}{m n d:Nat}{as bs:List Int}{Q:VP}(ar:Ar A d)(ha:h.get? a=some (listOf xs.toArray m))(hb:h.get? b=some (listOf ys.toArray n))(ia:IntsAre xs as)(ib:IntsAre ys bs)(q:Q (.bool (!decide (as=bs))) h):Wp c E A (compareOp .NotEq (.ref a) (.ref b)) Q h:=.mk fun tk =>
 ne_intsK (s:=c.at h tk) (aq ha) ia (aq hb) ib ar.u ⟨h,tk,rfl,q⟩
theorem af7{a:Addr}{its:List Value}{n:Nat}{Q:VP}(S:Fs c gs ns env V fx vs l h)(ha:h.get? a=some (listOf its.toArray n))(hz:its.length<=1000000)
  (k:∀ r m h',h.objs.size<=r->let q9:=((r,listOf its.toArray m)::l); Fs c gs ns env V fx vs q9 h'->Q (.ref r) h'):Wp c E A (call (.type "list") [.ref a]) Q h:=.mk fun tk=>by
 obtain⟨ps,ht,N⟩:=S.all;refine list_copyLP (s:=c.at h tk) S.fr N (aq ha) (fun h' F ex Z Z np=>?_) (by rw[List.size_toArray]; exact bd hz);obtain⟨m,e⟩:=np.1;refine⟨h',(_,_),rfl,k _ m h' (Nat.le_refl _) ?_⟩;have S':=S.ext ex;exact{ S' with
  own:=af (e) fun p hp=>S'.own p hp
  ord:=⟨fun q hq=>jv (jw (S.own q hq)),S.ord⟩
  ap:=af (S.fresh (Nat.le_refl _)) fun p hp=>S.ap p hp
  off:=fun p hp=>⟨(S.off p hp).1,af (jv (jw (S.fix p hp))) fun q hq=>(S.off p hp).2 q hq⟩ }
theorem Fs.upd{tl:ac}(S:Fs c gs ns env V fx vs l h){d:Addr}{o o':Obj}(no:¬ ai o)(u:Up d o o' l l')(ht:ac8 V tl)(N:News V env.locals h (l++(fx++tl))):Upd d o o' (l++(fx++tl)) (l'++(fx++tl)):=u.upd S.ord fun p hp =>
 (jg.mp hp).elim (fun hp=>(S.off p hp).2 _ u.mem) (S.tl_ne ht N u.mem no p)
theorem Fs.upback{h':Heap}{tl:ac}(S:Fs c gs ns env V fx vs l h){d:Addr}{o o':Obj}(u:Up d o o' l l')(ht:ac8 V tl)(F:Fr V env.locals h' (bO ns vs))(N:News V env.locals h' (l'++(fx++tl))):Fs c gs ns env V fx vs l' h' :=
 S.back ht F N (S.ord.same u.same) fun p hp=>by
  obtain⟨r,hr,e⟩:=u.at hp;rw[<- e];exact⟨(S.ap r hr).2.1,fun q hq=>(S.off q hq).2 r hr⟩
theorem bi5{a:Addr}{its:Array Value}{n:Nat}{pl:Sem Bool}{Q:Value×List Value->Heap->Prop}(slot:Slot "list" name id) (hty:typeOf (.builtin id)=Pure.pure (.type "method_descriptor")) (ha:h.get? a=some (listOf its n)) (q:Q (.builtin id,[.ref a]) h):Wp c E A (getMethod (.ref a) name pl) Q h:=.mk fun tk =>
 getMethod_builtin (s:=c.at h tk) ⟨_,ha,rfl⟩ PySem.F.plainAttrs_list slot hty (fun b e=>by cases e; exact⟨_,ha,rfl⟩) ⟨h,tk,rfl,q⟩
theorem dt2{a:Addr}{its:Array Value}{n:Nat}{pl:Sem Bool}{Q:Value×List Value->Heap->Prop}(q:Q (.builtin "list.pop", [.ref a]) h) (ha:autoParam (h.get? a=some (listOf its n)) aM):Wp c E A (getMethod (.ref a) (PySem.Str.ofString "pop") pl) Q h:=bi5 PySem.F.slot_list_pop PySem.F.type_list_pop ha q
theorem dl2{a:Addr}{its:Array Value}{n:Nat}{pl:Sem Bool}{Q:Value×List Value->Heap->Prop}(q:Q (.builtin "list.extend", [.ref a]) h) (ha:autoParam (h.get? a=some (listOf its n)) aM):Wp c E A (getMethod (.ref a) (PySem.Str.ofString "extend") pl) Q h:=bi5 PySem.F.slot_list_extend PySem.F.type_list_extend ha q
theorem ay6:∀ (p:List Value) (y:Value),kl_last (p++[y])=some (p,y)
 | [],y=>rfl
 | x::r,y=>by
  show(match kl_last (r++[y]) with|some (p,y)=>some (x::p,y)|none=>some ([],x))=_
  rw[ay6 r y]
theorem an1{a:Addr}{p:List Value}{y:Value}{n:Nat}{Q:VP}(S:Fs c gs ns env V fx vs l h)(u:Up a (listOf (p++[y]).toArray n) (listOf p.toArray (n+1)) l l')(hz:p.length<1000000)
  (k:let q9:=l'; ∀ h',Fs c gs ns env V fx vs q9 h'->Q y h'):Wp c E A (call (.builtin "list.pop") [.ref a]) Q h:=.mk fun tk=>by
 obtain⟨ps,ht,N⟩:=S.all;exact kl_pop (s:=c.at h tk) S.fr N (ay6 p y) (S.upd (ai.seq rfl) u ht N) (by simp; exact bd hz) fun h' F N'=>⟨h',(_,_),rfl,k h' (S.upback u ht F N')⟩
theorem aa9{a b:Addr}{xs ys:List Value}{m n:Nat}{Q:VP}(S:Fs c gs ns env V fx vs ((a,listOf xs.toArray m)::l) h)(hb:h.get? b=some (listOf ys.toArray n))(hz:xs.length+ys.length<=1000000)
  (k:∀ m' h',let q9:=((a,listOf (xs++ys).toArray m')::l); Fs c gs ns env V fx vs q9 h'->Q .none h'):Wp c E A (call (.builtin "list.extend") [.ref a,.ref b]) Q h:=.mk fun tk=>by
 obtain⟨ps,ht,N⟩:=S.all;refine extend_in (s:=c.at h tk) (own:=[]) S.fr N (fun p hp=>absurd hp jm) (fun p hp=>?_) hb (fun h' n' F N'=>⟨h',(_,_),rfl,k n' h' (S.upback .head ht F N')⟩) (by rw[List.size_toArray]; exact bd hz)
 rcases jg.mp hp with hp|hp
 ·exact S.ord.1 p hp
 ·rcases jg.mp hp with hp|hp
  ·exact(S.off p hp).2 _ (.head _)
  ·exact S.tl_ne ht N (.head _) (ai.seq rfl) p hp
theorem cc8{a:Addr}{its:List Value}{n:Nat}{xs:List Int}{Q:VP}(S:Fs c gs ns env V fx vs l h)(hh:A.handled=none)(ha:h.get? a=some (listOf its.toArray n))(hi:IntsAre its xs)(h0:0<xs.length)
  (k:∀ m t h',m∈xs->(∀ x∈xs,m<=x)->Fs c gs ns env V fx vs l h'->Q (.int m t) h'):Wp c E A (call (.builtin "min") [.ref a]) Q h:=.mk fun tk=>by
 obtain⟨ps,ht,N⟩:=S.all;exact min_list_N (s:=c.at h tk) hh S.fr N (aq ha) hi h0 fun h' m t tk' F N' hm hl=>⟨h',(tk',tk.2),rfl,k m t h' hm hl (S.same ht F N')⟩
theorem bi0{a:Addr}{its:List Value}{n:Nat}{Q:VP}(S:Fs c gs ns env V fx vs l h)(ha:h.get? a=some (listOf its.toArray n))(hi:StrsAre its xs)(h64:its.length<64)(hl:PyData.layable0 (.list (xs.map .str))=true)
  (k:∀ r its' xs' m h',h.objs.size<=r->StrsAre its' xs'->xs'.Perm xs->sortedS xs'=true->let q9:=((r,listOf its'.toArray m)::l); Fs c gs ns env V fx vs q9 h'->Q (.ref r) h'):Wp c E A (call (.builtin "sorted") [.ref a]) Q h:=.mk fun tk=>by
 obtain⟨ps,ht,N⟩:=S.all;exact sorted_N2_str (s:=c.at h tk) S.fr N (aq ha) hi hl h64 fun h' vs' ns' e F N' Z i Z Z Z p w=>⟨h',(_,_),rfl,k _ vs' ns' e h' (Nat.le_succ _) i p w (S.one ht (Nat.le_succ _) F N')⟩
end
end
section
variable {E:VP} {gs ns:List Str} {pos:Pos} {target:Expr} {elts:List Expr} {x name qual:Str} {params:Arguments} {body:List Stmt} {scope:Scope} {A:Around} {env:Env} {V:Heap} {fx:ac} {l l':ac} {vs:LO} {h:Heap}
mutual
theorem ao1{A:Around}(bs:List Bool):TruthOf c.prog c.w A (fun i v=>(bs.map Value.bool).toArray[i]?=some v) (fun i=>bs.getD i false):=fun i v s Q E hv q=>by
 have hv:(bs.map Value.bool)[i]?=some v:=by simpa using hv
 rw[List.getElem?_map] at hv
 cases hb:bs[i]? with
 | none=>rw[hb] at hv; cases hv
 | some b =>
  rw[hb] at hv
  cases hv
  have e:bs.getD i false=b:=by rw[jk,hb]; rfl
  dsimp only at q;rw[e] at q;exact wpAny_truthy_bool q
theorem bl5(bs:List Bool):(List.range bs.length).any (fun i=>bs.getD i false)=bs.any id:=by
 induction bs with
 | nil=>rfl
 | cons b r ih=>rw[jA,List.range_succ_eq_map,List.any_cons,List.any_map,List.any_cons]; exact congrArg (b || ·) ih
theorem bl6(bs:List Bool):(List.range bs.length).all (fun i=>bs.getD i false)=bs.all id:=by
 induction bs with
 | nil=>rfl
 | cons b r ih=>rw[jA,List.range_succ_eq_map,List.all_cons,List.all_map,List.all_cons]; exact congrArg (b&&·) ih
theorem cg1{a:Addr}{bs:List Bool}{n:Nat}{Q:VP}(S:Fs c gs ns env V fx vs l h)(hh:A.handled=none)(ha:h.get? a=some (listOf (bs.map Value.bool).toArray n))
  (k:∀ h',Fs c gs ns env V fx vs l h'->Q (.bool (bs.any id)) h'):Wp c E A (call (.builtin "any") [.ref a]) Q h:=.mk fun tk=>by
 have hl:=aq ha;have hne:a≠h.objs.size:=jv (jw ha);refine call_any_walk (s:=c.at h tk) (wpAny_pyIter_list hl ⟨_,_,_,_,_,_,fun i=>bs.getD i false,rfl,Walks.list (A:=A.in1) hh h.objs.size a hne _,⟨⟨_,jq _ rfl,rfl,rfl⟩,hl.at fun o e=>jp _ e⟩,ao1 bs,fun h' tk' hk=>?_⟩);have e:(bs.map Value.bool).toArray.size=bs.length:=by simp
 rw[e,bl5];exact⟨h',(tk',tk.2),rfl,k h' (((S.push { cls:=.type "list_iterator", data:=.fields #[.ref a,.int 0 0] }).drop).frame hk (fun b hb=>by rw[je.mp hb]; exact S.apt (Nat.le_refl _)) fun b hb o e=>by rw[je.mp hb] at e; rw[show(h.push { cls:=.type "list_iterator", data:=.fields #[.ref a,.int 0 0] }).get? h.objs.size=_ from jq _ rfl] at e; cases e; exact ai.fld rfl (by simp [rawInt]))⟩
theorem cg2{a:Addr}{bs:List Bool}{n:Nat}{Q:VP}(S:Fs c gs ns env V fx vs l h)(hh:A.handled=none)(ha:h.get? a=some (listOf (bs.map Value.bool).toArray n))
  (k:∀ h',Fs c gs ns env V fx vs l h'->Q (.bool (bs.all id)) h'):Wp c E A (call (.builtin "all") [.ref a]) Q h:=.mk fun tk=>by
 have hl:=aq ha;have hne:a≠h.objs.size:=jv (jw ha);refine call_all_walk (s:=c.at h tk) (wpAny_pyIter_list hl ⟨_,_,_,_,_,_,fun i=>bs.getD i false,rfl,Walks.list (A:=A.in1) hh h.objs.size a hne _,⟨⟨_,jq _ rfl,rfl,rfl⟩,hl.at fun o e=>jp _ e⟩,ao1 bs,fun h' tk' hk=>?_⟩);have e:(bs.map Value.bool).toArray.size=bs.length:=by simp
 rw[e,bl6];exact⟨h',(tk',tk.2),rfl,k h' (((S.push { cls:=.type "list_iterator", data:=.fields #[.ref a,.int 0 0] }).drop).frame hk (fun b hb=>by rw[je.mp hb]; exact S.apt (Nat.le_refl _)) fun b hb o e=>by rw[je.mp hb] at e; rw[show(h.push { cls:=.type "list_iterator", data:=.fields #[.ref a,.int 0 0] }).get? h.objs.size=_ from jq _ rfl] at e; cases e; exact ai.fld rfl (by simp [rawInt]))⟩
theorem ah4{it:Value}{n:Nat}{P:Nat->VP}{Q:VP}(src:dR c target A env V fx l h it n P)(q:Q it h):Wp c E A (pyIter it) Q h:=.mk fun tk=>by
 obtain⟨I,fp,wr,Md,St,rfl,W,st,hw,hx,hf,self⟩:=src;exact self 0 (c.at h tk) _ _ st ⟨h,tk,rfl,q⟩
def au7(P:Nat->Value->Value->Prop)(i:Nat)(v:Value)(h:Heap):Prop:=b5 fun T x y=>bB (v=.ref T) (P i x y) (IsTup h T #[x,y])
theorem KTurns.monoP{prog:Program}{w:World}{A:Around}{I:Addr}{fp wr:List Addr}{n:Nat}{P P' Md:Nat->VP}{St:Nat->Heap->Prop}(W:KTurns prog w A target I fp wr n P Md St)(k:∀ i v h,P i v h->P' i v h):KTurns prog w A target I fp wr n P' Md St where
 sub:=W.sub
 frame:=W.frame
 item:=W.item
 go:=fun i v s Q E m hQ=>W.go i v s Q E m fun h' p st kk=>hQ h' (k _ _ _ p) st kk
 done:=W.done
theorem al3{a:Addr}{its:List Value}{n:Nat}{Q:VP}(S:Fs c gs ns env V fx vs l h)(hh:A.handled=none)(ha:In V fx a (listOf its.toArray n))
  (k:∀ e h',Fs c gs ns env V fx vs l h'->(∀ elts tk tp,dR c (.Tuple elts tk tp) A env V fx l h' (.ref e) its.length (au7 fun i x y=>(∃ t,x=.int i t)/\its[i]?=some y))->Q (.ref e) h'):Wp c E A (call (.type "enumerate") [.ref a]) Q h:=.mk fun tk=>by
 have ga:=S.at' ha;have hl:=aq ga;refine call_enumerate_list (s:=c.at h tk) hl fun h' he hit hz hk=>?_;have hz:h'.objs.size=h.objs.size+2:=hz;have he:IsEnum h' (h.objs.size+1) h.objs.size 0 .none:=he;have hit:h'.IsListIter h.objs.size a 0:=hit;have hk:∀ b o,h.get? b=some o->h'.get? b=some o:=hk;have lt:=jw ga;refine⟨h',(_,_),rfl,k _ h' (S.ext hk) fun elts tk tp=>?_⟩;have W:=KTurns.ofWalksU (elts:=elts) (k:=tk) (pos:=tp) (WalksT.toU (WalksT.enumerate (prog:=c.prog) (w:=c.w) (A:=A) hh (h.objs.size+1) h.objs.size a (Nat.succ_ne_self _) (jv (Nat.lt_succ_of_lt lt)) (jv lt) its.toArray));have W':=KTurns.monoP (P':=au7 fun i x y=>(∃ t,x=.int i t)/\its[i]?=some y) W fun i v h q=>by
  obtain⟨T,vals,e,⟨t,x,e1,e2⟩,e3⟩:=q;exact⟨T,.int i t,x,e,⟨⟨t,rfl⟩,by simpa using e1⟩,by rw[<- e2]; exact e3⟩
 have e1:its.toArray.size=its.length:=by simp
 rw[e1] at W';refine⟨_,_,_,_,_,rfl,W',⟨⟨_,he⟩,hit,hl.at fun o e=>hk _ o e⟩,?_,?_,?_,fun i s Q E st q=>wpAny_pyIter_enum st.1.choose_spec q⟩
 ·exact af (S.apt (Nat.le_succ _)) (af (S.apt (Nat.le_refl _)) b7)
 ·rintro i h' ⟨⟨Z,e⟩,⟨o,e2,Z,ed⟩,Z⟩;exact af ⟨_,e,ai.fld rfl (by simp [rawInt])⟩ (af ⟨o,e2,ai.fld ed (by simp)⟩ b7)
 ·exact af (.inl (.head _)) (af (.inl (.tail _ (.head _))) (af (.inr ha.fp) b7))
theorem cg4{a b:Addr}{xs ys:List Value}{m n:Nat}{Q:VP}(S:Fs c gs ns env V fx vs l h)(hh:A.handled=none)(ha:In V fx a (listOf xs.toArray m))(hb:In V fx b (listOf ys.toArray n))
  (k:∀ e h',Fs c gs ns env V fx vs l h'->(∀ elts tk tp,dR c (.Tuple elts tk tp) A env V fx l h' (.ref e) (min xs.length ys.length) (au7 fun i x y=>xs[i]?=some x/\ys[i]?=some y))->Q (.ref e) h'):Wp c E A (call (.type "zip") [.ref a,.ref b]) Q h:=.mk fun tk=>by
 have ga:=S.at' ha;have gb:=S.at' hb;have hla:=aq ga;have hlb:=aq gb;refine call_zip_2 (s:=c.at h tk) hla hlb fun h' hz0 h1 h2 h3 h4 hz hk=>?_;have hz:h'.objs.size=h.objs.size+5:=hz;have hk:∀ b o,h.get? b=some o->h'.get? b=some o:=hk;have la:=jw ga;have lb:=jw gb;refine⟨h',(_,_),rfl,k _ h' (S.ext hk) fun elts tk tp=>?_⟩;have ne:∀ {x:Addr} (j:Nat),x<h.objs.size->x≠h.objs.size+j:=fun j lt=>jv (js lt (Nat.le_add_right _ _));have D:ZipApart (h.objs.size+4) (h.objs.size+2) (h.objs.size+3) h.objs.size (h.objs.size+1) a b :=
  ⟨by first|exact d7 (by decide)|exact dl (by decide)|exact(dl (by decide)).symm,by first|exact d7 (by decide)|exact dl (by decide)|exact(dl (by decide)).symm,by first|exact d7 (by decide)|exact dl (by decide)|exact(dl (by decide)).symm,by first|exact d7 (by decide)|exact dl (by decide)|exact(dl (by decide)).symm,by first|exact d7 (by decide)|exact dl (by decide)|exact(dl (by decide)).symm,by first|exact d7 (by decide)|exact dl (by decide)|exact(dl (by decide)).symm,by first|exact d7 (by decide)|exact dl (by decide)|exact(dl (by decide)).symm,by first|exact d7 (by decide)|exact dl (by decide)|exact(dl (by decide)).symm,by first|exact d7 (by decide)|exact dl (by decide)|exact(dl (by decide)).symm,by first|exact d7 (by decide)|exact dl (by decide)|exact(dl (by decide)).symm,ne 4 la,ne 3 la,ne 0 la,ne 1 la,ne 4 lb,ne 3 lb,ne 0 lb,ne 1 lb⟩
 have W:=KTurns.ofWalksU (elts:=elts) (k:=tk) (pos:=tp) (WalksT.toU (WalksT.zip2 (prog:=c.prog) (w:=c.w) (A:=A) hh _ _ _ _ _ _ _ D xs.toArray ys.toArray));have W':=KTurns.monoP (P':=au7 fun i x y=>xs[i]?=some x/\ys[i]?=some y) W fun i v h q=>by
  obtain⟨T,vals,e,⟨x,y,e1,e2,e3⟩,e4⟩:=q;exact⟨T,x,y,e,⟨by simpa using e1,by simpa using e2⟩,by rw[<- e3]; exact e4⟩
 have W':=KTurns.wider W' (wr':=[h.objs.size+4,h.objs.size+2,h.objs.size+3,h.objs.size,h.objs.size+1]) (by repeat' (first|exact b7|refine af ?_ ?_|exact List.mem_cons_self|apply List.mem_cons_of_mem)) (by repeat' (first|exact b7|refine af ?_ ?_|exact List.mem_cons_self|apply List.mem_cons_of_mem));have e1:xs.toArray.size=xs.length:=by simp
 have e2:ys.toArray.size=ys.length:=by simp
 rw[e1,e2] at W';refine⟨_,_,_,_,_,rfl,W',⟨hz0,h1,⟨_,_,h2⟩,h3,h4,hla.at fun o e=>hk _ o e,hlb.at fun o e=>hk _ o e⟩,?_,?_,?_,fun i s Q E st q=>wpAny_pyIter_zip st.1 q⟩
 ·exact af (S.apt (Nat.le_add_right _ _)) (af (S.apt (Nat.le_add_right _ _)) (af (S.apt (Nat.le_add_right _ _)) (af (S.apt (Nat.le_refl _)) (af (S.apt (Nat.le_add_right _ _)) b7))))
 ·rintro i h' ⟨s1,s2,⟨Z,Z,s3⟩,⟨Z,s4,Z,c4⟩,⟨Z,s5,Z,c5⟩,Z⟩;exact af ⟨_,s1,ai.fld rfl (by simp [rawInt])⟩ (af ⟨_,s2,ai.seq rfl⟩ (af ⟨_,s3,ai.seq rfl⟩ (af ⟨_,s4,ai.fld c4 (by simp)⟩ (af ⟨_,s5,ai.fld c5 (by simp)⟩ b7))))
 ·repeat' (first|exact b7|exact .inr ha.fp|exact .inr hb.fp|refine af ?_ ?_|refine .inl ?_|exact List.mem_cons_self|apply List.mem_cons_of_mem)
noncomputable abbrev ah0(a b:Int)(t u v:Tok):Obj:={ cls:=.type "range", data:=.fields #[.int a t,.int b u,.int 1 v] }
theorem af8{b:Int}{u:Tok}{Q:VP}(S:Fs c gs ns env V fx vs l h)(k:∀ r t v h',h.objs.size<=r->let q9:=((r,ah0 0 b t u v)::l); Fs c gs ns env V fx vs q9 h'->Q (.ref r) h'):Wp c E A (call (.type "range") [.int b u]) Q h:=.mk fun tk =>
 call_range_1 (s:=c.at h tk) ⟨_,(_,_),rfl,k _ _ _ _ (Nat.le_refl _) (S.push (ah0 0 b tk.1 u (tk.1+1)))⟩
theorem bp9{a b:Int}{t u:Tok}{Q:VP}(S:Fs c gs ns env V fx vs l h)(k:∀ r v h',h.objs.size<=r->let q9:=((r,ah0 a b t u v)::l); Fs c gs ns env V fx vs q9 h'->Q (.ref r) h'):Wp c E A (call (.type "range") [.int a t,.int b u]) Q h:=.mk fun tk =>
 call_range_2 (s:=c.at h tk) ⟨_,(_,_),rfl,k _ _ _ (Nat.le_refl _) (S.push (ah0 a b t u tk.1))⟩
theorem ad6{r:Addr}{a b:Int}{t u w:Tok}{Q:VP}(hh:A.handled=none)(S:Fs c gs ns env V fx vs ((r,ah0 a b t u w)::l) h)(ha:0<=a)(hb:0<=b)(ha':a<2 ^ 62)(hb':b<2 ^ 62)
  (k:∀ it h',Fs c gs ns env V fx vs l h'->(∀ x xp,dR c (.Name x xp) A env V fx l h' it (b-a).toNat (fun i v Z=>∃ t,v=.int (a+i) t))->Q it h'):Wp c E A (pyIter (.ref r)) Q h:=.mk fun tk=>by
 have hr:IsRange h r a b 1 t u w:=S.own _ (.head _);have S':=S.drop;refine wpAny_pyIter_range (s:=c.at h tk) hr (small_one (b29 ha) ha' (b29 hb) hb') ?_;refine⟨_,(_,_),rfl,k _ _ ((S'.push { cls:=.type "range_iterator", data:=.fields #[rawInt a,rawInt (Builtin.Range.rangeSize a b 1),rawInt 1] }).drop) fun x xp=>?_⟩;have W:=KTurns.ofWalks (target:=.Name x xp) (Walks.range (prog:=c.prog) (w:=c.w) (A:=A) hh h.objs.size a 1 (b-a).toNat) (fun i v s Q E st q=>jc q);have W':=KTurns.monoP (P':=fun i v Z=>∃ t,v=.int (a+i) t) W fun i v h zpa=>by obtain⟨t,e⟩:=zpa; exact⟨t,by rw[e,Int.mul_one]⟩
 refine⟨_,_,_,_,_,rfl,W',?_,?_,?_,?_,fun i s Q E st q=>wpAny_pyIter_rangeiter st q⟩
 ·show IsRangeIter _ _ (a+((0:Nat):Int)*1) (((b-a).toNat:Int)-((0:Nat):Int)) 1
  have e1:a+((0:Nat):Int)*1=a:=by simp
  have e2:(((b-a).toNat:Int)-((0:Nat):Int))=Builtin.Range.rangeSize a b 1:=by
   rw[rangeSize_one]
   by_cases q:a<b
   ·rw[if_pos q]; exact(Int.sub_zero _).trans (Int.toNat_of_nonneg (Int.sub_nonneg.mpr (Int.le_of_lt q)))
   ·rw[if_neg q]; exact(Int.sub_zero _).trans (congrArg Nat.cast (Int.toNat_of_nonpos (Int.sub_nonpos_of_le (Int.not_lt.mp q))))
  rw[e1,e2];exact jq _ rfl
 ·intro b hb;rw[je.mp hb];exact S'.apt (Nat.le_refl _)
 ·intro i h' st b hb;rw[je.mp hb];exact⟨_,st,ai.fld rfl (by simp [rawInt])⟩
 ·intro b hb;exact .inl hb
theorem ah7{t:Addr}{items:List Value}{k:Nat}{Q:Unit->Heap->Prop}(S:Fs c gs ns env V fx vs l h)(hh:A.handled=none)(ht:IsTup h t items.toArray)
  (hn:(assignEach elts env).length=items.length) (hs:(assignEach elts env).findIdx? (·.1)=none) (K:∀ h',Fs c gs ns env V fx vs l h'->Wp c E A (assignInOrder ((assignEach elts env).map (·.2)) items) Q h') :
  Wp c E A (assign (.Tuple elts k pos) env (.ref t)) Q h:=.mk fun tk =>
 assign_Tuple_tuple (s:=c.at h tk) (items:=items.toArray) hh ht (by simp [hn]) hs fun h' he=>(K h' (S.extBut he)).1 tk
theorem dp8{a:Addr}{o:Obj}{v:Value}{Q:VP}(q:Q v h)(S:autoParam (Fs c gs ns env V fx vs l h) aA)(hk:autoParam (env.kindOf x=some .cell) aU)(hc:autoParam (env.cells.lookup x=some a) aU)(ho:autoParam (h.get? a=some o) aC)(hd:autoParam (o.data=.cell (some v)) aA)
  (hx:autoParam ((x==("__debug__" : Str))=false) aD):Wp c E A (eval (.Name x pos) env) Q h:=.mk fun tk=>wpAny_Name (wpAny_loadName_cell (s:=c.at h tk) S.pl.1 hk hc ⟨o,ho,hd⟩ ⟨h,tk,rfl,q⟩) hx
theorem a34{a:Addr}{o:Obj}{v:Value}{vA:Option Value}{Q:Unit->Heap->Prop}{l:ac}(S:Fs c gs ns env V fx vs ((a,o)::l) h)(hk:env.kindOf x=some .cell)(hc:env.cells.lookup x=some a)(hd:o.data=.cell vA)
  (k:∀ o' h',o'.data=.cell (some v)->let q9:=((a,o')::l); Fs c gs ns env V fx vs q9 h'->Q () h'):Wp c E A (storeName env x v) Q h:=.mk fun tk =>
 wpAny_storeName_cell (s:=c.at h tk) S.pl.1 hk hc ⟨o,S.own _ (.head _),hd⟩ fun h' zpa hs=>by obtain⟨o',e,hd'⟩:=zpa; exact⟨h',tk,rfl,k o' h' hd' (S.update (ai.cell hd) .head e fun b x hb e=>(hs.2 b hb).trans e)⟩
theorem az9{cm:Str->Option Value}{cs:List (Str×Addr)}{cells:ac}(x:CellsAre cm cs cells){q}(hq:q∈cells):∃ m,(m,q.1)∈cs:=by
 induction x with
 | nil=>exact absurd hq jm
 | cons _ _ ih =>
  rcases jf.mp hq with rfl|hq
  ·exact⟨_,.head _⟩
  ·obtain⟨m,hm⟩:=ih hq;exact⟨m,.tail _ hm⟩
theorem bf6{cm:Str->Option Value}{cs:List (Str×Addr)}{cells:ac}(x:CellsAre cm cs cells)(h:cs.Pairwise fun x y=>x.2≠y.2):bn cells:=by
 induction x with
 | nil=>trivial
 | cons _ r ih =>
  obtain⟨a1,a2⟩:=List.pairwise_cons.mp h;refine⟨fun q hq=>?_,ih a2⟩;obtain⟨m,hm⟩:=az9 r hq;exact(a1 _ hm).symm
theorem at2{d:Nat}{f:Addr}{args:List Value}{dV kV doc pm cdv ct oc:Value}{an od:Option Addr}{osl:Array (Option Value)}
  {binds:List (Str×Value)} {gs ns:List Str} {Post:VP} {vs:LO} (G:ak c h)
  (hl:(Mine.hd.heap_39 c.w.params).lookup f=some ⟨oc,od,.func (fnOf name qual params body scope dV kV doc pm an cdv ct),osl⟩) (hcd:codeIn (Mine.hd.heap_39 c.w.params) cdv qual=true)
  (hb:∀ s:Shared,(Mine.hd.heap_39 c.w.params).In s.heap->BindsTo s (fnOf name qual params body scope dV kV doc pm an cdv ct) ⟨args,[]⟩ binds)
  (hkd:∀ n,KindsOk scope n binds) (hnd:((cellsFrom 0 scope.names []).map (·.1)).Nodup)
  (hvs:∀ L,bindL (envOfC qual scope L f cdv).kindOf binds (fun Z=>none)=bO ns vs) (fn:dK scope gs ns=true)
  (W:∀ A L O cells,Ar A d->h.objs.size<=L->CellsAre (bindC (envOfC qual scope L f cdv).kindOf binds fun Z=>none) (cellsFrom (L+1) scope.names []) cells->let env:=envOfC qual scope L f cdv; let w:=vs; Fs c gs ns env (h.hide ag) [] w cells O ->
   ∀ R,eg (aj9 fun v h'=>bU h h'/\Post v h') R->Wp c (fun Z Z=>False) A (execs body env) R O)
  (hco:autoParam (scope.isCoroutine=false) aU) (hgen:autoParam (scope.isGenerator=false) aU) (hk:autoParam (scope.kind=.function) aU):Ct c (d+1) (.ref f) args h Post:=fun A ar=>Cp.call <| .mk fun tk=>by
 have X:c.K.In h:=fun a o e=>Heap.of_hide (G.gd.X a o e);obtain⟨mean,mg,mb,T⟩:=G.gd.T;have st:=ae8 h ag;refine codeAny_call_function (s:=c.at h tk) (fd:=fnOf name qual params body scope dV kV doc pm an cdv ct) (by have:=ar.depth; show A.depth<1000; exact bb0 this) (X _ _ hl) rfl hco hgen rfl (codeRec_of X hcd) (hb (c.at h tk) X _ _ _ _ ?_);refine wpAny_newFunctionEnv_cells hk (kinds_of (hkd _)) fun env' he s' x=>?_;subst he;refine⟨(T.nolimit.keeps st).keeps x.toInCall.keep,codeAny_func ?_⟩;obtain⟨O,tk',rfl,Z⟩:=x.done;have hkB:∀ b o,h.get? b=some o->O.get? b=some o:=x.toInCall.keep;obtain⟨cells,NC,Y⟩:=Cl.news (h₀:=h) (Nat.le_refl _) fun n c hm=>⟨x.cell n c (lookup_of_mem_nodup (cellsFrom_names scope.names 0 (h.objs.size+1) [] [] rfl▸hnd) hm),x.above n c hm⟩;have ht:@LT.lt Nat _ ag h.objs.size:=by obtain⟨Z,e,Z,Z⟩:=G.tab; exact jw e
 have hn1:∀ p∈cells,h.get? p.1=none:=fun p hp=>(NC p hp).2.2;have hge:∀ p∈cells,h.objs.size<p.1:=fun p hp=>let ⟨n,hm⟩:=az9 Y hp; x.above n p.1 hm;have hap:bn cells:=bf6 Y x.apart;have S:Fs c gs ns (envOfC qual scope h.objs.size f cdv) (h.hide ag) [] vs cells O :=
  {fr:=⟨by rw[<- hvs h.objs.size]; exact x.toInCall.ns,fun b o e=>hkB b o (st b o e),jB (Heap.hide_size h ag)⟩
   own:=fun p hp=>(NC p hp).1
   ord:=hap
   ap:=fun p hp=>⟨jJ (hge p hp),jJ (jK ht (hge p hp)),by
    cases e:(h.hide ag).get? p.1 with
    | none=>rfl
    | some o=>have:=hn1 p hp; rw[st _ _ e] at this; cases this⟩
   tab:=G.tab.mono fun Z Z Z e=>hkB _ _ e
   lt:=ht
   no:=Heap.hide_self h ag
   gd:=G.gd
   fn:=Fn.ofS fn
   pl:=⟨hk,rfl,rfl⟩
   fix:=fun p hp=>absurd hp jm
   off:=fun p hp=>absurd hp jm }
 refine jd ((W _ _ O cells (ar.deeper (env:=envOfC qual scope h.objs.size f cdv)) (Nat.le_refl _) Y S _ .rfl).run (tk',tk.2)) (fun fl s zpa=>?_) (fun e s zpa=>by obtain⟨h',t',Z,q⟩:=zpa; exact q.elim);obtain⟨h',t',e,q⟩:=zpa;subst e;exact⟨h',t',rfl,_,rfl,q⟩
end
end
section
variable {E:VP} {gs ns:List Str} {pos:Pos} {x:Str} {value slice o i:Expr} {p:Pos} {keys:List (Option Expr)} {values:List Expr} {A:Around} {env:Env} {V:Heap} {fx:ac} {l l':ac} {vs:LO} {h:Heap}
variable {K:Type} [DecidableEq K] {knd:PySem.KeyKind c.prog c.w K}
mutual
noncomputable abbrev sK(c:Cx):PySem.KeyKind c.prog c.w Str:=PySem.strKind c.prog c.w
noncomputable abbrev iK(c:Cx):PySem.KeyKind c.prog c.w Int:=PySem.intKind c.prog c.w
theorem bi{t:Tok}:(sK c).is x (.str x t)=true:=strKind_is c.prog c.w x t
theorem a16{x:Int}{t:Tok}:(iK c).is x (.int x t)=true:=intKind_is c.prog c.w x t
abbrev dT(d:Addr):Prop:=(d==sysModules)=false
theorem Fs.nsm(S:Fs c gs ns env V fx vs l h){d:Addr}(hd:h.objs.size<=d):dT d:=by
 have h1:@LT.lt Nat _ ag d:=js (jK S.lt S.fr.ns.lt) hd;have h2:d≠sysModules:=fun e=>by rw[e] at h1; exact absurd h1 (by decide)
 exact beq_eq_false_iff_ne.mpr h2
theorem ec{d:Addr}{o:Obj}{kvs:List (K×Value)}(hd:h.get? d=some o)(io:Obj.IsDictOf knd o kvs):h.DictOf knd d kvs:=Heap.dictOf_iff.mpr ⟨o,hd,io⟩
theorem bp8{o:Obj}{kvs:List (K×Value)}(io:Obj.IsDictOf knd o kvs):¬ ai o:=by obtain⟨Z,Z,Z,e,Z⟩:=io; exact ai.dict e
theorem br8{d:Addr}{o:Obj}{kvs:List (K×Value)}{k:K}{key:Value}{Q:VP}(hd:h.get? d=some o)(io:Obj.IsDictOf knd o kvs)(hs:dT d)(hk:knd.is k key=true)(q:Q (.bool (valueAt kvs k).isSome) h):Wp c E A (compareOp .In key (.ref d)) Q h:=.mk fun tk =>
 wpAny_in_of (s:=c.at h tk) hk hs (ec hd io).mapOf ⟨h,(_,_),rfl,q⟩
theorem bv2{d:Addr}{o:Obj}{kvs:List (K×Value)}{k:K}{key:Value}{Q:VP}(hd:h.get? d=some o)(io:Obj.IsDictOf knd o kvs)(hs:dT d)(hk:knd.is k key=true)(q:Q (.bool (!(valueAt kvs k).isSome)) h):Wp c E A (compareOp .NotIn key (.ref d)) Q h:=.mk fun tk =>
 wpAny_notIn_of (s:=c.at h tk) hk hs (ec hd io).mapOf ⟨h,(_,_),rfl,q⟩
theorem ac0{d:Addr}{o:Obj}{kvs:List (K×Value)}{k:K}{key v:Value}{Q:VP}(hd:h.get? d=some o)(io:Obj.IsDictOf knd o kvs)(hk:knd.is k key=true)(hv:valueAt kvs k=some v)(q:Q v h)
  (hs:autoParam (∃ ops,subscripted slice false (.ref d) key=operate ops (getItem (.ref d) key)) aX):Wp c E A (subscriptTail value slice (.ref d) key) Q h :=
 aa5 (fun tk=>(ec (knd:=knd) hd io).typeIs) slot_dict_getitem.lookup (.mk fun tk=>wpAny_getItem_of (s:=c.at h tk) hk (ec hd io).mapOf hv ⟨h,(_,_),rfl,q⟩) hs
theorem bu8{d:Addr}{o:Obj}{kvs:List (K×Value)}{pl:Sem Bool}{Q:Value×List Value->Heap->Prop}(hd:h.get? d=some o)(io:Obj.IsDictOf knd o kvs)(q:Q (.builtin "dict.get", [.ref d]) h):Wp c E A (getMethod (.ref d) (PySem.Str.ofString "get") pl) Q h:=.mk fun tk =>
 getMethod_builtin (s:=c.at h tk) (ec hd io).typeIs PySem.F.plainAttrs_dict PySem.F.slot_dict_get PySem.F.type_dict_get (ec hd io).mapOf.noDict ⟨h,tk,rfl,q⟩
theorem bv3{d:Addr}{o:Obj}{kvs:List (K×Value)}{k:K}{key:Value}{Q:VP}(hd:h.get? d=some o)(io:Obj.IsDictOf knd o kvs)(hs:dT d)(hk:knd.is k key=true)(q:Q ((valueAt kvs k).getD .none) h):Wp c E A (call (.builtin "dict.get") [.ref d,key]) Q h:=.mk fun tk =>
 call_meetsIn (s:=c.at h tk) PySem.F.slot_dict_get (ec hd io).typeIs PySem.F.entry_dict_get (PySem.F.args_dict_get_2 _ _) (meets_dict_get knd d hk hs) ⟨_,(ec hd io).mapOf,h,(_,_),rfl,q⟩
theorem bh4{Q:FP}(H:Wp c E A (eval value env) (Ki1 c E o i A env Q) h)
  (hs:autoParam (swapsWith value (some (.Subscript o i p)) pos.line env=Pure.pure false) aU):Wp c E A (exec (.Assign [.Subscript o i p] value pos) env) Q h:=.mk fun tk =>
 wpAny_Assign_Subscript (H.on tk fun v h1 t1 k=>by
  exact(k.on t1 fun v h2 t2 k=>k.nest t2)) hs
theorem aj7{d:Addr}{o:Obj}{kvs:List (K×Value)}{k:K}{key v:Value}{Q:Unit->Heap->Prop}(S:Fs c gs ns env V fx vs ((d,o)::l) h)(io:Obj.IsDictOf knd o kvs)(hk:knd.is k key=true)(hz:kvs.length<=1000000)
  (K:∀ o' h',Obj.IsDictOf knd o' (stored kvs k v)->let q9:=((d,o')::l); Fs c gs ns env V fx vs q9 h'->Q () h'):Wp c E A (setItem (.ref d) key v) Q h:=.mk fun tk =>
 wpAny_setItem_pairs (s:=c.at h tk) hk (ec (S.own _ (.head _)) io) (fun h' hd' hs=>by
  obtain⟨o',e,io'⟩:=Heap.dictOf_iff.mp hd';exact⟨h',(_,_),rfl,K o' h' io' (S.update (bp8 io) .head e fun b x hb e=>(hs.2 b hb).trans e)⟩) (bd hz)
theorem ba3:Obj.IsDictOf knd (dictOf [] 0) []:=by
 obtain⟨o,ho,io⟩:=Heap.dictOf_iff.mp (Heap.DictOf.new (knd:=knd) ({ objs:=#[] }:Heap));have e:(({ objs:=#[] }:Heap).push { cls:=.type "dict", data:=.dict #[] }).get? ({ objs:=#[] }:Heap).objs.size=some (dictOf [] 0):=jq _ rfl;rw[e] at ho
 cases ho
 exact io
theorem ah1{Q:VP}(S:Fs c gs ns env V fx vs l h)(k:∀ d h',h.objs.size<=d->dT d->let q9:=((d,dictOf [] 0)::l); Fs c gs ns env V fx vs q9 h'->Q (.ref d) h'):Wp c E A (eval (.Dict [] [] pos) env) Q h:=.mk fun tk=>by
 rw[eval_Dict_empty];exact jb (wpAny_standAt (wpAny_newObj_type ⟨_,(_,_),rfl,k _ _ (Nat.le_refl _) (S.nsm (Nat.le_refl _)) (S.push (dictOf [] 0))⟩))
theorem cf6{Q:List (Value×Value)->Heap->Prop}(q:Q [] h):Wp c E A (evalPairs []) Q h:=.mk fun tk=>evalPairs_nil ⟨h,tk,rfl,q⟩
theorem cc4{k v:Sem Value}{rest:List (Sem Value×Sem Value)}{Q:List (Value×Value)->Heap->Prop}(H:Wp c E A k (Kp1 c E A v rest Q) h):Wp c E A (evalPairs ((k,v)::rest)) Q h:=.mk fun tk =>
 evalPairs_cons (H.on tk fun v h1 t1 k=>(k.on t1 fun v h2 t2 k=>k.1 t2))
theorem dq3{v:Sem Value}{Q:VP}(H:Wp c E A v Q h):Wp c E A (do let x <- v; PySem.standAt pos; Pure.pure x) Q h:=.bind (H.mono (fun a h q=>.bind (.standAt (.pure q))) fun Z Z x=>x)
noncomputable def ad4(env:Env)(pos:Pos)(ks:List (Option Expr))(vs:List Expr):List (Sem Value×Sem Value) :=
 ((ks.filterMap id).zip vs).map fun p=>(eval p.1 env,do let x <- eval p.2 env; PySem.standAt pos; Pure.pure x)
theorem dq2{Q:List (Value×Value)->Heap->Prop}(q:Q [] h):Wp c E A (evalPairs (ad4 env pos [] [])) Q h:=cf6 q
theorem do2{k v:Expr}{ks:List (Option Expr)}{vs:List Expr}{Q:List (Value×Value)->Heap->Prop}(H:Wp c E A (eval k env) (Kp1 c E A (do let x <- eval v env; PySem.standAt pos; Pure.pure x) (ad4 env pos ks vs) Q) h):Wp c E A (evalPairs (ad4 env pos (some k::ks) (v::vs))) Q h:=cc4 H
theorem bh5{Q:VP}(S:Fs c gs ns env V fx vs l h)
  (H:∀ d h',h.objs.size<=d->dT d->Fs c gs ns env V fx vs ((d,dictOf [] 0)::l) h'->Wp c E A (evalPairs (ad4 env pos keys values)) (fun ps O=>av fun(kvs:List (K×Value)) (lB:ac)=>bB (Carries knd ps kvs) (Fs c gs ns env V fx vs ((d,dictOf [] 0)::lB) O) (∀ o h₂,Obj.IsDictOf knd o (merged [] kvs)->Fs c gs ns env V fx vs ((d,o)::lB) h₂->Q (.ref d) h₂)) h')
  (hshape:autoParam ((evalEachOpt keys env).zip ((evalEach values env).map fun v=>do let x <- v; PySem.standAt pos; Pure.pure x)=(ad4 env pos keys values).map fun p=>(some p.1,p.2)) aU) (h0:autoParam ((ad4 env pos keys values)≠[]) aN) (hlen:autoParam ((ad4 env pos keys values).length<=15) aZ):Wp c E A (eval (.Dict keys values pos) env) Q h:=.mk fun tk=>by
 refine wpAny_Dict_pairs (knd:=knd) (s:=c.at h tk) hshape h0 hlen (jd ((H h.objs.size (h.push (dictOf [] 0)) (Nat.le_refl _) (S.nsm (Nat.le_refl _)) (S.push (dictOf [] 0))).1 tk) (fun ps s zpa=>?_) fun Z Z x=>x);obtain⟨h1,t1,e,k⟩:=zpa;subst e;obtain⟨kvs,lB,hc,SB,K⟩:=k;refine⟨kvs,hc,ec (SB.own _ (.head _)) ba3,fun h' hd' hs=>?_⟩;obtain⟨o',e,io'⟩:=Heap.dictOf_iff.mp hd';exact⟨h',(_,_),rfl,K o' h' io' (SB.update (ai.dict rfl) .head e fun b x hb e=>(hs.2 b hb).trans e)⟩
def DI(knd:PySem.KeyKind c.prog c.w K)(R:RP)(d:Addr)(kvs:List (K×Value)):Prop:=dT d/\∃ o,R d o/\Obj.IsDictOf knd o kvs
theorem DI.mono{R R':RP}{d:Addr}{kvs:List (K×Value)}(i:DI knd R d kvs)(k:∀ a o,R a o->R' a o):DI knd R' d kvs:=by obtain⟨n,o,e,h⟩:=i; exact⟨n,o,k _ _ e,h⟩
end
end
mutual
inductive VI(R:RP):Value->PyData->Prop
 | none:VI R .none .none
 | int (n t):VI R (.int n t) (.int n)
 | str (x t):PyData.strOk x=true->VI R (.str x t) (.str x)
 | tup {a vs n ds}:R a { cls:=.type "tuple", data:=.seq vs.toArray n }->vs.length<=1000->aw R vs ds->VI R (.ref a) (.tuple ds)
inductive aw(R:RP):List Value->List PyData->Prop
 | nil:aw R [] []
 | cons {v vs d ds}:VI R v d->aw R vs ds->aw R (v::vs) (d::ds)
end
mutual
theorem VI.ind{R:RP}{P:Value->PyData->Prop}{Q:List Value->List PyData->Prop}(c1:P .none .none)(c2:∀ n t,P (.int n t) (.int n))(c3:∀ x t,PyData.strOk x=true->P (.str x t) (.str x))(c4:∀ {a vs n ds},R a { cls:=.type "tuple", data:=.seq vs.toArray n }->vs.length<=1000->Q vs ds->P (.ref a) (.tuple ds)) (c5:Q [] []) (c6:∀ {v vs d ds},P v d->Q vs ds->Q (v::vs) (d::ds)):(∀ {v d},VI R v d->P v d)/\∀ {vs ds},aw R vs ds->Q vs ds :=
 ⟨VI.rec (motive_1:=fun v d Z=>P v d) (motive_2:=fun vs ds Z=>Q vs ds) c1 c2 c3 (fun e z Z q=>c4 e z q) c5 (fun Z Z p q=>c6 p q),aw.rec (motive_1:=fun v d Z=>P v d) (motive_2:=fun vs ds Z=>Q vs ds) c1 c2 c3 (fun e z Z q=>c4 e z q) c5 (fun Z Z p q=>c6 p q)⟩
theorem aw.ind{R:RP}{Q:List Value->List PyData->Prop}{vs:List Value}{ds:List PyData}(r:aw R vs ds)(c5:Q [] [])(c6:∀ {v vs d ds},VI R v d->Q vs ds->Q (v::vs) (d::ds)):Q vs ds :=
 aw.rec (motive_1:=fun Z Z Z=>True) (motive_2:=fun vs ds Z=>Q vs ds) trivial (fun Z Z=>trivial) (fun Z Z Z=>trivial) (fun Z Z Z Z=>trivial) c5 (fun x Z Z q=>c6 x q) r
theorem VI.monos{R R':RP}(k:∀ a o,R a o->R' a o):(∀ {v d},VI R v d->VI R' v d)/\∀ {v d},aw R v d->aw R' v d :=
 VI.ind .none .int .str (fun e z r=>.tup (k _ _ e) z r) .nil .cons
theorem VI.mono{R R':RP}(k:∀ a o,R a o->R' a o){v:Value}{d:PyData}(x:VI R v d):VI R' v d:=(VI.monos k).1 x
theorem aw.mono{R R':RP}(k:∀ a o,R a o->R' a o){v:List Value}{d:List PyData}(x:aw R v d):aw R' v d:=(VI.monos k).2 x
theorem aw.length{R:RP}{vs:List Value}{ds:List PyData}(r:aw R vs ds):vs.length=ds.length:=r.ind (Q:=fun vs ds=>vs.length=ds.length) rfl fun Z e=>congrArg (·+1) e
theorem aw.get{R:RP}{vs:List Value}{ds:List PyData}(r:aw R vs ds){i:Nat}{v:Value}:vs[i]?=some v->∃ d,ds[i]?=some d/\VI R v d:=by
 refine aw.ind (Q:=fun vs ds=>∀ i,vs[i]?=some v->∃ d,ds[i]?=some d/\VI R v d) r (fun i e=>absurd e (by simp)) (fun{v' _ d _} x q i e=>?_) i
 cases i with
 | zero =>
  have e:v'=v:=Option.some.inj e;exact⟨d,rfl,e▸x⟩
 | succ i=>exact q i e
theorem aw.getd{R:RP}{vs:List Value}{ds:List PyData}(r:aw R vs ds){i:Nat}{d:PyData}(e:ds[i]?=some d):∃ v,vs[i]?=some v/\VI R v d:=by
 have hl:=r.length;have hi:i<vs.length:=by rw[hl]; exact(List.getElem?_eq_some_iff.mp e).1
 obtain⟨d',e',x⟩:=r.get (jj hi);rw[e] at e'
 cases e'
 exact⟨_,jj hi,x⟩
theorem aw.append{R:RP}{vs ds vs' ds'}(x:aw R vs ds)(y:aw R vs' ds'):aw R (vs++vs') (ds++ds'):=x.ind (Q:=fun vs ds=>aw R (vs++vs') (ds++ds')) y fun x q=>.cons x q
theorem aw.drops{R:RP}{vs ds}(x:aw R vs ds):aw R vs ds/\∀ k:Nat,aw R (vs.drop k) (ds.drop k)/\aw R (vs.take k) (ds.take k) :=
 x.ind (Q:=fun vs ds=>aw R vs ds/\∀ k:Nat,aw R (vs.drop k) (ds.drop k)/\aw R (vs.take k) (ds.take k)) ⟨.nil,fun k=>by rw[List.drop_nil,List.drop_nil,List.take_nil,List.take_nil]; exact⟨.nil,.nil⟩⟩ fun x q=>⟨.cons x q.1,fun k=>by
  cases k with
  | zero=>exact⟨.cons x q.1,.nil⟩
  | succ k=>exact⟨(q.2 k).1,.cons x (q.2 k).2⟩⟩
theorem aw.drop{R:RP}{vs ds}(x:aw R vs ds)(k:Nat):aw R (vs.drop k) (ds.drop k):=(x.drops.2 k).1
theorem aw.take{R:RP}{vs ds}(x:aw R vs ds)(k:Nat):aw R (vs.take k) (ds.take k):=(x.drops.2 k).2
theorem aw.slc{R:RP}{vs:List Value}{ds:List PyData}(x:aw R vs ds)(lo hi:Option Int):aw R (bY vs lo hi) (bY ds lo hi):=by
 unfold bY;rw[x.length];exact(x.drop _).take _
theorem VI.readss{h:Heap}:(∀ {v d},VI (fun a o=>h.get? a=some o) v d->∃ as,Reads h v d as)/\∀ {v d},aw (fun a o=>h.get? a=some o) v d->∃ as,ReadsAll h v d as:=by
 refine VI.ind (P:=fun v d=>∃ as,Reads h v d as) (Q:=fun v d=>∃ as,ReadsAll h v d as) ⟨_,.none⟩ (fun n t=>⟨_,.int n t⟩) (fun x t Z=>⟨_,.str x t⟩) (fun e Z q=>?_) ⟨_,.nil⟩ (fun p q=>?_)
 ·obtain⟨as,q⟩:=q;exact⟨as,.tuple e rfl rfl q⟩
 ·obtain⟨as,p⟩:=p;obtain⟨bs,q⟩:=q;exact⟨_,.cons p q⟩
theorem VI.reads{h:Heap}{v:Value}{d:PyData}(x:VI (fun a o=>h.get? a=some o) v d):∃ as,Reads h v d as:=VI.readss.1 x
theorem aw.reads{h:Heap}{v:List Value}{d:List PyData}(x:aw (fun a o=>h.get? a=some o) v d):∃ as,ReadsAll h v d as:=VI.readss.2 x
theorem VI.lays{R:RP}:(∀ {v d},VI R v d->d.canLay0=true)/\∀ {v d},aw R v d->PyData.canLayAll0 d=true :=
 VI.ind (P:=fun Z d=>d.canLay0=true) (Q:=fun Z d=>PyData.canLayAll0 d=true) (by simp only[PyData.canLay0]) (fun Z Z=>by simp only[PyData.canLay0]) (fun Z Z h=>by simp only[PyData.canLay0]; exact h) (fun Z Z q=>by simp only[PyData.canLay0]; exact q) (by simp only[PyData.canLayAll0]) (fun p q=>by simp only[PyData.canLayAll0,p,q,Bool.and_self])
theorem VI.lay{R:RP}{v:Value}{d:PyData}(x:VI R v d):d.canLay0=true:=VI.lays.1 x
theorem aw.lay{R:RP}{v:List Value}{d:List PyData}(x:aw R v d):PyData.canLayAll0 d=true:=VI.lays.2 x
theorem VI.two{R:RP}{v:Value}{d d':PyData}(x:VI R v (.tuple [d,d'])):cP fun a v1 v2 n=>bK (v=.ref a) (R a { cls:=.type "tuple", data:=.seq (List.toArray [v1,v2]) n }) (VI R v1 d) (VI R v2 d'):=by
 cases x with
 | tup e _ r =>
 cases r with
 | cons y r =>
 cases r with
 | cons z r =>
 cases r
 exact⟨_,_,_,_,rfl,e,y,z⟩
theorem VI.intD{R:RP}{v:Value}{n:Int}(x:VI R v (.int n)):∃ t,v=.int n t:=by cases x; exact⟨_,rfl⟩
theorem VI.strD{R:RP}{v:Value}{n:Str}(x:VI R v (.str n)):∃ t,v=.str n t:=by cases x; exact⟨_,rfl⟩
theorem VI.ints{R:RP}{v:Value}{a b:Int}(x:VI R v (.tuple [.int a,.int b])):cP fun p n t u=>v=.ref p/\R p { cls:=.type "tuple", data:=.seq (List.toArray [.int a t,.int b u]) n }:=by
 obtain⟨p,v1,v2,n,e,r,y,z⟩:=x.two;obtain⟨t,e1⟩:=y.intD;obtain⟨u,e2⟩:=z.intD;exact⟨p,n,t,u,e,by rw[<- e1,<- e2]; exact r⟩
theorem VI.strW{R:RP}{v:Value}{s:Str}{d:PyData}(x:VI R v (.tuple [.str s,d])):cP fun p n t w=>bB (v=.ref p) (R p { cls:=.type "tuple", data:=.seq (List.toArray [.str s t,w]) n }) (VI R w d):=by
 obtain⟨p,v1,v2,n,e,r,y,z⟩:=x.two;obtain⟨t,e1⟩:=y.strD;exact⟨p,n,t,v2,e,by rw[<- e1]; exact r,z⟩
theorem am2{ds:List PyData}:∀ {i:Nat} {d:PyData},ds[i]?=some d->d.depth<=PyData.depthAll ds:=by
 induction ds with
 | nil=>intro i d e; simp at e
 | cons x r ih =>
  intro i d e;simp only[PyData.depthAll]
  cases i with
  | zero =>
   have e:x=d:=Option.some.inj e;rw[e]; exact Nat.le_max_left _ _
  | succ i=>exact jr (ih (i:=i) e) (Nat.le_max_right _ _)
end
section
variable {E:VP} {gs ns:List Str} {pos:Pos} {A:Around} {env:Env} {V:Heap} {fx:ac} {l l':ac} {vs:LO} {h:Heap}
mutual
theorem Fs.vi(S:Fs c gs ns env V fx vs l h){v:Value}{d:PyData}(x:VI (In V fx) v d):VI (fun a o=>h.get? a=some o) v d:=x.mono fun Z Z=>S.at'
theorem bd0{v v':Value}{d d':PyData}{k:Nat}{Q:VP}(ar:Ar A k)(x:VI (fun a o=>h.get? a=some o) v d)(y:VI (fun a o=>h.get? a=some o) v' d')(h1:d.depth<=64)(h2:d'.depth<=64)(q:Q (.bool (PyData.eqv d d')) h):Wp c E A (compareOp .Eq v v') Q h:=.mk fun tk=>by
 obtain⟨as,r⟩:=x.reads;obtain⟨bs,r'⟩:=y.reads;refine eq_dataH (s:=c.at h tk) r r' ?_ ?_ ar.u ⟨h,tk,rfl,q⟩
 ·show(d.canLay0&&decide (d.depth<=64))=true
  rw[x.lay,jz h1]; rfl
 ·show(d'.canLay0&&decide (d'.depth<=64))=true
  rw[y.lay,jz h2]; rfl
noncomputable def a50:PyData->Bool
 | .tuple _=>true
 | _=>false
theorem bi3{v:Value}{d:PyData}{Q:VP}(x:VI (fun a o=>h.get? a=some o) v d)(q:Q (.bool (a50 d)) h):Wp c E A (call (.builtin "isinstance") [v,.type "tuple"]) Q h:=.mk fun tk=>by
 cases x with
 | none=>exact IsiPair.NoneType_tuple ⟨h,(_,_),rfl,q⟩
 | int n t=>exact IsiPair.int_tuple ⟨h,(_,_),rfl,q⟩
 | str x t _=>exact IsiPair.str_tuple ⟨h,(_,_),rfl,q⟩
 | tup e _ _=>exact IsiPair.tuple_tuple (s:=c.at h tk) e rfl ⟨h,(_,_),rfl,q⟩
theorem as2{v:Value}{d:PyData}{Q:VP}(x:VI (fun a o=>h.get? a=some o) v d)(q:Q (.bool false) h):Wp c E A (call (.builtin "isinstance") [v,.type "bool"]) Q h:=.mk fun tk=>by
 cases x with
 | none=>exact IsiPair.NoneType_bool ⟨h,(_,_),rfl,q⟩
 | int n t=>exact IsiPair.int_bool ⟨h,(_,_),rfl,q⟩
 | str x t _=>exact IsiPair.str_bool ⟨h,(_,_),rfl,q⟩
 | tup e _ _=>exact IsiPair.tuple_bool (s:=c.at h tk) e rfl ⟨h,(_,_),rfl,q⟩
theorem as1{a:Addr}{its:List Value}{n:Nat}{Q:VP}(ha:h.get? a=some { cls:=.type "tuple", data:=.seq its.toArray n }) (hf:its.length<2 ^ 60) (q:∀ t,Q (.int its.length t) h):Wp c E A (call (.builtin "len") [.ref a]) Q h:=.mk fun tk =>
 len_tuple (s:=c.at h tk) (cc ha) (by simp; exact b30 hf) ⟨h,(_,_),rfl,q _⟩
end
end
theorem Fs.fixed{h:Heap}{env:Env}{gs ns:List Str}{V:Heap}{fx:ac}{vs:LO}{l:ac}(S:Fs c gs ns env V fx vs l h){a:Addr}{o:Obj}(hm:(a,o)∈fx):h.get? a=some o:=S.fix _ hm
section
variable {E:VP} {x y:Str} {A:Around} {h:Heap}
mutual
theorem bu7{x y:Bool}{Q:VP}(q:Q (.bool (x==y)) h):Wp c E A (compareOp .Eq (.bool x) (.bool y)) Q h:=.mk fun tk=>eq_bool ⟨h,tk,rfl,q⟩
theorem ad7{t u:Tok}{Q:VP}(q:Q (.bool (decide (x=y))) h):Wp c E A (compareOp .Eq (.str x t) (.str y u)) Q h:=.mk fun tk=>eq_str ⟨h,tk,rfl,q⟩
theorem a14{t u:Tok}{Q:VP}(q:Q (.bool (x != y)) h):Wp c E A (compareOp .NotEq (.str x t) (.str y u)) Q h:=.mk fun tk=>ne_str ⟨h,tk,rfl,q⟩
end
end
mutual
structure ak0(as:List Addr)(h h':Heap):Prop where
 stays:∀ b o,b∉as->b≠ag->h.get? b=some o->h'.get? b=some o
 tab:cw h'
 size:h.objs.size<=h'.objs.size
def bo(as:List Addr)(h:Heap)(a:Addr)(o:Obj):Prop:=h.get? a=some o/\a≠ag/\a∉as
def eL(c:Cx)(d:Nat)(f:Value)(args:List Value)(m:ac)(h:Heap)(Post:Value->ac->Heap->Prop):Prop :=
 ∀ A,Ar A d->Wp c (fun Z Z=>False) A (call f args) (fun v h'=>∃ m',bK (ak0 (m.map (·.1)) h h') (m'.map (·.1)=m.map (·.1)) (∀ p∈m',h'.get? p.1=some p.2) (Post v m' h')) h
end
section
variable {E:VP} {gs ns:List Str} {pos:Pos} {name qual:Str} {params:Arguments} {body:List Stmt} {scope:Scope} {A:Around} {env:Env} {V:Heap} {fx:ac} {l l':ac} {vs:LO} {h:Heap}
mutual
theorem bo.in{as:List Addr}(a:Addr)(o:Obj)(x:bo as h a o):In (hideAll h (ag::as)) [] a o:=.inl (hideAll_get _ x.1 fun q=>(jf.mp q).elim x.2.1 x.2.2)
theorem Fs.isl(S:Fs c gs ns env V fx vs l h){a:Addr}{o:Obj}(x:(a,o)∈l):Is h a o:=S.own _ x
theorem Fs.hsB{m r:ac}(S:Fs c gs ns env V fx vs (m++r) h)(a:Addr)(o:Obj)(x:In V fx a o):bo (m.map (·.1)) h a o :=
 ⟨S.at' x,(S.hs a o x).2,fun q=>by
  obtain⟨p,hp,e⟩:=jM.mp q
  rcases x with x|x
  ·exact(S.ap p (ji _ hp)).old_ne x e.symm
  ·exact(S.off _ x).2 p (ji _ hp) e.symm⟩
structure ck(c:Cx)(m:ac)(h:Heap):Prop where
 gd:Gd c (hideAll h (ag::m.map (·.1)))
 tab:cw h
 own:∀ p∈m,h.get? p.1=some p.2/\p.1≠ag
 ord:bn m
theorem bn.left:∀ {m r:ac},bn (m++r)->bn m
 | [],_,_=>trivial
 | _::_,_,⟨a,b⟩=>⟨fun q hq=>a q (ji _ hq),b.left⟩
theorem bn.apart{m r:ac}(d:bn (m++r)):∀ p∈m,∀ q∈r,q.1≠p.1:=by
 induction m with
 | nil=>exact fun p hp=>absurd hp jm
 | cons x m ih =>
  obtain⟨a,b⟩:=d;intro p hp q hq
  rcases jf.mp hp with rfl|hp
  ·exact a q (jh _ hq)
  ·exact ih b p hp q hq
theorem bn.map_same{m m' r:ac}(e:m'.map (·.1)=m.map (·.1))(d:bn (m++r)):bn (m'++r):=d.same (by rw[List.map_append,List.map_append,e])
theorem af9{m m':ac}(e:m'.map (·.1)=m.map (·.1)){q:Addr×Obj}(hq:q∈m'):∃ r∈m,r.1=q.1:=by
 have:q.1∈m'.map (·.1):=List.mem_map_of_mem hq;rw[e] at this;exact jM.mp this
theorem Fs.goodM{m r:ac}(S:Fs c gs ns env V fx vs (m++r) h):ck c m h where
 gd:=S.gd.keeps fun b o e=>hideAll_get _ (S.keep e) fun q=>by
  rcases jf.mp q with q|q
  ·subst q; rw[S.no] at e; cases e
  ·obtain⟨p,hp,e'⟩:=jM.mp q;exact(S.ap p (ji _ hp)).old_ne e e'.symm
 tab:=S.tab
 own:=fun p hp=>⟨S.own p (ji _ hp),(S.ap p (ji _ hp)).2.1⟩
 ord:=S.ord.left
theorem am1{d:Nat}{f:Addr}{args:List Value}{dV kV doc pm cdv ct oc:Value}{an od:Option Addr}{osl:Array (Option Value)}
  {binds:List (Str×Value)} {gs ns rest:List Str} {m:ac} {Post:Value->ac->Heap->Prop} {vs:LO} (G:ck c m h)
  (hl:(Mine.hd.heap_39 c.w.params).lookup f=some ⟨oc,od,.func (fnOf name qual params body scope dV kV doc pm an cdv ct),osl⟩) (hcd:codeIn (Mine.hd.heap_39 c.w.params) cdv qual=true)
  (hb:∀ s:Shared,(Mine.hd.heap_39 c.w.params).In s.heap->BindsTo s (fnOf name qual params body scope dV kV doc pm an cdv ct) ⟨args,[]⟩ binds)
  (hns:ns=binds.map (·.1)++rest) (hvs:vs=binds.map (fun b=>some b.2)++rest.map fun Z=>none) (fn:dK scope gs ns=true)
  (W:∀ A L O,Ar A d->h.objs.size<=L->let env:=ce qual scope f cdv L; let w:=vs; Fs c gs ns env (hideAll h (ag::m.map (·.1))) [] w m O ->
   ∀ R,eg (aj9 fun v h'=>∃ m',bK (ak0 (m.map (·.1)) h h') (m'.map (·.1)=m.map (·.1)) (∀ p∈m',h'.get? p.1=some p.2) (Post v m' h')) R->Wp c (fun Z Z=>False) A (execs body env) R O)
  (hco:autoParam (scope.isCoroutine=false) aU) (hgen:autoParam (scope.isGenerator=false) aU) (hk:autoParam (scope.kind=.function) aU)
  (hcell:autoParam (scope.names.all (fun x=>x.2 != .cell)=true) aU):eL c (d+1) (.ref f) args m h Post:=fun Z ar =>
 Cp.call (at3 ar G.gd G.tab (fun b o e=>of_hideAll _ e) (hideAll_none _ (.head _)) (jB (hideAll_size _ _)) (fun p hp=>⟨(G.own p hp).1,(G.own p hp).2,hideAll_none _ (.tail _ (List.mem_map_of_mem hp))⟩) G.ord hl hcd hb hns hvs fn W hco hgen hk hcell)
theorem Fs.keptM{m m' r:ac}{Post:ac->Prop}{O:Heap}(S:Fs c gs ns env (hideAll O (ag::m.map (·.1))) fx vs (m'++r) h)(hL:O.objs.size<=env.locals)(e:m'.map (·.1)=m.map (·.1))(p:Post m') :
  ∃ m',bK (ak0 (m.map (·.1)) O h) (m'.map (·.1)=m.map (·.1)) (∀ p∈m',h.get? p.1=some p.2) (Post m') :=
 ⟨m',⟨fun b o hb ht g=>S.fr.keep b o (hideAll_get _ g fun q=>(jf.mp q).elim ht hb),S.tab,jI (ju hL S.fr.ns.lt)⟩,e,fun p hp=>S.own p (ji _ hp),p⟩
theorem Fs.afterM{m m' r:ac}{h':Heap}(S:Fs c gs ns env V fx vs (m++r) h)(k:ak0 (m.map (·.1)) h h')(e:m'.map (·.1)=m.map (·.1))(o:∀ p∈m',h'.get? p.1=some p.2):Fs c gs ns env V fx vs (m'++r) h' where
 fr:=⟨S.fr.ns.at' fun o e=>k.stays _ _ (fun q=>by
   obtain⟨p,hp,e'⟩:=jM.mp q;exact(S.ap p (ji _ hp)).1 e') (jJ S.lt) e,fun b o e=>k.stays _ _ (fun q=>by
   obtain⟨p,hp,e'⟩:=jM.mp q;exact(S.ap p (ji _ hp)).old_ne e e'.symm) (fun q=>by subst q; rw[S.no] at e; cases e) (S.keep e),S.fr.above⟩
 own:=fun p hp=>(jg.mp hp).elim (o p) fun hp=>k.stays _ _ (fun q=>by
   obtain⟨x,hx,e'⟩:=jM.mp q;exact S.ord.apart x hx p hp e'.symm) (S.ap p (jh _ hp)).2.1 (S.own p (jh _ hp))
 ord:=S.ord.map_same e
 ap:=fun p hp=>(jg.mp hp).elim (fun hp=>by
   obtain⟨x,hx,e'⟩:=af9 e hp;rw[<- e']; exact S.ap x (ji _ hx)) fun hp=>S.ap p (jh _ hp)
 tab:=k.tab
 lt:=S.lt
 no:=S.no
 gd:=S.gd
 fn:=S.fn
 pl:=S.pl
 fix:=fun p hp=>k.stays _ _ (fun q=>by
   obtain⟨x,hx,e'⟩:=jM.mp q;exact(S.off p hp).2 x (ji _ hx) e'.symm) (S.off p hp).1.2.1 (S.fix p hp)
 off:=fun p hp=>⟨(S.off p hp).1,fun q hq=>(jg.mp hq).elim (fun hq=>by
   obtain⟨x,hx,e'⟩:=af9 e hq;rw[<- e']; exact(S.off p hp).2 x (ji _ hx)) fun hq=>(S.off p hp).2 q (jh _ hq)⟩
theorem am9{d e:Nat}{f:Value}{args:List Value}{m r:ac}{Post:Value->ac->Heap->Prop}{Q:VP}(S:Fs c gs ns env V fx vs (m++r) h)(ct:eL c d f args m h Post)(ar:Ar A e)(hd:d<=e)
  (k:∀ v m' h',m'.map (·.1)=m.map (·.1)->Fs c gs ns env V fx vs (m'++r) h'->h.objs.size<=h'.objs.size->Post v m' h'->Q v h'):Wp c E A (call f args) Q h :=
 (ct A (ar.le hd)).conseq fun v h' zpa=>by obtain⟨m',k1,k2,k3,k4⟩:=zpa; exact k v m' h' k2 (S.afterM k1 k2 k3) k1.size k4
theorem Fs.fixNew{ents fx':ac}{vs':LO}{h':Heap}(S':Fs c gs ns env V fx' vs' l' h')(S:Fs c gs ns env V fx vs l h)(he:l'.map (·.1)=l.map (·.1))(x:∀ p∈ents,Nw h h' p.1 p.2):Fs c gs ns env V (ents++fx') vs' l' h' :=
 {S' with
  fix:=fun p hp=>(jg.mp hp).elim (fun e=>(x p e).1) (S'.fix p)
  off:=fun p hp=>(jg.mp hp).elim (fun e=>⟨S.fresh (x p e).2,fun q hq=>by
   obtain⟨r,hr,e'⟩:=af9 he hq;rw[<- e'];exact jJ (js (jw (S.own r hr)) (x p e).2)⟩) (S'.off p) }
theorem Fs.ownNew{a:Addr}{o:Obj}{vs':LO}{h':Heap}(S':Fs c gs ns env V fx vs' l' h')(S:Fs c gs ns env V fx vs l h)(he:l'.map (·.1)=l.map (·.1))(x:Nw h h' a o):Fs c gs ns env V fx vs' ((a,o)::l') h' :=
 {S' with
  own:=af (x.1) fun p hp=>S'.own p hp
  ord:=⟨fun q hq=>by
   obtain⟨r,hr,e'⟩:=af9 he hq;rw[<- e'];exact jv (js (jw (S.own r hr)) x.2),S'.ord⟩
  ap:=af (S.fresh x.2) fun p hp=>S'.ap p hp
  off:=fun p hp=>⟨(S'.off p hp).1,af (jv (js (jw (S.fix p hp)) x.2)) fun q hq=>(S'.off p hp).2 q hq⟩ }
theorem Fs.inst{x dx C:Addr}{es:List DictEntry}{n:Nat}{at':List (Str×Value)}(S:Fs c gs ns env V fx vs l h)(ix:In V fx x (instObj C dx))(m:(dx,dictOf es n)∈l)(e:bN es at'):bt (Is h) x C at':=⟨dx,es,n,S.at' ix,S.own _ m,e⟩
abbrev Fs.lk(_S:Fs c gs ns env V fx vs l h)(l':ac)(h':Heap):Prop:=Fs c gs ns env V fx vs l' h'
abbrev Fs.frm(_S:Fs c gs ns env V fx vs l h)(fx':ac)(vs':LO)(l':ac)(h':Heap):Prop:=Fs c gs ns env V fx' vs' l' h'
abbrev Fs.inn(_S:Fs c gs ns env V fx vs l h)(fx':ac)(a:Addr)(o:Obj):Prop:=In V fx' a o
end
end
mutual
theorem ba7{K:Type}[DecidableEq K]{knd:PySem.KeyKind c.prog c.w K}:Carries knd [] []:=trivial
theorem cr{K:Type}[DecidableEq K]{knd:PySem.KeyKind c.prog c.w K}{k:K}{key v:Value}{vs:List (Value×Value)}{kvs:List (K×Value)}(h:knd.is k key=true)(r:Carries knd vs kvs):Carries knd ((key,v)::vs) ((k,v)::kvs):=⟨h,rfl,r⟩
def az(R:RP)(P:(RP)->Prop):Prop:=∃ ents:ac,(∀ p∈ents,R p.1 p.2)/\∀ R':RP,(∀ p∈ents,R' p.1 p.2)->P R'
theorem az.one{R:RP}{a:Addr}{o:Obj}(h:R a o):az R fun R=>R a o:=⟨[(a,o)],fun p hp=>by rw[je.mp hp]; exact h,fun Z k=>k _ (.head _)⟩
theorem az.const'{R:RP}{P:(RP)->Prop}(h:∀ {R},P R):az R P:=⟨[],fun Z hp=>absurd hp jm,fun Z Z=>h⟩
theorem az.and{R:RP}{P Q:(RP)->Prop}(h1:az R P)(h2:az R Q):az R fun R=>P R/\Q R:=by
 obtain⟨e1,a1,b1⟩:=h1;obtain⟨e2,a2,b2⟩:=h2;exact  ⟨e1++e2,fun p hp=>(jg.mp hp).elim (a1 p) (a2 p),fun R' k=>⟨b1 R' fun p hp=>k p (ji _ hp),b2 R' fun p hp=>k p (jh _ hp)⟩⟩
theorem az.imp{R:RP}{P Q:(RP)->Prop}(h:az R P)(k:∀ R,P R->Q R):az R Q:=by obtain⟨e,a,b⟩:=h; exact⟨e,a,fun R' x=>k R' (b R' x)⟩
theorem VI.supps{R:RP}:(∀ {v d},VI R v d->az R fun R=>VI R v d)/\∀ {v d},aw R v d->az R fun R=>aw R v d :=
 VI.ind (P:=fun v d=>az R fun R=>VI R v d) (Q:=fun v d=>az R fun R=>aw R v d) (.const' .none) (fun n t=>.const' (.int n t)) (fun x t h=>.const' (.str x t h)) (fun e z r=>(az.and (.one e) r).imp fun Z x=>.tup x.1 z x.2) (.const' .nil) fun p q=>(az.and p q).imp fun Z x=>.cons x.1 x.2
theorem VI.supp{R:RP}{v:Value}{d:PyData}(x:VI R v d):az R fun R=>VI R v d:=VI.supps.1 x
theorem aw.supp{R:RP}{v:List Value}{d:List PyData}(x:aw R v d):az R fun R=>aw R v d:=VI.supps.2 x
def InN(n:Nat)(V:Heap)(fx:ac)(a:Addr)(o:Obj):Prop:=In V fx a o/\n<=a
theorem bt.supp{R:RP}{x C:Addr}{at':List (Str×Value)}(i:bt R x C at'):az R fun R=>bt R x C at':=by obtain⟨dx,es,n,a,b,e⟩:=i; exact(az.and (.one a) (.one b)).imp fun Z x=>⟨dx,es,n,x.1,x.2,e⟩
theorem LI.supp{R:RP}{a:Addr}{xs:List Int}(i:LI R a xs):az R fun R=>LI R a xs:=by obtain⟨vs,n,e,h⟩:=i; exact(az.one e).imp fun Z x=>⟨vs,n,x,h⟩
end
section
variable {gs ns:List Str} {env:Env} {V:Heap} {fx fx':ac} {l l':ac} {vs vs':LO} {h h':Heap}
mutual
theorem DI.supp{K:Type}[DecidableEq K]{knd:PySem.KeyKind c.prog c.w K}{R:RP}{d:Addr}{kvs:List (K×Value)}(i:DI knd R d kvs):az R fun R=>DI knd R d kvs:=by obtain⟨n,o,e,h⟩:=i; exact(az.one e).imp fun Z x=>⟨n,o,x,h⟩
theorem Fs.takeSupp{g:Heap}{P:(RP)->Prop}(S:Fs c gs ns env V fx vs l h)(k:bU h h')(hL:g.objs.size<=env.locals)(s:az (Nw h h') P):∃ ents,Fs c gs ns env V (ents++fx) vs l h'/\P (InN g.objs.size V (ents++fx)):=by
 obtain⟨ents,a,b⟩:=s;exact⟨ents,S.takeFs k a,b _ fun p hp=>⟨.inr (ji _ hp),S.new hL (a p hp).2⟩⟩
theorem Fs.nw{g:Heap}(S:Fs c gs ns env V fx vs l h)(a:Addr)(o:Obj)(x:InN g.objs.size V fx a o):Nw g h a o:=⟨S.at' x.1,x.2⟩
end
end
section
variable {prog:Program} {w:World} {A:Around} {E:Value->Shared->Prop} {s:Shared}
theorem ao0{sl:Addr}{u:Tok}{Q:Int×Int×Nat->Shared->Prop}(hs:s.heap.IsSliceOf sl .none .none (.int (-1) u))(h:Q ((1:Int),-1,2) s) :
  wpAny (model prog w) A (Builtin.Slice.sliceApplied (.ref sl) (Pure.pure (2:Int))) Q E s:=by
 obtain⟨os,hos,hcs,hds⟩:=id hs;unfold Builtin.Slice.sliceApplied Builtin.Slice.sliceFields;refine jb (jb (wpAny_field hos hds (x:=.none) rfl (jb (wpAny_field hos hds (x:=.none) rfl (jb (wpAny_field hos hds (x:=.int (-1) u) rfl (jc ?_)))))));refine jb (slicePart_int ?_)
 show wpAny _ _ (if((-1:Int)==0)=true then _ else _) _ _ s
 rw[if_neg (by decide)];refine jb (slicePart_none (jb (slicePart_none (jb (jc ?_)))));exact jc h
theorem a55{t sl:Addr}{x y:Value}{u:Tok}{Q:Value->Shared->Prop}(ht:IsTup s.heap t #[x,y])(hs:s.heap.IsSliceOf sl .none .none (.int (-1) u))
  (h:Q (.ref s.heap.objs.size) { s with heap:=s.heap.push { cls:=.type "tuple", data:=.seq #[y,x] } }):wpAny (model prog w) A (getItem (.ref t) (.ref sl)) Q E s:=by
 have hsz:sizeOk (.seq #[y,x]):=by show 2<=sizeLine; decide
 obtain⟨os,hos,hcs,hds⟩:=id hs;have hTs:s.TypeIs (.ref sl) "slice" := ⟨os,hos,hcs⟩;unfold getItem
 try with_reducible refine wpAny_holding ?_
 first|refine jb (jc ?_)|skip
 refine jb (wpAny_sequenceKey ht.typeIs (by decide) ?_);refine jb (wpAny_callSpecial?_slot (name:=Str.ofString "__getitem__") ht.typeIs slot_tuple_getitem
  (wpAny_call_entry slot_tuple_getitem ht.typeIs entry_tuple_getitem ?_ (args_tuple_getitem _ _)))
 show wpAny _ _ (Builtin.Tuple.tupleItemsOf (.ref t) >>= _) _ _ s
 refine jb (tupleItemsOf_ ht ?_);refine jb (wpAny_typeOf hTs ?_);rw[if_pos (by decide)];refine jb (ao0 hs ?_)
 show wpAny _ _ (if((1:Int)==0&&(-1:Int)==1&&(2:Nat)==2)=true then _ else _) _ _ s
 rw[if_neg (by decide)];have e:((List.range 2).filterMap fun(k:Nat)=>(#[x,y]:Array Value)[((1:Int)+(k:Int)*-1).toNat]?).toArray=#[y,x]:=by rfl
 rw[e]
 first
  | exact jb (m:=Builtin.Tuple.tupleExact _) (wpAny_newObj_type (jc ⟨_,rfl,jc h⟩) hsz)
  | exact jb (m:=Builtin.Tuple.tupleExact _) (wpAny_newObj_type (jb (jc (jc ⟨_,rfl,jc h⟩))) hsz)
  | exact jb (jb (m:=Builtin.Tuple.tupleExact _) (wpAny_newObj_type (jc (jc ⟨_,rfl,jc h⟩)) hsz))
  | exact jb (jb (m:=Builtin.Tuple.tupleExact _) (wpAny_newObj_type (jc ⟨_,rfl,jc h⟩) hsz))
end
section
variable {E:VP} {gs ns:List Str} {pos:Pos} {value slice test:Expr} {body:List Stmt} {A:Around} {env:Env} {V:Heap} {fx:ac} {l l':ac} {vs:LO} {h:Heap}
mutual
theorem cc6{a sl:Addr}{x y:Value}{n:Nat}{u:Tok}{Q:VP}(S:Fs c gs ns env V fx vs ((sl,ac9 .none .none (.int (-1) u))::l) h)(ha:h.get? a=some { cls:=.type "tuple", data:=.seq #[x,y] n })
  (k:∀ r h',h.objs.size<=r->let q9:=((r,ai0 [y,x])::l); Fs c gs ns env V fx vs q9 h'->Q (.ref r) h')
  (hs:autoParam (∃ ops,subscripted slice false (.ref a) (.ref sl)=operate ops (getItem (.ref a) (.ref sl))) aX) :
  Wp c E A (subscriptTail value slice (.ref a) (.ref sl)) Q h :=
 aa5 (fun tk=>(cc ha).typeIs) slot_tuple_getitem.lookup (.mk fun tk=>a55 (s:=c.at h tk) (cc ha) ⟨_,S.own _ (.head _),rfl,rfl⟩ ⟨_,(_,_),rfl,k _ _ (Nat.le_refl _) (S.drop.push _)⟩) hs
noncomputable def eK(c:Cx)(test:Expr)(body:List Stmt)(A:Around)(env:Env)(Q:FP):Nat->Heap->Prop
 | 0,_=>False
 | n+1,h=>Wp c (fun Z Z=>False) A (isTrue test env (eval test env)) (fun b h₂=>BB b (Wp c (fun Z Z=>False) A (execs body env) (cz (eK c test body A env Q n) Q) h₂) (Q .next h₂)) h
theorem eK.step{Q:FP}{n:Nat}(H:Wp c (fun Z Z=>False) A (isTrue test env (eval test env)) (Kwh c (fun Z Z=>False) body A env (cz (eK c test body A env Q n) Q) Q) h):eK c test body A env Q (n+1) h:=H
theorem bo9{Q:FP}(n:Nat)(H:eK c test body A env Q n h):Wp c E A (exec (.While test body [] pos) env) Q h :=
 aa2 (eK c test body A env Q) n H fun T kT n h hU=>by
  cases n with
  | zero=>exact hU.elim
  | succ n =>
   refine Wp.mono (show Wp _ _ _ _ _ _ from hU) (fun b h2 k=>⟨fun e=>(k.1 e).mono (fun f h3 t=>kT.run _ _ _ ?_) fun Z Z x=>x,k.2⟩) fun Z Z x=>x
   cases f with
   | next=>exact⟨n,Nat.lt_succ_self _,t⟩
   | cont=>exact⟨n,Nat.lt_succ_self _,t⟩
   | brk=>exact t
   | ret v=>exact t
theorem af6{a b:Addr}{xs ys:List Value}{m n k:Nat}{ds es:List PyData}{Q:VP}(ar:Ar A k)(ha:h.get? a=some (listOf xs.toArray m))(hb:h.get? b=some (listOf ys.toArray n))(ia:aw (Is h) xs ds)(ib:aw (Is h) ys es)(h1:(PyData.list ds).depth<=64)(h2:(PyData.list es).depth<=64)
  (q:Q (.bool (!PyData.eqv (.list ds) (.list es))) h):Wp c E A (compareOp .NotEq (.ref a) (.ref b)) Q h:=.mk fun tk=>by
 obtain⟨as,r⟩:=aw.reads (h:=h) ia;obtain⟨bs,r'⟩:=aw.reads (h:=h) ib;refine ne_dataH (s:=c.at h tk) (Reads.list ha rfl rfl (by simpa using r)) (Reads.list hb rfl rfl (by simpa using r')) ?_ ?_ ar.u ⟨h,tk,rfl,q⟩
 ·show((PyData.list ds).canLay0&&decide ((PyData.list ds).depth<=64))=true
  rw[jz h1,Bool.and_true];simp only[PyData.canLay0]; exact ia.lay
 ·show((PyData.list es).canLay0&&decide ((PyData.list es).depth<=64))=true
  rw[jz h2,Bool.and_true];simp only[PyData.canLay0]; exact ib.lay
end
end
section
variable {E:VP} {gs ns:List Str} {pos:Pos} {func e value body:Expr} {args rest:List Expr} {kws:List Keyword} {id:String} {name cn:Str} {kp p p' np xp:Pos} {cs scope:Scope} {params:Arguments} {A:Around} {env:Env} {V:Heap} {fx:ac} {l l':ac} {vs:LO} {h:Heap}
mutual
theorem bx3{Q:VP}(H:Wp c E A (eval func env) (Kck c E args kws pos A env Q) h)
  (he:autoParam (eval (.Call func args kws pos) env=(do callWith pos (<- eval func env) [] (backTo pos (starEach args env)) (backToKw pos (keywordEach kws env)))) aU):Wp c E A (eval (.Call func args kws pos) env) Q h:=by
 rw[he]; exact .bind H
theorem cb1{Q:VP}
  (H:Wp c E A (spliced (backTo pos (starEach (e::rest) env))) (Kk1 c E id name value A env Q) h)
  (he:autoParam (backTo pos (starEach (e::rest) env)=(false,eval e env)::backTo pos (starEach rest env)) aU)
  (hplain:autoParam ((backTo pos (starEach (e::rest) env)).any (·.1)=false) aU) :
  Wp c E A (callWith pos (.builtin id) [] (backTo pos (starEach (e::rest) env)) (backToKw pos (keywordEach [⟨some name,value,kp⟩] env))) Q h:=.mk fun tk=>by
 refine callWith_builtin_kwB hplain rfl ?_;rw[he] at H ⊢;refine evalArgs_kwB rfl ?_;refine jd (H.run tk) (fun vs sB zpa=>?_) fun Z Z x=>x;obtain⟨h1,t1,e1,k1⟩:=zpa;subst e1;exact kws_cons (jd (k1.run t1) (fun v sC zpa=>by obtain⟨h2,t2,e2,k2⟩:=zpa; subst e2; exact kws_nil (k2.run t2)) fun Z Z x=>x)
theorem ax2{d cv:Value}(L:List Value)(ht:TriplesOk L)(e:codeAmong p' (L++[rawInt p.line,rawInt p.col,d])=some cv):codeAmong p' L=some cv\/cv=d:=by
 revert ht e
 refine ao9 (P:=fun L=>TriplesOk L->codeAmong p' (L++[rawInt p.line,rawInt p.col,d])=some cv->codeAmong p' L=some cv\/cv=d) (fun a t b u x r ih ht=>?_) (fun Z=>?_) (fun L Z n ht=>absurd ht n) L
 ·show(if a==p'.line&&b==p'.col then some x else codeAmong p' (r++_))=some cv->(if a==p'.line&&b==p'.col then some x else codeAmong p' r)=some cv\/cv=d
  cases (a==p'.line&&b==p'.col)
  ·exact ih ht
  ·exact .inl
 ·exact a71 (P:=fun o=>o=some cv->codeAmong p' []=some cv\/cv=d) (fun e=>.inr (Option.some.inj e).symm) fun e=>.inl e
theorem ar3{ps:Array Value}(ht:TriplesOk ps.toList):¬ ai (tabObj ps):=ai.fld (vs:=ps) rfl fun q t e=>by
 rw[<- Array.getElem?_toList] at e
 revert ht e
 exact ao9 (P:=fun L=>TriplesOk L->L[1]?=some (.str q t)->False) (fun a t b u x r Z Z e=>nomatch (Option.some.inj e:Value.int b u=.str _ _)) (fun Z e=>nomatch (e:(none:Option Value)=some _)) (fun L Z n ht=>absurd ht n) ps.toList
def ci4(V:Heap)(fx:ac)(c':Addr):Prop:=∃ o,In V fx c' o/\ai o
noncomputable abbrev a47(params:Arguments)(body:Expr)(scope:Scope)(pm:Value)(c':Addr)(ct:Value):Obj:=kla_obj "<lambda>" a46 params body scope [] pm c' ct
theorem cf2{L a:Addr}{Q:VP}(S:Fs c gs ns (ce cn cs a (.ref 147) L) V [] vs [] h)
  (hq:(cn ++ ".<locals>.") ++ "<lambda>" = a46) (hd:defaultsOf params (ce cn cs a (.ref 147) L)=([],[])) (hcl:closureFor scope (ce cn cs a (.ref 147) L)=Pure.pure [])
  (k:∀ f c' pm ct fx' h',Fs c gs ns (ce cn cs a (.ref 147) L) V fx' vs [(f,a47 params body scope pm c' ct)] h'->ci4 V fx' c'->Q (.ref f) h') :
  Wp c E A (eval (.Lambda params body scope pos) (ce cn cs a (.ref 147) L)) Q h:=.mk fun tk=>by
 obtain⟨tl,⟨ps,ex,rfl,h1,h2,h3⟩,N⟩:=S.all;obtain⟨mean,mg,mb,T⟩:=S.gd.T;refine kla_eval hd ?_
 show wpAny _ _ (makeFunction "<lambda>" ((cn ++ ".<locals>.") ++ "<lambda>") params (.expr body) scope _ [] [] [] pos pos.line) _ _ _
 rw[hq];have N0:News V L h ((ag,tabObj ps)::ex):=N
 cases e:codeAmong pos ps.toList with
 | none =>
  refine kla_nest (s:=c.at h tk) (ps:=ps) (news:=(ag,tabObj ps)::ex) (mg:=mg) (mb:=mb) S.fr N0 T S.gd.hd rfl (UpdF.head fun p hp q=>?_) h1 e hcl fun f c' oc vs' t ctv h' tk' F' N' d1 d2 l1 l2=>?_
  ·have n1:=(N0 p (.tail _ hp)).1;rw[q,(N0 _ (.head _)).1] at n1
   cases p with|mk pa po =>
   cases n1
   exact ar3 h1 (h2 _ hp)
  have lc:ag<c':=l1 _ (.head _);have nf:=N' _ (.head _);have nc:=N' _ (.tail _ (.head _));refine⟨h',(tk',tk.2),rfl,k f c' ((mg "__name__").getD .none) ctv [(c',oc)] h' ?_ ⟨oc,.inr (.head _),vs',t,d1,d2⟩⟩;exact{
   fr:=F'
   own:=fun p hp=>by rw[je.mp hp]; exact nf.1
   ord:=⟨fun q hq=>absurd hq jm,trivial⟩
   ap:=fun p hp=>by rw[je.mp hp]; exact⟨nf.2.1,jJ (jK lc l2),nf.2.2⟩
   tab:=by
    refine⟨_,(N' _ (.tail _ (.tail _ (.head _)))).1,by rw[Array.toList_append]; exact TriplesOk_snoc _ _ _ _ h1,fun p cv e'=>?_⟩;rw[Array.toList_append] at e'
    rcases ax2 _ h1 e' with e'|e'
    ·obtain⟨a',o,q1,q2,q3⟩:=h3 p cv e';exact⟨a',o,q1,q3.elim (F'.keep _ _) fun m=>(N' _ (.tail _ (.tail _ (.tail _ m)))).1,q2⟩
    ·exact⟨c',oc,e',nc.1,vs',t,d1,d2⟩
   lt:=S.lt
   no:=S.no
   gd:=S.gd
   fn:=S.fn
   pl:=S.pl
   fix:=fun p hp=>by rw[je.mp hp]; exact nc.1
   off:=fun p hp=>by
    rw[je.mp hp];exact⟨⟨nc.2.1,jJ lc,nc.2.2⟩,fun q hq=>by rw[je.mp hq]; exact jv l2⟩ }
 | some cv =>
  obtain⟨a',o,rfl,q2,q3⟩:=h3 _ _ e;refine kla_hit (s:=c.at h tk) (ps:=ps) (news:=(ag,tabObj ps)::ex) (mg:=mg) (mb:=mb) S.fr N0 T S.gd.hd rfl (.head _) h1 e hcl fun f ctv h' tk' F' N' l1=>?_;have nf:=N' _ (.head _);have nt:=N' _ (.tail _ (.head _));have tab':cw h':=⟨ps,nt.1,h1,fun p cv e'=>by
   obtain⟨b,o',y1,y2,y3⟩:=h3 p cv e';exact⟨b,o',y1,y3.elim (F'.keep _ _) fun m=>(N' _ (.tail _ (.tail _ m))).1,y2⟩⟩
  have lf:ag<f:=l1 _ (.head _)
  rcases q3 with q3|q3
  ·refine⟨h',(tk',tk.2),rfl,k f a' ((mg "__name__").getD .none) ctv [] h' ?_ ⟨o,.inl q3,q2⟩⟩;exact{
    fr:=F'
    own:=fun p hp=>by rw[je.mp hp]; exact nf.1
    ord:=⟨fun q hq=>absurd hq jm,trivial⟩
    ap:=fun p hp=>by rw[je.mp hp]; exact⟨nf.2.1,jJ lf,nf.2.2⟩
    tab:=tab'
    lt:=S.lt
    no:=S.no
    gd:=S.gd
    fn:=S.fn
    pl:=S.pl
    fix:=fun p hp=>absurd hp jm
    off:=fun p hp=>absurd hp jm }
  ·have nc:=N' _ (.tail _ (.tail _ q3));refine⟨h',(tk',tk.2),rfl,k f a' ((mg "__name__").getD .none) ctv [(a',o)] h' ?_ ⟨o,.inr (.head _),q2⟩⟩;exact{
    fr:=F'
    own:=fun p hp=>by rw[je.mp hp]; exact nf.1
    ord:=⟨fun q hq=>absurd hq jm,trivial⟩
    ap:=fun p hp=>by rw[je.mp hp]; exact⟨nf.2.1,jJ lf,nf.2.2⟩
    tab:=tab'
    lt:=S.lt
    no:=S.no
    gd:=S.gd
    fn:=S.fn
    pl:=S.pl
    fix:=fun p hp=>by rw[je.mp hp]; exact nc.1
    off:=fun p hp=>by
     rw[je.mp hp];refine⟨⟨nc.2.1,fun q=>?_,nc.2.2⟩,fun q hq=>by rw[je.mp hq]; exact jv (l1 _ (.tail _ q3))⟩;have n1:=nc.1;have q':a'=ag:=q;subst q';rw[nt.1] at n1
     cases n1
     exact ar3 h1 q2 }
structure Wq{α:Type}(c:Cx)(A:Around)(t:Sem α)(Q:α->Heap->Prop)(h:Heap):Prop where mk ::
 run:∀ tk:Tk,wpAny (model c.prog c.w) A t (fun a s=>av fun h' n=>s=c.at h' (n,tk.2)/\Q a h') (fun Z Z=>False) (c.at h tk)
theorem Wq.mono{α:Type}{A:Around}{h:Heap}{t:Sem α}{Q Q':α->Heap->Prop}(H:Wq c A t Q h)(k:∀ a h,Q a h->Q' a h):Wq c A t Q' h:=.mk fun tk=>jd (H.run tk) (fun a s zpa=>by obtain⟨h',n,e,q⟩:=zpa; exact⟨h',n,e,k a h' q⟩) fun Z Z x=>x
theorem bq9{d:Nat}{f c' p:Addr}{pm ct:Value}{kc:Nat}{w:Int}{t:Tok}{x:Value}{n:Nat}(G:ak c h)(hf:h.get? f=some (a47 params (.Subscript (.Name "pair" np) (.Constant (.int 0) kc kp) xp) scope pm c' ct)) (hc:∃ o,h.get? c'=some o/\ai o)
  (hp:h.get? p=some { cls:=.type "tuple", data:=.seq #[.int w t,x] n }) (ar:Ar A (d+1))
  (hb:bindArgs (kla_fn "<lambda>" a46 params (.Subscript (.Name "pair" np) (.Constant (.int 0) kc kp) xp) scope [] pm (.ref c') ct) ⟨[.ref p],[]⟩=Pure.pure ([((PySem.Str.ofString "pair"),.ref p)]:List (Str×Value)))
  (hloc:scope.names.lookup (PySem.Str.ofString "pair")=some .local) (hk:scope.kind=.function) (hco:scope.isCoroutine=false) (hgen:scope.isGenerator=false) (hcell:∀ x∈scope.names,x.2≠.cell) :
  Wq c A (call (.ref f) [.ref p]) (fun r h'=>(∀ a o,h.get? a=some o->h'.get? a=some o)/\r=.int w t) h:=.mk fun tk=>by
 obtain⟨mean,mg,mb,T⟩:=G.gd.T;obtain⟨oc,hoc,cvs,ctk,cd,cq⟩:=hc;refine wpAny_call (kla_callFunE (s:=c.at h tk) (by have:=ar.depth; show A.depth<1000; exact bb0 this) hf rfl hco hgen rfl ⟨c',oc,cvs,ctk,rfl,hoc,cd,cq⟩ ?_);rw[hb];refine jc (wpAny_newFunctionEnv hcell (fun y hy=>by rw[je.mp hy]; exact hloc) (fun O hns hsb=>⟨((T.nolimit).keeps (ae8 h ag)).fresh _ hsb,?_⟩) hk)
 show codeAny _ _ (.expr _ (ce a46 scope f (.ref c') h.objs.size)) _ _
 have hkB:∀ b o,h.get? b=some o->O.get? b=some o:=fun b o e=>hsb.extBut b o (jv (jw e)) (jp _ e);have F:Fr h h.objs.size O (fun y=>[((PySem.Str.ofString "pair"),Value.ref p)].reverse.lookup y):=⟨hns,hkB,Nat.le_refl _⟩;refine kla_codeExpr ?_;refine Subscript_ (ld (s:=c.at O (_,tk.2)) F rfl (wpAny_Constant_int ?_) hk hloc);exact ay2 (cc (hkB _ _ hp)).typeIs slot_tuple_getitem.lookup (PyProof.Rows.getItem_tuple (s:=c.at O (_,tk.2)) (cc (hkB _ _ hp)) (by decide) (by decide) (j:=0) rfl rfl ⟨_,_,rfl,hkB,rfl⟩) ⟨_,by walk_at"u"⟩
theorem Ar.in1{d:Nat}(a:Ar A (d+1)):Ar A.in1 d:=⟨a.handled,by have:=a.depth; show A.depth+d<900; exact cm8 this,by have:=a.units; show A.units+1+8*d<9000; exact cm7 this⟩
theorem bx9{a f:Addr}{its:List Value}{n:Nat}{kz:List Int}{Q:VP}(S:Fs c gs ns env V fx vs l h)(ha:h.get? a=some (listOf its.toArray n))(hlen:kz.length=its.length)(h64:its.length<64)
  (turn:∀ (i:Nat) (v:Value) (k:Int),its[i]?=some v->kz[i]?=some k->∀ h',Fs c gs ns env V fx vs l h'->Wq c A.in1.in1 (call (.ref f) [v]) (fun r h2=>(∀ a o,h'.get? a=some o->h2.get? a=some o)/\∃ t,r=.int k t) h')
  (k:∀ r out m h',KskOut false kz its out->let q9:=((r,listOf out.toArray m)::l); Fs c gs ns env V fx vs q9 h'->Q (.ref r) h') :
  Wp c E A (call (.builtin "sorted") [.ref a] [(PySem.Str.ofString "key", .ref f)]) Q h:=.mk fun tk=>by
 obtain⟨tl,ht,N⟩:=S.all;refine ksk_sorted (s:=c.at h tk) (news:=l++(fx++tl)) (vs:=its) S.fr N (aq ha) hlen h64 (ksk_s1 _ _) (fun x=>ksk_l1 _ _) (fun x=>ksk_t1 _ _) (fun i v k hv hk h' tk' own F' N'=>?_) fun D h' tk' out m F' N' l1 ko=>?_
 ·have S':Fs c gs ns env V fx vs l h':=S.back ht F' (fun p hp=>N' p (ji _ hp)) S.ord fun p hp=>⟨(S.ap p hp).2.1,fun q hq=>(S.off q hq).2 p hp⟩;refine jd ((turn i v k hv hk h' S').run (tk',tk.2)) (fun r s zpa=>?_) fun e s q=>q.elim;obtain⟨h2,t2,e,st,t,er⟩:=zpa;subst e er;exact⟨h2,t2,t,rfl,rfl,⟨F'.ns.at' fun o e=>st _ _ e,fun b o e=>st _ _ (F'.keep b o e),F'.above⟩,fun p hp=>⟨st _ _ (N' p hp).1,(N' p hp).2⟩⟩
 ·have hm:∀ q∈l++(fx++tl),q.1≠D:=fun q hq=>jv (l1 q hq);refine⟨h',(tk',tk.2),rfl,k D out.toList m h' ko ?_⟩;rw[Array.toArray_toList];refine S.back ht F' (l':=(D,listOf out m)::l) N' ⟨fun q hq=>hm q (ji _ hq),S.ord⟩ fun p hp=>?_
  rcases jf.mp hp with rfl|hp
  ·obtain⟨ps,ex,rfl,Z⟩:=ht;exact⟨(hm _ (jh _ (jh _ (.head _)))).symm,fun q hq=>hm q (jh _ (ji _ hq))⟩
  ·exact⟨(S.ap p hp).2.1,fun q hq=>(S.off q hq).2 p hp⟩
end
end
section
variable {E:VP} {gs ns:List Str} {pos:Pos} {elts:List Expr} {tp:Pos} {A:Around} {env:Env} {V:Heap} {fx:ac} {l l':ac} {vs:LO} {h:Heap}
mutual
noncomputable abbrev tK(c:Cx):PySem.HeapKind c.prog c.w (List Int):=PySem.tupleKind (iK c)
theorem av3{d:Nat}(ar:Ar A d):(tK c).room A.in1:=PySem.tupleKind_room_in1 (by have:=ar.units; show A.units+1<9900; exact cm6 this)
theorem a12{a:Addr}{n:Nat}{x y:Int}{t u:Tok}(e:h.get? a=some { cls:=.type "tuple", data:=.seq #[.int x t,.int y u] n }):(tK c).is h [x,y] a:=⟨_,_,_,e,rfl,rfl,.cons a16 (.cons a16 .nil)⟩
theorem cb3{d a:Addr}{k:List Int}{xs:List (List Int×Addr×Value)}{n:Nat}{Q:VP}(ar:Ar A n)(hk:(tK c).is h k a)(nm:dT d)(hd:h.DictOfH (tK c) d xs)(q:Q (.bool (!(atKey xs k).isSome)) h):Wp c E A (compareOp .NotIn (.ref a) (.ref d)) Q h:=.mk fun tk =>
 wpAny_notIn_heap (s:=c.at h tk) (av3 ar) hk nm hd ⟨h,(_,_),rfl,q⟩
theorem bw2{d:Addr}{xs:List (List Int×Addr×Value)}{pl:Sem Bool}{Q:Value×List Value->Heap->Prop}(hd:h.DictOfH (tK c) d xs)(q:Q (.builtin "dict.get", [.ref d]) h):Wp c E A (getMethod (.ref d) (PySem.Str.ofString "get") pl) Q h:=.mk fun tk =>
 getMethod_builtin (s:=c.at h tk) hd.typeIs PySem.F.plainAttrs_dict PySem.F.slot_dict_get PySem.F.type_dict_get (dictOfH_noDict hd) ⟨h,tk,rfl,q⟩
theorem bw3{d a:Addr}{k:List Int}{xs:List (List Int×Addr×Value)}{n:Nat}{dv:Value}{Q:VP}(ar:Ar A n)(hk:(tK c).is h k a)(nm:dT d)(hd:h.DictOfH (tK c) d xs)(q:Q (((atKey xs k).map (·.2)).getD dv) h):Wp c E A (call (.builtin "dict.get") [.ref d,.ref a,dv]) Q h:=.mk fun tk =>
 call_meetsIn (s:=c.at h tk) PySem.F.slot_dict_get hd.typeIs PySem.F.entry_dict_get (PySem.F.args_dict_get_3 _ _ _) (meetsH_dict_get_default (tK c) d a nm dv) ⟨av3 ar,k,xs,hk,hd,h,(_,_),rfl,q⟩
theorem a86{d:Addr}{xs:List (List Int×Addr×Value)}(hd:h.DictOfH (tK c) d xs):b5 fun o es n=>h.get? d=some o/\o.data=.dict es n:=by obtain⟨o,es,n,a,Z,b,Z⟩:=hd; exact⟨o,es,n,a,b⟩
theorem cb2{d a:Addr}{o:Obj}{es0:Array DictEntry}{n0:Nat}{k:List Int}{v:Value}{xs:List (List Int×Addr×Value)}{n:Nat}{Q:Unit->Heap->Prop}(ar:Ar A n)(S:Fs c gs ns env V fx vs ((d,o)::l) h)(od:o.data=.dict es0 n0)(hk:(tK c).is h k a)(hd:h.DictOfH (tK c) d xs)(hz:xs.length<=1000000)
  (K:∀ o' h',h'.DictOfH (tK c) d (storedH xs k a v)->let q9:=((d,o')::l); Fs c gs ns env V fx vs q9 h'->Q () h'):Wp c E A (setItem (.ref d) (.ref a) v) Q h:=.mk fun tk =>
 wpAny_setItem_heap (s:=c.at h tk) (av3 ar) hk hd (fun h' hd' hs=>by
  obtain⟨o',es,n,e,Z⟩:=a86 hd';exact⟨h',(_,_),rfl,K o' h' hd' (S.update (ai.dict od) .head e fun b x hb e=>(hs.2 b hb).trans e)⟩) (bd hz)
def ax5(h:Heap)(d:Addr)(es:Array DictEntry)(ep:Nat):Prop:=∃ o,bB (h.get? d=some o) o.ExactDict (o.data=.dict es ep)
theorem ax5.typeIs{s:Shared}{d:Addr}{es:Array DictEntry}{ep:Nat}(x:ax5 s.heap d es ep):s.TypeIs (.ref d) "dict" := by obtain⟨o,a,b,Z⟩:=x; exact⟨o,a,b.1⟩
end
section
variable {M:Model} {prog:Program} {w:World} {E:Value->Shared->Prop} {s:Shared}
mutual
theorem bo7{d:Addr}{es:Array DictEntry}{ep:Nat}{Q:Value->Shared->Prop}(hd:(d==sysModules)=false)(hm:ax5 s.heap d es ep)
  (hQ:Q (.ref s.heap.objs.size) { s with heap:=s.heap.push { cls:=.type "dict_keyiterator", data:=.fields #[.ref d,.int 0 0,.int es.size 0,.int ep 0] } }):wpAny (model prog w) A (pyIter (.ref d)) Q E s:=by
 obtain⟨o,ho,hc,hdat⟩:=id hm;have hT:s.TypeIs (.ref d) "dict" := hm.typeIs;refine wpAny_pyIter_slot hT PySem.F.slot_dict_iter (wpAny_call_entry PySem.F.slot_dict_iter hT PySem.F.entry_dict_iter ?_ (PySem.F.args_dict_iter_1 _));unfold Builtin.«dict.__iter__»;refine jb ?_;unfold Builtin.Dict.dictSlotNone;refine jb (wpAny_notOrdered_dict hT ?_)
 show wpAny _ _ (Pure.pure (Value.ref d)) _ _ s
 refine jc ?_
 show wpAny _ _ (Builtin.Dict.showsAll d >>= _) _ _ s
 unfold Builtin.Dict.showsAll;rw[if_neg (by rw[hd]; exact Bool.false_ne_true)];refine jb (jc ?_);refine jb (wpAny_dictEntries ho hdat ?_);refine jb (wpAny_dictEpoch ho hdat ?_);exact jb (wpAny_newObj_type (jc ⟨_,rfl, "dict_keyiterator", _,⟨_,jq _ rfl,rfl⟩,PySem.F.slot_dict_keyiterator_next.lookup,hQ⟩))
theorem bo8{it d:Addr}{i ep:Nat}{es:Array DictEntry}{Q:Option Value->Shared->Prop}(hit:s.heap.IsKeyIter it d i es.size ep)(hm:ax5 s.heap d es ep)(hi:i<es.size)
  (hQ:∀ h',h'.IsKeyIter it d (i+1) es.size ep->Heap.SameBut it s.heap h'->Q (some es[i].key) { s with heap:=h' }):wpAny (model prog w) A (pyNext (.ref it)) Q E s:=by
 obtain⟨o,ho,hc,hd⟩:=id hit;obtain⟨od,hod,hcd,hdd⟩:=id hm;unfold pyNext;refine jb (wpAny_attempt (wpAny_callSpecial?_slot (name:=Str.ofString "__next__") hit.typeIs PySem.F.slot_dict_keyiterator_next
  (wpAny_call_entry PySem.F.slot_dict_keyiterator_next hit.typeIs PySem.F.entry_dict_keyiterator_next ?_ (PySem.F.args_dict_keyiterator_next_1 _))))
 refine jb (jc (jb (jb ?_)))
 first|refine jb (wpAny_typeNameOfWhole_keyiter hit.typeIs (jc ?_))|refine jb (wpAny_typeNameOf_keyiter hit.typeIs (jc ?_))
 refine jb (wpAny_fieldsOf ho hd ?_)
 show wpAny _ _ (if(Value.ref d==Value.none)=true then _ else _) _ _ s
 rw[if_neg (show ¬ ((Value.ref d==Value.none)=true) from Bool.false_ne_true)];refine jb (jc (jb (wpAny_dictEntries hod hdd ?_)));rw[if_neg (by simp)];refine jb (jc (jb (wpAny_dictEpoch hod hdd ?_)));rw[if_neg (by simp)];refine jc ?_;dsimp only;rw[if_neg (Int.not_lt.mpr (Int.natCast_nonneg i)),Int.toNat_natCast,Array.getElem?_eq_getElem hi];dsimp only;refine jb ?_
 first|refine jb (wpAny_typeNameOfWhole_keyiter hit.typeIs (jc ?_))|refine jb (wpAny_typeNameOf_keyiter hit.typeIs (jc ?_))
 refine jb (wpAny_isOneOf_keyiter hit.typeIs ?_)
 show wpAny _ _ (setField (.ref it) 1 (rawInt ((i:Int)+1)) >>= _) _ _ s
 refine jb (wpAny_setField ho hd (by simp) ?_);have hit':(s.heap.update it (Obj.mapFields (·.setIfInBounds 1 (rawInt ((i:Int)+1))))).IsKeyIter it d (i+1) es.size ep :=
  ⟨_,Heap.get?_update_self _ ho (Obj.isFreed_of_fields (Obj.data_mapFields hd _)),(Obj.cls_mapFields ..).trans hc,by rw[Obj.data_mapFields hd]; simp [rawInt]⟩
 refine jb (wpAny_holding ?_);refine jb (wpAny_isOneOf_keyiter (s:={ s with heap:=s.heap.update it (Obj.mapFields (·.setIfInBounds 1 (rawInt ((i:Int)+1)))) }) hit'.typeIs ?_)
 show wpAny _ _ (Pure.pure es[i].key) _ _ _
 exact jc (jc ⟨_,rfl,jc (hQ _ hit' (Heap.SameBut.update ..))⟩)
theorem a28{prog:Program}{w:World}{A:Around}{s:Shared}{Q:Fin->Shared->Prop}{E':Value->Shared->Prop}(hh:A.handled=none)(hE:∀ h' x,(∀ b o,s.heap.get? b=some o->h'.get? b=some o)->Shared.TypeIs { s with heap:=h' } (.ref x) "StopIteration" -> E' (.ref x) { s with heap:=h' }) :
  wpAny (model prog w) A.in1 (newExc (.type "StopIteration") [] >>= fun x=>raiseNew x) Q E' s:=by
 refine jb ?_;unfold newExc newTuple;refine jb (wpAny_newObj_type ?_ (by size_fits));refine jb (m:=firstArgMember _ _) (wpAny_of_eq (a:=Value.none) (by first|rfl|(simp only[firstArgMember]; rfl)) ?_);refine wpAny_newObj_type ?_ (by size_fits);unfold raiseNew;refine jb (wpAny_handled ?_);rw[show A.in1.handled=none from hh];exact jb (jc (wpAny_throw (hE _ _ (fun Z Z e=>jp _ (jp _ e)) ⟨_,jq _ rfl,rfl⟩)))
theorem bx1{it d:Addr}{i ep:Nat}{es:Array DictEntry}{Q:Option Value->Shared->Prop}(hh:A.handled=none)(hit:s.heap.IsKeyIter it d i es.size ep)(hm:ax5 s.heap d es ep)(hge:es.size<=i)
  (hQ:∀ h',Heap.ExtBut it s.heap h'->Q none { s with heap:=h' }):wpAny (model prog w) A (pyNext (.ref it)) Q E s:=by
 obtain⟨o,ho,hc,hd⟩:=id hit;obtain⟨od,hod,hcd,hdd⟩:=id hm;unfold pyNext;refine jb (wpAny_attempt (wpAny_callSpecial?_slot (name:=Str.ofString "__next__") hit.typeIs PySem.F.slot_dict_keyiterator_next
  (wpAny_call_entry PySem.F.slot_dict_keyiterator_next hit.typeIs PySem.F.entry_dict_keyiterator_next ?_ (PySem.F.args_dict_keyiterator_next_1 _))))
 refine jb (jc (jb (jb ?_)))
 first|refine jb (wpAny_typeNameOfWhole_keyiter hit.typeIs (jc ?_))|refine jb (wpAny_typeNameOf_keyiter hit.typeIs (jc ?_))
 refine jb (wpAny_fieldsOf ho hd ?_)
 show wpAny _ _ (if(Value.ref d==Value.none)=true then _ else _) _ _ s
 rw[if_neg (show ¬ ((Value.ref d==Value.none)=true) from Bool.false_ne_true)];refine jb (jc (jb (wpAny_dictEntries hod hdd ?_)));rw[if_neg (by simp)];refine jb (jc (jb (wpAny_dictEpoch hod hdd ?_)));rw[if_neg (by simp)];refine jc ?_;dsimp only;rw[if_neg (Int.not_lt.mpr (Int.natCast_nonneg i)),Int.toNat_natCast,Array.getElem?_eq_none hge];dsimp only;refine jb ?_
 first|refine jb (wpAny_typeNameOfWhole_keyiter hit.typeIs (jc ?_))|refine jb (wpAny_typeNameOf_keyiter hit.typeIs (jc ?_))
 show wpAny _ _ (setField (.ref it) 0 .none >>= _) _ _ s
 refine jb (wpAny_setField ho hd (by simp) ?_);exact a28 hh fun h' x k t=>jb (wpAny_isInstance (T := "StopIteration") (b:=true) t isSubtype_stop (jc (hQ _ fun b o hb e=>k b o ((Heap.SameBut.update ..).extBut b o hb e))))
theorem bh1(hh:A.handled=none)(I d:Addr)(hne:d≠I)(es:Array DictEntry)(ep:Nat) :
  Walks prog w A I [I,d] [I] es.size (fun i v=>∃ e,es[i]?=some e/\v=e.key) (fun i h=>h.IsKeyIter I d i es.size ep/\ax5 h d es ep) where
 sub:=fun b hb=>by simp at hb; simp [hb]
 frame:=fun Z Z Z st hk=>⟨st.1.at fun o e=>hk I (by simp) o e,let ⟨o,a,b,d'⟩:=st.2; ⟨o,hk d (by simp) o a,b,d'⟩⟩
 item:=fun i s Q E hi st hQ=>bo8 st.1 st.2 hi fun h' hit' hs'=>hQ _ h' s.toks ⟨_,Array.getElem?_eq_getElem hi,rfl⟩ ⟨hit',let ⟨o,a,b,d'⟩:=st.2; ⟨o,hs'.extBut d o hne a,b,d'⟩⟩ fun b o hb e=>hs'.extBut b o (fun h=>hb (by simp [h])) e
 done:=fun s Q E st hQ=>bx1 hh st.1 st.2 (Nat.le_refl _) fun h' he'=>hQ h' s.toks fun b o hb e=>he' b o (fun h=>hb (by simp [h])) e
 self:=fun Z Z Z Z st hQ=>wpAny_pyIter_keyiter st.1 hQ
end
end
theorem ce2{k:Nat}{I d:Addr}{i n ep:Nat}(v:Value)(s:Shared){Q:Unit->Shared->Prop}{E:Value->Shared->Prop}(hi:s.heap.IsKeyIter I d i n ep)(q:Q () s):wpAny (model c.prog c.w) A (letOwnedTupleGo (.Tuple elts k tp) (.ref I) v) Q E s:=by
 obtain⟨o,ho,hc,hd⟩:=hi
 cases v with
 | ref T =>
  refine jb (m:=load I) (wpAny_load ho ?_);rw[hc,hd];exact jc q
 | _=>exact jc q
theorem br0{a:Addr}{o:Obj}{es:Array DictEntry}{ep:Nat}{Q:VP}(hh:A.handled=none)(S:Fs c gs ns env V fx vs l h)(ha:In V fx a o)(ox:o.ExactDict)(od:o.data=.dict es ep)(nm:dT a)
  (K:∀ it h',Fs c gs ns env V fx vs l h'->(∀ elts tk tp,dR c (.Tuple elts tk tp) A env V fx l h' it es.size (fun i v Z=>∃ e,es[i]?=some e/\v=e.key))->Q it h'):Wp c E A (pyIter (.ref a)) Q h:=.mk fun tk=>by
 have ho:=S.at' ha;refine bo7 (s:=c.at h tk) nm ⟨o,ho,ox,od⟩ ?_;have hne:a≠h.objs.size:=jv (jw ho);have W:=bh1 (prog:=c.prog) (w:=c.w) (A:=A) hh h.objs.size a hne es ep;refine⟨_,(_,_),rfl,K _ _ ((S.push { cls:=.type "dict_keyiterator", data:=.fields #[.ref a,.int 0 0,.int es.size 0,.int ep 0] }).drop) fun elts tk tp=>?_⟩;have W':=KTurns.ofWalks (target:=.Tuple elts tk tp) W (fun i v s Q E st q=>ce2 v s st.1 q);refine⟨_,_,_,_,_,rfl,W',⟨⟨_,jq _ rfl,rfl,rfl⟩,o,jp _ ho,ox,od⟩,?_,?_,?_,fun i s Q E st q=>W.self i s Q E st q⟩
 ·intro b hb;rw[je.mp hb];exact S.apt (Nat.le_refl _)
 ·intro i h' st b hb;rw[je.mp hb];obtain⟨o,e,Z,ed⟩:=st.1;exact⟨o,e,ai.fld ed (by simp)⟩
 ·intro b hb
  rcases jf.mp hb with rfl|hb
  ·exact .inl (je.mpr rfl)
  ·rw[je.mp hb];exact .inr ha.fp
end
section
variable {E:VP} {gs ns:List Str} {pos:Pos} {st:Stmt} {rest:List Stmt} {A:Around} {env:Env} {V:Heap} {fx:ac} {l:ac} {vs:LO} {h:Heap}
mutual
theorem a02{prog:Program}{w:World}{E:Value->Shared->Prop}{s:Shared}{d:Addr}{items:Array Value}{n:Nat}{k:Int}{t:Tok}{v:Value}{Q:Unit->Shared->Prop}(ho:s.heap.get? d=some (listOf items n))(h0:0<=k)(hfit:k<2 ^ 63)(hn:k<items.size)
  (hQ:∀ h' n',h'.get? d=some (listOf (items.setIfInBounds k.toNat v) n')->Heap.SameBut d s.heap h'->Q () { s with heap:=h' }) :
  wpAny (model prog w) A (setItem (.ref d) (.int k t) v) Q E s:=by
 have hl:s.heap.IsList d items:=aq ho;unfold setItem
 try with_reducible refine wpAny_holding ?_
 first|refine jb (jc ?_)|skip
 refine jb (wpAny_sequenceKey hl.typeIs (by decide) ?_);refine jb (wpAny_callSpecial?_slot (name:=Str.ofString "__setitem__") hl.typeIs slot_list_setitem
  (wpAny_call_entry slot_list_setitem hl.typeIs entry_list_setitem ?_ (args_list_setitem _ _ _)))
 show wpAny _ _ (Builtin.List.listSubscript? (.int k t) >>= _) _ _ s
 refine jb (wpAny_listSubscript_int (fitsIndex_of h0 hfit) ?_);clear hfit;obtain⟨j,rfl⟩:=Int.eq_ofNat_of_zero_le h0;have hj:j<items.size:=by exact b48 hn
 have hx':items[j]?=some items[j]:=Array.getElem?_eq_getElem hj
 show wpAny _ _ ((seqItemAt d j >>= fun r=>Pure.pure (r.map (j,·))) >>= _) _ _ s
 refine jb (jb (wpAny_seqItemAt ho rfl (jc ?_)));rw[hx']
 show wpAny _ _ (setSeqItemAt d j v >>= _) _ _ s
 have hd':=get?_update_seq (c := "list") ho (·.setIfInBounds j v);refine jb (wpAny_setSeqItemAt ho rfl ?_)
 first
  | exact jb (jc (jc ⟨.none,rfl,jc (hQ _ _ hd' (Heap.SameBut.update ..))⟩))
  | exact jc ⟨.none,rfl,jc (hQ _ _ hd' (Heap.SameBut.update ..))⟩
theorem bi1{a:Addr}{its:List Value}{n:Nat}{j:Nat}{t:Tok}{v:Value}{Q:Unit->Heap->Prop}(S:Fs c gs ns env V fx vs ((a,listOf its.toArray n)::l) h)(hj:j<its.length)(hz:its.length<=1000000)
  (k:∀ n' h',let q9:=((a,listOf (its.set j v).toArray n')::l); Fs c gs ns env V fx vs q9 h'->Q () h'):Wp c E A (setItem (.ref a) (.int j t) v) Q h:=.mk fun tk =>
 a02 (s:=c.at h tk) (S.own _ (.head _)) (z9) (cm5 hj hz) (by simp; lia) fun h' n' e hs=>⟨h',(_,_),rfl,k n' h' (S.update (ai.seq rfl) .head (by rw[e,List.setIfInBounds_toArray]; rfl) fun b o hb e=>(hs.2 b hb).trans e)⟩
theorem cc2{Q:FP}(M N:Heap->Prop)(H1:ay1 (fun f h=>(f=.next/\M h)\/(f=.cont/\N h)) fun R=>Wp c E A (exec st env) R h)(H2:∀ h,M h->Wp c E A (execs rest env) Q h)(H3:∀ h,N h->Q .cont h):Wp c E A (execs (st::rest) env) Q h :=
 cT ((H1 _ .rfl).mono (fun f h q=>by
  rcases q with⟨rfl,m⟩|⟨rfl,n⟩
  ·exact d5.next (H2 h m)
  ·exact d5.cont (H3 h n)) fun Z Z x=>x)
theorem cc1{Q:FP}(M:Heap->Prop)(N:VP)(H1:ay1 (fun f h=>(f=.next/\M h)\/(∃ v,f=.ret v/\N v h)) fun R=>Wp c E A (exec st env) R h)(H2:∀ h,M h->Wp c E A (execs rest env) Q h)(H3:∀ v h,N v h->Q (.ret v) h):Wp c E A (execs (st::rest) env) Q h :=
 cT ((H1 _ .rfl).mono (fun f h q=>by
  rcases q with⟨rfl,m⟩|⟨v,rfl,n⟩
  ·exact d5.next (H2 h m)
  ·exact d5.ret (H3 v h n)) fun Z Z x=>x)
end
end
section
variable {E:VP} {gs ns:List Str} {pos:Pos} {value slice:Expr} {A:Around} {env:Env} {V:Heap} {fx:ac} {l:ac} {vs:LO} {h:Heap} {b:Array UInt8} {t:Tok} {ks:List Int}
open PySem.W
mutual
theorem ab8{Q:VP}(hk:KBw.bInts b=ks)(hf:ks.length<=1000000)(q:∀ t,Q (.int ks.length t) h):Wp c E A (call (.builtin "len") [.bytes b t]) Q h:=.mk fun tk =>
 KBw.len_K (s:=c.at h tk) hk (b28 hf) ⟨h,(_,_),rfl,q _⟩
theorem af1{i:Int}{u:Tok}{Q:VP}(hk:KBw.bInts b=ks)(hf:ks.length<=1000000)(h0:0<=i)(h1:i<ks.length)(q:∀ t,Q (.int (ks.getD i.toNat 0) t) h)
  (hs:autoParam (subscripted slice false (.bytes b t) (.int i u)=operate [.bytes b t,.int i u] (getItem (.bytes b t) (.int i u))) aU)
  (ht:autoParam (∀ r,letTemporaryGo value (.bytes b t) r=Pure.pure ()) aI):Wp c E A (subscriptTail value slice (.bytes b t) (.int i u)) Q h:=.mk fun tk =>
 KBw.item_K (s:=c.at h tk) hk (b28 hf) h0 h1 (fun t' k Z Z=>⟨h,(k,tk.2),rfl,q t'⟩) hs ht
theorem cc7{sl:Addr}{at':Int}{u:Tok}{Q:VP}(S:Fs c gs ns env V fx vs ((sl,ac9 .none (.int at' u) .none)::l) h)(hk:KBw.bInts b=ks)(hf:ks.length<=1000000)(h0:0<=at')(q:∀ b' t',KBw.bInts b'=ks.take at'.toNat->Q (.bytes b' t') h)
  (hs:autoParam (subscripted slice false (.bytes b t) (.ref sl)=operate [.ref sl,.bytes b t] (getItem (.bytes b t) (.ref sl))) aU)
  (ht:autoParam (∀ r,letTemporaryGo value (.bytes b t) r=Pure.pure ()) aI):Wp c E A (subscriptTail value slice (.bytes b t) (.ref sl)) Q h:=.mk fun tk=>by
 have e:(ks.drop 0).take (clipAt ks.length at'-0)=ks.take at'.toNat:=by
  rw[List.drop_zero,Nat.sub_zero];obtain⟨n,rfl⟩:=Int.eq_ofNat_of_zero_le h0;rw[clipAt_nat]
  show ks.take (min n ks.length)=ks.take n
  rw[Nat.min_def]
  split
  ·rfl
  ·rw[List.take_of_length_le (Nat.le_refl _),List.take_of_length_le (bm2 (by assumption))]
 refine tail_of_ItemOn (s:=c.at h tk) ⟨"bytes", _,FB.slot_bytes_getitem.lookup,typeIs_bytes _ _ _,getItem_meets (typeIs_bytes _ _ _) (by decide) FB.slot_bytes_getitem FB.entry_bytes_getitem (FB.args_bytes_getitem_2 _ _) (KBc.meets_slice2 b t sl (lo:=none) (hi:=some at') .none (.int _ _))
  ⟨⟨_,S.own _ (.head _),rfl,rfl⟩,jr (KBc.size_picked_le b none (some at')) (by rw[<- KBw.ints_length b,hk,sizeLine_eq]; exact bm1 hf),fun t' k=>⟨h,(k,tk.2),rfl,q _ t' ((KBc.ints_picked hk none (some at')).trans e)⟩⟩⟩ hs ht
theorem aw0{D:Addr}{its:List Value}{n:Nat}{xs:List Int}{Q:VP}(S:Fs c gs ns env V fx vs l h)(hh:A.handled=none)(hd:h.get? D=some (listOf its.toArray n))(hi:IntsAre its xs)(hr:∀ x∈xs,0<=x/\x<256)(hn:xs.length<=1000000)
  (k:∀ b t h',KBw.bInts b=xs->Fs c gs ns env V fx vs l h'->Q (.bytes b t) h'):Wp c E A (call (.type "bytes") [.ref D]) Q h:=.mk fun tk =>
 call_bytes_ints (s:=c.at h tk) (aq hd) hi hr (by rw[hi.length,sizeLine_eq]; exact bm1 hn) hh fun h' t k' hk=>⟨h',(k',tk.2),rfl,k _ t h' (KBa.ints_make hr) (S.ext hk)⟩
theorem bx4{x:List UInt8}{k:Nat}{Q:VP}(q:∀ t,Q (.bytes x.toArray t) h):Wp c E A (eval (.Constant (.bytes x) k pos) env) Q h:=.mk fun tk=>Constant_bytes (s:=c.at h tk) ⟨h,(_,_),rfl,q _⟩
theorem a49{Q:VP}(hh:A.handled=none)(S:Fs c gs ns env V fx vs l h)(hk:KBw.bInts b=ks)
  (K:∀ it h',Fs c gs ns env V fx vs l h'->(∀ x xp,dR c (.Name x xp) A env V fx l h' it ks.length (fun i v Z=>i<ks.length/\∃ u,v=.int (ks.getD i 0) u))->Q it h'):Wp c E A (pyIter (.bytes b t)) Q h:=.mk fun tk=>by
 refine KBw.pyIter_bytes (s:=c.at h tk) ?_;have W:=KBw.walks (prog:=c.prog) (w:=c.w) (A:=A) hh h.objs.size b t;refine⟨_,(_,_),rfl,K _ _ ((S.push { cls:=.type "bytes_iterator", data:=.fields #[.bytes b t,.int 0 0] }).drop) fun x xp=>?_⟩;have W':=KTurns.monoP (P':=fun i v Z=>i<ks.length/\∃ u,v=.int (ks.getD i 0) u) (KTurns.ofWalks (target:=.Name x xp) W (fun i v s Q E st q=>jc q)) fun i v Z zpa=>by
  obtain⟨d,u,e1,e2⟩:=zpa;have:=KBw.ints_get e1;rw[hk] at this;refine⟨?_,u,?_⟩
  ·have:=(List.getElem?_eq_some_iff.mp this).1; exact this
  ·rw[e2,jk,this]; rfl
 have e1:b.size=ks.length:=by rw[<- hk,KBw.ints_length]
 rw[e1] at W';refine⟨_,_,_,_,_,rfl,W',⟨_,jq _ rfl,rfl,rfl⟩,?_,?_,?_,fun i s Q E st q=>W.self i s Q E st q⟩
 ·intro b hb;rw[je.mp hb];exact S.apt (Nat.le_refl _)
 ·intro i h' st b hb;rw[je.mp hb];obtain⟨o,e,Z,ed⟩:=st;exact⟨o,e,ai.fld ed (by simp)⟩
 ·intro b hb;rw[je.mp hb];exact .inl (je.mpr rfl)
end
end
section
variable {prog:Program} {w:World} {A:Around} {E:Value->Shared->Prop} {s:Shared} {b:Array UInt8} {t:Tok}
mutual
theorem b11:isSubtype (.type "bytes") (.type "bytes")=Pure.pure true:=by rw[isSubtype_type]; kernel_rfl
theorem bf7{R:Result->Shared->Prop}(hh:A.handled=none)(S:Addr)(res:Value)(cA:Nat)(hS:s.heap.get? S=some { cls:=.type "list", data:=.seq #[] cA })
  (hR:∀ h' tk acc' c',(∀ b o,b≠S->s.heap.get? b=some o->h'.get? b=some o)->h'.get? S=some { cls:=.type "list", dict:=none,data:=.seq acc' c',slots:=#[] } ->
   ItemsOf (fun i v=>∃ c u,b[i]?=some c/\v=.int (c.toNat:Int) u) acc' b.size->R (.ok (.ret res)) { s with heap:=h',toks:=tk }) (hn:b.size<=sizeLine) :
  wpAny (model prog w) A.in1 (Builtin.List.listExtendWith (.ref S) (.bytes b t) res)
   (fun fin s'=>match fin with|.done f=>R (.ok f) s'|.again c'=>c'.quiet=true/\codeAny (model prog w) A c' R s') (fun e s'=>R (.error e) s') s:=by
 have hSI:S≠s.heap.objs.size:=jv (jw hS);have hSf:S∉[s.heap.objs.size]:=fun hm=>hSI (je.mp hm);unfold Builtin.List.listExtendWith;refine jb (wpAny_typeOf (T := "bytes") (v:=.bytes b t) rfl ?_);have h1:Builtin.List.listSameRef (.ref S) (.bytes b t)=false:=rfl;have h2:(Value.type "bytes" == Value.type "list")=false:=by decide
 have h3:(Value.type "bytes" == Value.type "tuple")=false:=by decide
 simp only[h1,h2,h3,Bool.or_false,Bool.false_eq_true,if_false];refine jb (KBw.pyIter_bytes ?_);refine jb (wpAny_holding ?_);unfold Builtin.List.listLengthHint;refine jb (wpAny_specialOf (T := "bytes") (v:=.bytes b t) rfl FB.slot_bytes_len.lookup ?_)
 wp_delta
 refine jb (wpAny_isInstance (T := "bytes") (v:=.bytes b t) (b:=true) rfl b11 ?_)
 show wpAny _ _ (typeOf (Value.bytes b t) >>= _) _ _ _
 refine jb (wpAny_typeOf (T := "bytes") (v:=.bytes b t) rfl ?_);refine jc ?_;rw[if_neg (by decide)];refine jc ⟨plainId_quiet F.plain_extend_loop _,codeAny_extend_loopS (KBw.walks (prog:=prog) (w:=w) (A:=A.in1) hh s.heap.objs.size b t).toS hn _ hSf _ b.size 0 _ _ _ rfl (Nat.zero_le _) ⟨_,jq _ rfl,rfl,rfl⟩ (jp _ hS) (ItemsOf.nil _) fun s' acc' c' hm hS' hacc=>?_⟩;rw[Moved.eq_with hm];refine hR s'.heap s'.toks acc' c' (fun b ob hb e=>hm.heap b ob (fun hmem=>?_) (jp _ e)) hS' hacc
 rcases jf.mp hmem with e'|hmem
 ·exact hb e'
 ·exact absurd (jw e) (by rw[je.mp hmem]; exact Nat.lt_irrefl _)
theorem bt3{R:Result->Shared->Prop}(hh:A.handled=none)(S:Addr)(hS:s.heap.get? S=some { cls:=.type "list", data:=.seq #[] })
  (hR:∀ h' tk acc' c',(∀ b o,b≠S->s.heap.get? b=some o->h'.get? b=some o)->h'.get? S=some { cls:=.type "list", dict:=none,data:=.seq acc' c',slots:=#[] } ->
   ItemsOf (fun i v=>∃ c u,b[i]?=some c/\v=.int (c.toNat:Int) u) acc' b.size->R (.ok (.ret .none)) { s with heap:=h',toks:=tk }) (hn:b.size<=sizeLine) :
  wpAny (model prog w) A.in1 (Builtin.«list.__init__» ⟨[.ref S,.bytes b t],[]⟩)
   (fun fin s'=>match fin with|.done f=>R (.ok f) s'|.again c'=>c'.quiet=true/\codeAny (model prog w) A c' R s') (fun e s'=>R (.error e) s') s:=by
 show wpAny _ _ (do let old <- Builtin.List.listItems (.ref S); Builtin.List.listUpdate (.ref S) (fun Z=>#[]); letGo old.toList.reverse; Builtin.List.listExtendWith (.ref S) (.bytes b t) .none) _ _ s
 refine jb ?_;unfold Builtin.List.listItems;refine jb (wpAny_seqItems hS rfl (jc ?_))
 show wpAny _ _ (updateSeq S (fun Z=>#[]) >>= fun Z=>letGo (#[]:Array Value).toList.reverse >>= fun Z=>Builtin.List.listExtendWith (.ref S) (.bytes b t) .none) _ _ s
 refine jb (wpAny_updateSeq hS rfl ?_);have hSC:=Heap.get?_update_self (Obj.mapSeq (fun Z=>(#[]:Array Value))) hS rfl;have oth:∀ b o,b≠S->s.heap.get? b=some o->(s.heap.update S (Obj.mapSeq (fun Z=>(#[]:Array Value)))).get? b=some o :=
  fun b o hb e=>(Heap.get?_update_other _ _ (Ne.symm hb)).trans e
 refine jb (wpAny_letGo ?_);refine bf7 (hn:=hn) hh S .none _ hSC fun h' tk acc' c' hk hS' hacc=>?_;exact hR h' tk acc' c' (fun b o hb e=>hk b o hb (oth b o hb e)) hS' hacc
theorem bt2{Q:Value->Shared->Prop}(hh:A.handled=none)
  (hQ:∀ h' tk acc' c',(∀ b o,s.heap.get? b=some o->h'.get? b=some o) ->
   h'.get? s.heap.objs.size=some { cls:=.type "list", dict:=none,data:=.seq acc' c',slots:=#[] }->ItemsOf (fun i v=>∃ c u,b[i]?=some c/\v=.int (c.toNat:Int) u) acc' b.size->Q (.ref s.heap.objs.size) { s with heap:=h',toks:=tk }) (hn:b.size<=sizeLine) :
  wpAny (model prog w) A (call (.type "list") [.bytes b t]) Q E s:=by
 refine callType_codes (Q₁:=fun obj sB=>obj=.ref s.heap.objs.size/\sB={ s with heap:=s.heap.push { cls:=.type "list", data:=.seq #[] } }) F.called_list (F.typeCall_list_1 _) F.entry_list_init
  (code_list_new _ ⟨rfl,rfl⟩) fun obj sB O=>?_
 obtain⟨rfl,rfl⟩:=O;have hS:(s.heap.push { cls:=.type "list", data:=.seq #[] }).get? s.heap.objs.size=some { cls:=.type "list", data:=.seq #[] }:=jq _ rfl;refine⟨⟨_,hS,rfl⟩,F.args_list_init_2 _ _,bt3 (A:=A.in1) (hn:=hn) hh _ hS fun h' tk acc' c' hk hS' hacc=>?_⟩;exact⟨rfl,hQ h' tk acc' c' (fun b o e=>hk b o (jv (jw e)) (jp _ e)) hS' hacc⟩
end
end
theorem bd8{its:List Value}:∀ {xs:List Int},its.length=xs.length->(∀ (i:Nat) (v:Value),its[i]?=some v->∃ t,v=Value.int (xs.getD i 0) t)->IntsAre its xs:=by
 induction its with
 | nil =>
  intro xs hl h
  cases xs with
  | nil=>exact .nil
  | cons _ _=>exact Nat.noConfusion hl
 | cons v r ih =>
  intro xs hl h
  cases xs with
  | nil=>exact Nat.noConfusion hl
  | cons x xs =>
   obtain⟨t,e⟩:=h 0 v rfl;subst e;exact .cons _ _ (ih (Nat.succ.inj hl) fun i v e=>h (i+1) v e)
section
variable {E:VP} {gs ns:List Str} {pos:Pos} {A:Around} {env:Env} {V:Heap} {fx:ac} {l:ac} {vs:LO} {h:Heap} {b:Array UInt8} {t:Tok} {ks:List Int}
theorem by0{Q:VP}(S:Fs c gs ns env V fx vs l h)(hh:A.handled=none)(hk:KBw.bInts b=ks)(hf:ks.length<=1000000)
  (k:∀ r its m h',h.objs.size<=r->IntsAre its ks->let q9:=((r,listOf (List.toArray its) m)::l); Fs c gs ns env V fx vs q9 h'->Q (.ref r) h'):Wp c E A (call (.type "list") [.bytes b t]) Q h:=.mk fun tk=>by
 have e1:b.size=ks.length:=by rw[<- hk,KBw.ints_length]
 refine bt2 (s:=c.at h tk) hh (fun h' tk' acc' c' hk' e hacc=>⟨h',(tk',tk.2),rfl,k _ acc'.toList c' h' (Nat.le_refl _) ?_ ?_⟩) (by rw[e1]; exact bd hf)
 ·refine bd8 (by rw[Array.length_toList,hacc.1,e1]) fun i v ev=>?_;rw[Array.getElem?_toList] at ev;obtain⟨d,u,e2,e3⟩:=hacc.2 i v ev;have:=KBw.ints_get e2;rw[hk] at this;exact⟨u,by rw[e3,jk,this]; rfl⟩
 ·have S':=S.ext hk';rw[Array.toArray_toList];exact{ S' with
   own:=af (e) fun p hp=>S'.own p hp
   ord:=⟨fun q hq=>jv (jw (S.own q hq)),S.ord⟩
   ap:=af (S.fresh (Nat.le_refl _)) fun p hp=>S.ap p hp
   off:=fun p hp=>⟨(S.off p hp).1,af (jv (jw (S.fix p hp))) fun q hq=>(S.off p hp).2 q hq⟩ }
end
section
variable {E:VP} {gs ns:List Str} {pos:Pos} {A:Around} {env:Env} {V:Heap} {fx:ac} {l:ac} {vs:LO} {h:Heap}
theorem bo5(x:Value)(n:Nat):∀ (acc:Array Value),List.foldl (fun x1 x2=>x1++x2) acc (List.replicate n #[x])=acc++(List.replicate n x).toArray:=by
 induction n with
 | zero=>intro acc; simp
 | succ n ih =>
  intro acc;rw[List.replicate_succ,List.foldl_cons,ih]
  apply Array.toList_inj.mp
  simp [List.replicate_succ]
theorem bu5{a:Addr}{x:Value}{k n:Nat}{u:Tok}{Q:VP}(S:Fs c gs ns env V fx vs l h)(ha:h.get? a=some (listOf [x].toArray k))(hn:n<=1000000)
  (K:∀ r h',h.objs.size<=r->let q9:=((r,listOf (List.replicate n x).toArray 0)::l); Fs c gs ns env V fx vs q9 h'->Q (.ref r) h'):Wp c E A (binaryOp .Mult (.ref a) (.int n u)) Q h:=.mk fun tk=>by
 obtain⟨tl,ht,N⟩:=S.all;refine mul_list (s:=c.at h tk) S.fr N ha (cm4) (cm3 hn) (by simp; exact bm1 hn) fun h' F N'=>⟨h',(_,_),rfl,K _ h' (Nat.le_refl _) (S.one ht (Nat.le_refl _) F ?_)⟩;have e:(List.foldl (fun x1 x2=>x1++x2) #[] (List.replicate (if[x].toArray.isEmpty=true then 0 else(n:Int).toNat) [x].toArray))=(List.replicate n x).toArray:=by
  rw[if_neg (by simp),Int.toNat_natCast]
  show List.foldl _ #[] (List.replicate n #[x])=_
  rw[bo5]
  simp
 rw[e] at N';exact N'
end
theorem bd3{a b:Int}(h:b.natAbs<2 ^ 64):IntMulOk a b:=IntMulOk.of_right (intBits_le_iff.mpr h)
section
variable {E:VP} {pos:Pos} {body orelse:List Stmt} {V:ExceptHandler} {hs:List ExceptHandler} {A:Around} {env:Env} {h:Heap}
theorem bu3{Q:FP}(H:Wp c (fun Z Z=>False) A (execs body env) (d5 c E orelse A env Q) h):Wp c E A (exec (.Try body (V::hs) orelse [] pos) env) Q h:=.mk fun tk =>
 wpAny_Try_except (s:=c.at h tk) (jd (H.run tk) (fun f s zpa=>by
  obtain⟨h1,t1,e,k⟩:=zpa;subst e
  cases f with
  | next=>exact k.run t1
  | _=>exact⟨h1,t1,rfl,k⟩) fun Z Z zpa=>by obtain⟨Z,Z,Z,q⟩:=zpa; exact q.elim)
end
section
variable {E:VP} {A:Around} {h:Heap}
theorem bi4{a b:Addr}{xs ys:List Value}{m n k:Nat}{ds es:List PyData}{Q:VP}(ar:Ar A k)(ha:h.get? a=some (listOf xs.toArray m))(hb:h.get? b=some (listOf ys.toArray n))(ia:aw (Is h) xs ds)(ib:aw (Is h) ys es)(h1:(PyData.list ds).depth<=64)(h2:(PyData.list es).depth<=64)
  (q:Q (.bool (PyData.eqv (.list ds) (.list es))) h):Wp c E A (compareOp .Eq (.ref a) (.ref b)) Q h:=.mk fun tk=>by
 obtain⟨as,r⟩:=aw.reads (h:=h) ia;obtain⟨bs,r'⟩:=aw.reads (h:=h) ib;refine eq_dataH (s:=c.at h tk) (Reads.list ha rfl rfl (by simpa using r)) (Reads.list hb rfl rfl (by simpa using r')) ?_ ?_ ar.u ⟨h,tk,rfl,q⟩
 ·show((PyData.list ds).canLay0&&decide ((PyData.list ds).depth<=64))=true
  rw[jz h1,Bool.and_true];simp only[PyData.canLay0]; exact ia.lay
 ·show((PyData.list es).canLay0&&decide ((PyData.list es).depth<=64))=true
  rw[jz h2,Bool.and_true];simp only[PyData.canLay0]; exact ib.lay
end
mutual
theorem ba5{xs:Array Nat}{i d d':Nat}(h:i<xs.size):xs.getD i d=xs.getD i d':=by
 unfold Array.getD;rw[dif_pos h,dif_pos h]
theorem cb5(xs:Array Nat)(j:Nat)(hm:∀ i k,i<k->k<xs.size->xs.getD i 0<xs.getD k 0)(fuel:Nat):∀ (lo hi:Nat),hi-lo<=fuel->lo<=hi->hi<=xs.size->(∀ i,i<lo->xs.getD i 0<j)->(∀ i,hi<=i->i<xs.size->j<=xs.getD i 0) ->
  (∀ i,i<SetTable.below.go xs j fuel lo hi->xs.getD i 0<j)/\(∀ i,SetTable.below.go xs j fuel lo hi<=i->i<xs.size->j<=xs.getD i 0)/\SetTable.below.go xs j fuel lo hi<=xs.size:=by
 induction fuel with
 | zero =>
  intro lo hi h1 h2 h3 h4 h5;have e:lo=hi:=cm2 h1 h2;exact⟨h4,fun i q=>h5 i (jr (jB e.symm) q),jr h2 h3⟩
 | succ fuel ih =>
  intro lo hi h1 h2 h3 h4 h5
  by_cases hlt:lo<hi
  ·have m1:lo<=(lo+hi)/2:=cm1 hlt;have m2:(lo+hi)/2<hi:=cm0 hlt
   by_cases hx:xs.getD ((lo+hi)/2) j<j
   ·rw[show SetTable.below.go xs j (fuel+1) lo hi=SetTable.below.go xs j fuel ((lo+hi)/2+1) hi from(if_pos hlt).trans (if_pos hx)];have hx':xs.getD ((lo+hi)/2) 0<j:=ju (jB (ba5 (js m2 h3))) hx;refine ih _ _ (cl9 h1 m1) (bb2 m2) h3 (fun i hi'=>?_) h5;exact(Nat.lt_or_eq_of_le (Nat.lt_succ_iff.mp hi')).elim (fun q=>jK (hm i _ q (b27 h3 m2)) hx') fun q=>ju (jB (congrArg (fun i=>xs.getD i 0) q)) hx'
   ·rw[show SetTable.below.go xs j (fuel+1) lo hi=SetTable.below.go xs j fuel lo ((lo+hi)/2) from(if_pos hlt).trans (if_neg hx)];have hx':j<=xs.getD ((lo+hi)/2) 0:=jr (Nat.le_of_not_lt hx) (jB (ba5 (js m2 h3)));refine ih _ _ (cl8 h1 m2) m1 (cl7 h3 m2) h4 fun i hi' hs=>?_;exact(Nat.lt_or_eq_of_le hi').elim (fun q=>jI (ju hx' (hm _ i q hs))) fun q=>jr hx' (jB (congrArg (fun i=>xs.getD i 0) q))
  ·rw[show SetTable.below.go xs j (fuel+1) lo hi=lo from if_neg hlt];have e:lo=hi:=b44 h2 hlt;exact⟨h4,fun i q=>h5 i (jr (jB e.symm) q),jr h2 h3⟩
abbrev dh(xs:Array Nat):Prop:=xs.toList.Pairwise (·<·)
theorem dh.lt{xs:Array Nat}(r:dh xs):∀ i k,i<k->k<xs.size->xs.getD i 0<xs.getD k 0:=by
 intro i k h1 h2;have:=List.pairwise_iff_getElem.mp r i k (by simp; exact cl6 h1 h2) (by simpa using h2) h1
 simpa [Array.getD,h2,jK h1 h2] using this
theorem a29{xs:Array Nat}(r:dh xs)(j:Nat):(∀ i,i<SetTable.below xs j->xs.getD i 0<j)/\(∀ i,SetTable.below xs j<=i->i<xs.size->j<=xs.getD i 0)/\SetTable.below xs j<=xs.size :=
 cb5 xs j r.lt xs.size 0 xs.size (cl5) (cl4) (Nat.le_refl _) (fun i h=>absurd h (Nat.not_lt_zero _)) fun i h1 h2=>absurd h2 (Nat.not_lt.mpr h1)
theorem bo0{xs:Array Nat}(r:dh xs){i:Nat}(hi:i<xs.size):SetTable.below xs (xs.getD i 0+1)=i+1:=by
 obtain⟨h1,h2,h3⟩:=a29 r (xs.getD i 0+1);have a:¬ SetTable.below xs (xs.getD i 0+1)<=i:=fun h=>by have:=h2 i h hi; exact b26 this
 have b:¬ i+1<SetTable.below xs (xs.getD i 0+1):=fun h=>by
  have h4:=h1 (i+1) h;have:=r.lt i (i+1) (Nat.lt_succ_self _) (cl3 h3 h);exact cl2 h4 this
 exact cl1 a b
theorem bn9{xs:Array Nat}(r:dh xs):SetTable.below xs 0=0:=by
 obtain⟨h1,h2,h3⟩:=a29 r 0
 cases e:SetTable.below xs 0 with
 | zero=>rfl
 | succ n=>have:=h1 0 (b25 e); exact cl0 this
theorem a03{α:Type}(xs:Array α)(p:Nat)(x:α)(hp:p<=xs.size):(SetTable.insertAt xs p x).toList=xs.toList.take p++x::xs.toList.drop p:=by
 simp [SetTable.insertAt,List.take_of_length_le]
theorem dh.insert{xs:Array Nat}(r:dh xs){j:Nat}(hne:xs[SetTable.below xs j]?≠some j):dh (SetTable.insertAt xs (SetTable.below xs j) j):=by
 obtain⟨h1,h2,h3⟩:=a29 r j;generalize SetTable.below xs j=p at *;unfold dh;rw[a03 xs p j h3];have hl:xs.toList.length=xs.size:=by simp
 have gd:∀ i,i<xs.size->xs.toList[i]?=some (xs.getD i 0):=fun i h=>by simp [Array.getD,h]
 have hlt:∀ a∈xs.toList.take p,a<j:=fun a ha=>by
  obtain⟨i,hi⟩:=List.getElem?_of_mem ha;rw[List.getElem?_take] at hi
  split at hi
  ·rename_i q
   rw[gd i (b27 h3 q)] at hi
   cases hi
   exact h1 i q
  ·cases hi
 have hgt:∀ a∈xs.toList.drop p,j<a:=fun a ha=>by
  obtain⟨i,hi⟩:=List.getElem?_of_mem ha;rw[List.getElem?_drop] at hi
  by_cases q:p+i<xs.size
  ·rw[gd _ q] at hi
   cases hi
   have:=h2 (p+i) (ck9) q
   rcases Nat.lt_or_eq_of_le this with x|x
   ·exact x
   ·exfalso
    cases i with
    | zero =>
     apply hne
     have:=gd p q;rw[Array.getElem?_toList] at this;rw[this]
     simpa using x.symm
    | succ i =>
     have a1:=h2 p (Nat.le_refl _) (ck8 q);have a2:=r.lt p (p+(i+1)) (ck7) q;exact ck6 x a1 a2
  ·rw[List.getElem?_eq_none (ck5 hl q)] at hi; cases hi
 refine List.pairwise_append.mpr ⟨r.take,List.pairwise_cons.mpr ⟨hgt,r.drop⟩,fun a ha b hb=>?_⟩
 rcases jf.mp hb with rfl|hb
 ·exact hlt a ha
 ·exact jK (hlt a ha) (hgt b hb)
structure TI(L:Bool)(t:SetTable):Prop where
 led:t.led=L
 up:t.plain=true->t.dummies=#[]/\dh t.place
theorem TI.standIn{L:Bool}{t:SetTable}(i:TI L t)(n:Nat):TI L (t.standIn n):=⟨i.led,fun e=>by cases e⟩
theorem TI.off{L:Bool}{t:SetTable}(i:TI L t):TI L { t with plain:=false }:=⟨i.led,fun e=>by cases e⟩
theorem TI.or{L:Bool}{t:SetTable}(i:TI L t)(n:Nat):TI L (t.orStandIn n):=by unfold SetTable.orStandIn; split; exact i; exact i.standIn n
theorem bw8{t:SetTable}(hd:t.dummies=#[]){j:Nat}:t.slot j≠.dummy:=by
 show(if _ then SetTable.Slot.live _ else if SetTable.has t.dummies j then .dummy else .empty)≠.dummy
 rw[hd,show SetTable.has #[] j=false from rfl]
 split
 ·exact SetTable.Slot.noConfusion
 ·exact SetTable.Slot.noConfusion
theorem bp1{t:SetTable}(hd:t.dummies=#[])(hh:Nat->Int)(h:Int)(fuel:Nat):∀ (p:SetTable.Probe) (m:SetTable.Met),p.dummy=none->SetTable.probe.go t hh h fuel p=some m->∀ j d,m=.empty j d->d=none/\t.slot j=.empty:=by
 induction fuel with
 | zero=>intro p m Z e; exact absurd e (Option.some_ne_none _).symm
 | succ fuel ih =>
  intro p m h0 e j d em;have hadv:(t.advance p).dummy=none:=by
   unfold SetTable.advance
   split<;>exact h0
  have e:(match t.slot p.j with|.empty=>some (SetTable.Met.empty p.j p.dummy)|.dummy=>SetTable.probe.go t hh h fuel (t.advance { p with dummy:=some p.j })|.live i=>if hh i==h then some (.candidate p.j i (t.advance p)) else SetTable.probe.go t hh h fuel (t.advance p))=some m:=e
  cases hs:t.slot p.j with
  | empty =>
   rw[hs] at e;obtain⟨e1,e2⟩:=SetTable.Met.empty.inj ((Option.some.inj e).trans em);exact⟨e2▸h0,e1▸hs⟩
  | dummy=>exact absurd hs (bw8 hd)
  | live i =>
   rw[hs] at e;dsimp only at e
   split at e
   ·exact SetTable.Met.noConfusion ((Option.some.inj e).trans em)
   ·exact ih _ m hadv e j d em
theorem TI.put{L:Bool}{t:SetTable}(i:TI L t){h:Int}{j:Nat}{b:Bool}(e:t.freeSlot h=some (j,b)):TI L (t.put j).1:=by
 refine⟨i.led,fun hp=>?_⟩;obtain⟨hd,hr⟩:=i.up hp;unfold SetTable.freeSlot at e
 cases hq:t.probe (fun Z=>h+1) h (t.probeStart h) with
 | none=>rw[hq] at e; cases e
 | some m =>
  rw[hq] at e
  cases m with
  | empty j' d =>
   unfold SetTable.probe at hq;obtain⟨rfl,hs⟩:=bp1 hd _ _ _ _ _ rfl hq j' d rfl;have e1:j'=j:=(Prod.mk.inj (Option.some.inj e)).1;subst e1;have hne:t.place[SetTable.below t.place j']?≠some j':=fun q=>by
    unfold SetTable.slot at hs
    simp [q] at hs
   have h0:SetTable.has #[] j'=false:=by simp [SetTable.has]
   refine⟨?_,hr.insert hne⟩
   show(if SetTable.has t.dummies j' then _ else t.dummies)=_
   rw[hd,h0]; rfl
  | _=>cases e
theorem TI.layNew{L:Bool}{t:SetTable}(i:TI L t)(es:Array (Int×Value))(h:Int)(x:Value):TI L (layNew t es h x).2.1:=by
 unfold PySem.layNew
 cases e:t.freeSlot h with
 | none=>exact i.standIn _
 | some q=>exact(i.put e).or _
theorem TI.relay{L:Bool}{t:SetTable}(i:TI L t)(es:Array (Int×Value))(n:Nat):TI L (relayAll t es n).2.1:=by
 unfold relayAll
 cases e:t.relaid (es.map (·.1)) n with
 | none=>exact i.standIn _
 | some q =>
  obtain⟨t',order⟩:=q;dsimp only
  split
  ·unfold SetTable.relaid SetTable.laid at e;simp only[Option.bind_eq_bind,Option.bind_eq_some_iff] at e;obtain⟨ow,Z,e⟩:=e
   cases e
   refine⟨i.led,fun Z=>⟨rfl,?_⟩⟩;unfold dh;simp only[List.map_filterMap];refine List.Pairwise.filterMap _ (S:=(·<·)) (R:=(·<·)) (fun a a' h b hb b' hb'=>?_) List.pairwise_lt_range;simp only[Option.mem_def,Option.map_eq_some_iff] at hb hb';obtain⟨x,⟨y,Z,rfl⟩,rfl⟩:=hb;obtain⟨x',⟨y',Z,rfl⟩,rfl⟩:=hb';exact h
  ·exact i.standIn _
end
section
variable {prog:Program} {w:World} {K:Type} [DecidableEq K] (knd:KeyKind prog w K)
def dZ(es:List (Int×Value)):Prop:=es.Pairwise fun e e'=>∀ k,knd.is k e.2=true->knd.is k e'.2=true->False
def cB(L:Bool)(h:Heap)(a:Addr)(S:K->Bool)(n:Nat):Prop :=
 cP fun o es ep t=>h.get? a=some o/\o.ExactSet/\o.data=.set es ep t/\ElemsOf knd es.toList/\(∀ k,S k=true↔∃ e∈es.toList,knd.is k e.2=true)/\es.size<scanBound/\t.fits es.size=true/\es.size=n/\dZ knd es.toList/\TI L t
variable {knd}
theorem dZ.perm{l l':List (Int×Value)}(d:dZ knd l)(p:List.Perm l' l):dZ knd l':=(List.Perm.pairwise_iff (fun h k a b=>h k b a) p).mpr d
theorem dZ.push{l:List (Int×Value)}(d:dZ knd l){h:Int}{x:Value}(ha:∀ e∈l,∀ k,knd.is k e.2=true->knd.is k x=true->False):dZ knd (l++[(h,x)]) :=
 List.pairwise_append.mpr ⟨d,List.pairwise_singleton _ _,fun a h1 b h2=>by cases je.mp h2; exact ha a h1⟩
variable {L:Bool} {A:Around} {E:Value->Shared->Prop} {s:Shared}
mutual
theorem au5{h:Heap}{a:Addr}{o:Obj}{es:Array (Int×Value)}{ep:Nat}{t:SetTable}(ho:h.get? a=some o)(hex:o.ExactSet)(hd:o.data=.set es ep t)
  {es':Array (Int×Value)} {t':SetTable} {S':K->Bool} (hel:ElemsOf knd es'.toList) (hmem:∀ k,S' k=true↔∃ e∈es'.toList,knd.is k e.2=true) (hb:es'.size<scanBound) (hf:t'.fits es'.size=true) (hD:dZ knd es'.toList) (hT:TI L t') :
  (h.update a (Obj.putSet es' t')).get? a=some { o with data:=.set es' (ep+1) t' }/\cB knd L (h.update a (Obj.putSet es' t')) a S' es'.size:=by
 have hg:=(SetOf_store (knd:=knd) ho hex hd hel hmem hb hf).1;exact⟨hg,_,es',ep+1,t',hg,hex,rfl,hel,hmem,hb,hf,rfl,hD,hT⟩
theorem a73{g:Bool->Sem Unit}(hg:∀ (b:Bool) (sB:Shared) (Q':Unit->Shared->Prop),Q' () sB->wpAny (model prog w) A (g b) Q' E sB)
  {a:Addr} {o:Obj} {es:Array (Int×Value)} {ep:Nat} {t:SetTable} (ho:s.heap.get? a=some o) (hex:o.ExactSet) (hd:o.data=.set es ep t)
  {es1:Array (Int×Value)} {t2:SetTable} {S':K->Bool} (hel1:ElemsOf knd es1.toList) (hmem1:∀ k',S' k'=true↔∃ e∈es1.toList,knd.is k' e.2=true)
  (hb1:es1.size<scanBound) (hf2:t2.fits es1.size=true) (hD:dZ knd es1.toList) (hT:TI L t2) {wasDummy:Bool} {R:Option Bool->Shared->Prop}
  (h:∀ h',Heap.SameBut a s.heap h'->cB knd L h' a S' es1.size->R (some true) { s with heap:=h' }) :
  wpAny (model prog w) A (do
    storeSet a es1 t2
    if(!wasDummy&&t2.tooFull)=true then do
      g (relayAll t2 es1 (SetTable.grown es1.size)).2.2
      storeSet a (relayAll t2 es1 (SetTable.grown es1.size)).1 (relayAll t2 es1 (SetTable.grown es1.size)).2.1
      pure (some true)
     else pure (some true)) R E s:=by
 refine jb (wpAny_storeSet_of ho hd ?_ (fits_of_scanBound hb1));obtain⟨ho1,hS1⟩:=au5 (knd:=knd) (L:=L) ho hex hd hel1 hmem1 hb1 hf2 hD hT;have hsb1:=Heap.SameBut.update s.heap a (Obj.putSet es1 t2)
 split
 ·have hp:=relayAll_perm t2 es1 (SetTable.grown es1.size);have aG:=relayAll_fits t2 es1 (SetTable.grown es1.size);have hT2:=hT.relay es1 (SetTable.grown es1.size);generalize hRl:relayAll t2 es1 (SetTable.grown es1.size)=Rl at hp aG hT2 ⊢;obtain⟨es2,t3,gave2⟩:=Rl;dsimp only at hp aG hT2 ⊢;have hsz:es2.size=es1.size:=by rw[<- Array.length_toList,hp.length_eq,Array.length_toList]
  refine jb (hg _ _ _ ?_);refine jb (wpAny_storeSet_of ho1 rfl ?_ (fits_of_scanBound (by rw[hsz]; exact hb1)));obtain⟨Z,hS2⟩:=au5 (knd:=knd) (L:=L) (S':=S') ho1 hex rfl (hel1.perm hp) (fun k'=>(hmem1 k').trans ⟨fun zpa=>by obtain⟨e,he,q⟩:=zpa; exact⟨e,hp.mem_iff.mpr he,q⟩,fun zpa=>by obtain⟨e,he,q⟩:=zpa; exact⟨e,hp.mem_iff.mp he,q⟩⟩) (by rw[hsz]; exact hb1) aG (hD.perm hp) hT2;rw[hsz] at hS2;exact jc (h _ (hsb1.trans (Heap.SameBut.update _ a _)) hS2)
 ·exact jc (h _ hsb1 hS1)
theorem dn2{a:Addr}{S:K->Bool}{n:Nat}{k:K}{x:Value}{Q:Bool->Shared->Prop}(hkey:knd.is k x=true)(hsc:x.scannable=true)(hS:cB knd L s.heap a S n)(hroom:n+1<scanBound)
  (h:∀ h',Heap.SameBut a s.heap h'->cB knd L h' a (fun k'=>S k' || decide (k'=k)) (if S k then n else n+1)->Q (!S k) { s with heap:=h' }) :
  wpAny (model prog w) A (setAddHashed a x (knd.hash k)) Q E s:=by
 obtain⟨o,es,ep,t,ho,hex,hd,hel,hmem,hb,hf,hn,hD,hT⟩:=hS;have hb1:es.size+1<scanBound:=by rw[hn]; exact hroom
 unfold setAddHashed setAddHashedIn;refine wpAny_holding (jb (wpAny_setState_of ho hd hf ?_));dsimp only;rw[byScan_of hsc hb hel];rw[if_pos rfl];unfold setAddByScan;refine jb ?_;refine jb (wpAny_rule ?_);refine jb (wpAny_setScan_of hkey ho hd hf hel ?_)
 cases hr:List.findIdx? (fun e=>knd.is k e.2) es.toList with
 | some j =>
  dsimp only;obtain⟨hj,hpj,Z⟩:=List.findIdx?_eq_some_iff_getElem.mp hr;have hSk:S k=true:=(hmem k).mpr ⟨es.toList[j],List.getElem_mem hj,hpj⟩;refine jc (jc ?_);have e:s={ s with heap:=s.heap }:=by cases s; rfl
  have:=h s.heap (Heap.SameBut.refl a s.heap) ⟨o,es,ep,t,ho,hex,hd,hel,fun k'=>by
   rw[Bool.or_eq_true,decide_eq_true_eq,<- hmem k'];exact⟨fun hk=>hk.elim id (fun e=>e▸hSk),.inl⟩,hb,hf,by rw[hSk]; exact hn,hD,hT⟩
  rw[hSk] at this; rw[e]; exact this
 | none =>
  dsimp only;have hno:∀ e∈es.toList,knd.is k e.2=false:=fun e he=>by simpa using List.findIdx?_eq_none_iff.mp hr e he
  have hSk:S k=false:=by
   cases hk:S k with
   | false=>rfl
   | true=>obtain⟨e,he,hp⟩:=(hmem k).mp hk; rw[hno e he] at hp; cases hp
  have hgw:∀ (b:Bool) {sB:Shared} {Q':Unit->Shared->Prop},Q' () sB->wpAny (model prog w) A (match b with|true=>rule "set.scan.the-table-gave-way" | false=>pure ()) Q' E sB :=
   fun b sB Q' hq=>by cases b<;>first|exact jc hq|exact wpAny_rule hq
  have hperm:=layNew_perm t es (knd.hash k) x;have hfits:=layNew_fits t es (knd.hash k) x;have hT1:=hT.layNew es (knd.hash k) x;generalize hL:PySem.layNew t es (knd.hash k) x=Ln at hperm hfits hT1 ⊢;obtain⟨es1,t1,wasDummy,gave⟩:=Ln;dsimp only at hperm hfits hT1 ⊢;rw[Array.toList_push] at hperm;have hel1:ElemsOf knd es1.toList:=(hel.push hkey hsc).perm hperm;have hmem1:∀ k',(S k' || decide (k'=k))=true↔∃ e∈es1.toList,knd.is k' e.2=true:=mem_push_iff hkey hmem hperm;have hD1:dZ knd es1.toList:=(hD.push (h:=knd.hash k) (x:=x) fun e he k' a b=>by
   have:=knd.inj x k' k b hkey;subst this;rw[hno e he] at a; cases a).perm hperm
  have hb1':es1.size<scanBound:=by rw[<- Array.length_toList,hperm.length_eq,jl,Array.length_toList]; simpa using hb1
  refine jb (hgw _ ?_);have hsz1:es1.size=n+1:=by rw[<- Array.length_toList,hperm.length_eq,jl,Array.length_toList,hn]; rfl
  have hend:∀ h',Heap.SameBut a s.heap h'->cB knd L h' a (fun k'=>S k' || decide (k'=k)) es1.size->Q true { s with heap:=h' }:=by
   intro h' hsb hS'; have:=h h' hsb; rw[hSk] at this; rw[hsz1] at hS'; exact this hS'
  split
  ·refine jb ?_;rw[hashByValue_scannable 8 hsc];refine jc ?_;refine a73 (L:=L) ?_ ho hex hd hel1 hmem1 hb1' ?_ hD1 ?_ ?_
   ·intro b sB Q' hq; cases b<;>first|exact jc hq|exact wpAny_rule hq
   ·split
    ·exact hfits
    ·exact SetTable.fits_plain_off hfits
   ·split
    ·exact hT1
    ·exact hT1.off
   ·intro h' hsb hS'; dsimp only; exact jc (hend h' hsb hS')
  ·refine jb (jc ?_)
   first|rw[if_pos rfl]|rw[if_neg Bool.false_ne_true]
   refine a73 (L:=L) ?_ ho hex hd hel1 hmem1 hb1' hfits hD1 hT1 ?_
   ·intro b sB Q' hq; cases b<;>first|exact jc hq|exact wpAny_rule hq
   ·intro h' hsb hS'; dsimp only; exact jc (hend h' hsb hS')
theorem cB.congr{h:Heap}{a:Addr}{S S':K->Bool}{n n':Nat}(hS:cB knd L h a S n)(e:∀ k,S k=S' k)(en:n=n'):cB knd L h a S' n':=by
 have:S=S':=funext e;subst this; subst en; exact hS
noncomputable def be(val:Nat->K)(i:Nat):List K:=((List.range i).map val).foldl (fun σ k=>if k∈σ then σ else σ++[k]) []
theorem ad8(val:Nat->K)(i:Nat):be val (i+1)=if val i∈be val i then be val i else be val i++[val i]:=by
 unfold be; rw[List.range_succ,List.map_append,List.foldl_append]; rfl
theorem am0(val:Nat->K)(i:Nat):(be val i).length<=i:=by
 induction i with
 | zero=>exact Nat.le_refl _
 | succ i ih =>
  rw[ad8]
  split
  ·exact eO ih
  ·rw[jl,jE]; exact cx7 ih
theorem as9(val:Nat->K)(i:Nat)(k:K):k∈be val i↔∃ j,j<i/\val j=k:=by
 induction i with
 | zero=>exact⟨fun h=>absurd h jm,fun h=>h.elim fun j h=>absurd h.1 (Nat.not_lt_zero _)⟩
 | succ i ih =>
  have on:k∈be val (i+1)↔k∈be val i\/k=val i:=by
   rw[ad8]
   by_cases q:val i∈be val i
   ·rw[if_pos q]; exact⟨.inl,fun h=>h.elim id fun e=>e▸q⟩
   ·rw[if_neg q,jg,je]
  rw[on,ih]
  constructor
  ·exact fun h=>h.elim (fun h=>h.elim fun j h=>⟨j,Nat.lt_succ_of_lt h.1,h.2⟩) fun h=>⟨i,Nat.lt_succ_self _,h.symm⟩
  ·rintro⟨j,a,b⟩;exact(Nat.lt_or_eq_of_le (Nat.le_of_lt_succ a)).elim (fun q=>.inl ⟨j,q,b⟩) fun q=>.inr (by rw[<- b,q])
theorem a23{R:Result->Shared->Prop}{I:Addr}{fp wr:List Addr}{G:Array GenState->Array GenState->Prop}{n:Nat}{P:Nat->Value->Prop}{St:Nat->Shared->Prop}(W:WalksS prog w A.in1 I fp wr G n P St)(S:Addr)(hSf:S∉fp)
  (val:Nat->K) (hval:∀ i v,P i v->knd.is (val i) v=true/\v.scannable=true) (hb:n+1<scanBound) :
  ∀ (k i:Nat) (s:Shared),n-i=k->i<=n->St i s->cB knd L s.heap S (fun k'=>decide (k'∈be val i)) (be val i).length ->
   (∀ s',Moved (S::wr) G s s'->cB knd L s'.heap S (fun k'=>decide (k'∈be val n)) (be val n).length->R (.ok (.ret .none)) s') ->
   codeAny (model prog w) A (.builtin "set.update.loop" ⟨[.ref S,.ref I],[]⟩) R s:=by
 have hSw:S∉wr:=fun h=>hSf (W.sub _ h);have hsub:∀ b∈wr,b∈S::wr:=fun b hb=>List.mem_cons_of_mem _ hb;have mv:∀ {s s':Shared} {S':K->Bool} {m:Nat},Moved wr G s s'->cB knd L s.heap S S' m->cB knd L s'.heap S S' m:=fun{_ _ _ _} hm hx=>by
  obtain⟨o,es,ep,t,ho,r⟩:=hx;exact⟨o,es,ep,t,hm.heap S _ hSw ho,r⟩
 intro k
 induction k with
 | zero =>
  intro i s hk hi hst hS hR;have hin:i=n:=by exact b24 hk hi
  subst hin;refine codeAny_builtin F.entry_set_update_loop ?_;rw[Around.under_plainId F.plain_set_update_loop _]
  show wpAny _ A.in1 (pyNext (.ref I) >>= _) _ _ s
  refine jb (W.done s _ _ hst fun s' hm=>?_)
  show wpAny _ A.in1 (ret Value.none) _ _ s'
  exact jc (hR s' (hm.mono hsub) (mv hm hS))
 | succ k ih =>
  intro i s hk hi hst hS hR;have hlt:i<n:=by exact a20 hk
  refine codeAny_builtin F.entry_set_update_loop ?_;rw[Around.under_plainId F.plain_set_update_loop _]
  show wpAny _ A.in1 (pyNext (.ref I) >>= _) _ _ s
  refine jb (W.item i s _ _ hlt hst fun v s' hP hst' hm=>?_);obtain⟨hv1,hv2⟩:=hval i v hP;have hS':=mv hm hS
  show wpAny _ A.in1 (PySem.holding [v] (setAdd S v) >>= _) _ _ s'
  refine jb (wpAny_holding ?_);unfold setAdd;refine wpAny_holding ?_;refine jb (knd.pyHash (k:=val i) hv1 ?_);have hroom:(be val i).length+1<scanBound:=by have:=am0 val i; exact ck4 hb hlt this
  refine dn2 (knd:=knd) (s:={ s' with toks:=s'.toks+1 }) hv1 hv2 hS' hroom fun h' hsb hS2=>?_;have hSi:cB knd L h' S (fun k'=>decide (k'∈be val (i+1))) (be val (i+1)).length :=
   hS2.congr (fun k'=>by
    rw[ad8]
    by_cases q:val i∈be val i
    ·rw[if_pos q]
     by_cases e:k'=val i
     ·subst e; simp [q]
     ·simp [e]
    ·rw[if_neg q]; simp) (by
    rw[ad8]
    by_cases q:val i∈be val i<;>simp [q])
  refine jc ⟨plainId_quiet F.plain_set_update_loop _,ih (i+1) _ (b23 hk) hlt (W.frame _ s' _ _ hst' (Nat.le_succ _) fun b hb o e=>?_) hSi fun s'' hm'' hS''=>?_⟩
  ·rw[hsb.2 b (fun h:b=S=>hSf (by rw[<- h]; exact hb))]; exact e
  ·refine hR s'' (Moved.trans W.gtrans ((hm.mono hsub).then_heap (Nat.le_succ _) fun b o hb e=>?_) hm'') hS'';rw[hsb.2 b (fun h:b=S=>hb (by rw[h]; exact List.mem_cons_self))]; exact e
end
end
def bC(w:World):Bool:=w.params.followText "set-order"
section
variable {prog:Program} {w:World} {K:Type} [DecidableEq K] {knd:KeyKind prog w K} {A:Around} {E:Value->Shared->Prop} {s:Shared}
mutual
theorem bo2(a:Value){QB:Value->Shared->Prop}
  (h:QB (.ref s.heap.objs.size) { s with heap:=s.heap.push { cls:=.type "set", dict:=none,data:=.set #[] 0 (.fresh 0 0 (!bC w)) } }) :
  codeAny (model prog w) A (.call (.builtin "set.__new__") ⟨[.type "set", a],[]⟩) (wants QB E) s:=by
 refine codeAny_of_tree ?_
 show wpAny _ A.in1 (do checkBuiltinCall "set.__new__" ⟨[.type "set", a],[]⟩; again (.builtin "set.__new__" ⟨[.type "set", a],[]⟩)) _ _ s
 refine jb (wpAny_of_eq (PySem.F.newCall_set_1 a) (jc ⟨plainId_quiet PySem.F.plain_set_new _,codeAny_builtin PySem.F.entry_set_new ?_⟩));rw[Around.under_plainId PySem.F.plain_set_new _];unfold Builtin.«set.__new__» Builtin.Frozenset.newClass;have hsub:=sub_set_self;obtain⟨hp,g,d,tk,os⟩:=s;dsimp only
 wp_walk
 refine wpAny_askSetting (jc ?_);dsimp only;simp only[newObj];refine jb (wpAny_alloc (jc ?_));exact jc h
theorem TI.fresh(L:Bool):TI L (SetTable.fresh 0 0 L):=⟨rfl,fun Z=>⟨rfl,List.Pairwise.nil⟩⟩
theorem cB.fresh{h:Heap}{a:Addr}{L:Bool}(ha:h.get? a=some { cls:=.type "set", dict:=none,data:=.set #[] 0 (.fresh 0 0 L) }):cB knd L h a (fun k=>decide (k∈be (fun _:Nat=>k) 0)) 0 :=
 ⟨_,#[],0,_,ha,⟨rfl,rfl,rfl⟩,rfl,fun e he=>(by simp at he),fun k=>(by simp [be]),(by decide),rfl,rfl,List.Pairwise.nil,TI.fresh L⟩
end
set_option maxHeartbeats 3200000 in
theorem cb6{s s':Shared}(e1:s'.gens=s.gens)(e2:s'.drawn=s.drawn)(e3:s'.os=s.os):s'={ s with heap:=s'.heap,toks:=s'.toks }:=by rw[<- e1,<- e2,<- e3]
theorem a00{l:Addr}{items:Array Value}(val:Nat->K){Q:Value->Shared->Prop}
  (hh:A.handled=none) (hl:s.heap.IsList l items) (hval:∀ i v,items[i]?=some v->knd.is (val i) v=true/\v.scannable=true) (hb:items.size+1<scanBound)
  (h:∀ (h':Heap) (tk:Nat),cB knd (!bC w) h' s.heap.objs.size (fun k'=>decide (k'∈be val items.size)) (be val items.size).length ->
   (∀ b o,b<s.heap.objs.size->s.heap.get? b=some o->h'.get? b=some o)->Q (.ref s.heap.objs.size) { s with heap:=h',toks:=tk }) :
  wpAny (model prog w) A (call (.type "set") [.ref l]) Q E s:=by
 obtain⟨odict,nl,oslots,hol⟩:b5 fun od nl os=>s.heap.get? l=some { cls:=.type "list", dict:=od,data:=.seq items nl,slots:=os }:=by
  obtain⟨ol,hol,hcl,nl,hdl⟩:=hl;exact⟨ol.dict,nl,ol.slots,by rw[hol,<- hcl,<- hdl]⟩
 obtain⟨c,tl,hmro⟩:=PySem.F.called_set.mro;have hmade:=PySem.F.called_set.made;have hsub:=PySem.F.called_set.sub;refine wpAny_call (codeAny_of_tree ?_)
 show wpAny _ _ (callAny (.type "set") _) _ _ _
 refine jc ⟨Code.quiet_builtin _ (by decide +kernel),codeAny_builtin PySem.F.entry_type_call ?_⟩;rw[Around.under_plain (weight_type_call_type "set" [.ref l] []) rfl];have h1:=PySem.F.called_set.notType;have h2:=PySem.F.called_set.canCreate;have hct:=PySem.F.typeCall_set_1 (.ref l)
 repeat (any_goals (first|assumption|wp_step))
 refine codeAny_mono (bo2 (.ref l) (E:=E) (QB:=fun obj sB=>obj=.ref s.heap.objs.size/\sB={ s with heap:=s.heap.push { cls:=.type "set", dict:=none,data:=.set #[] 0 (.fresh 0 0 (!bC w)) } }) ⟨rfl,rfl⟩) fun r sB hr=>?_
 cases r with
 | error e=>exact hr
 | ok fl =>
  cases fl with
  | ret obj =>
   obtain⟨rfl,rfl⟩:=hr;have hS:(s.heap.push { cls:=.type "set", dict:=none,data:=.set #[] 0 (.fresh 0 0 (!bC w)) }).get? s.heap.objs.size=some { cls:=.type "set", dict:=none,data:=.set #[] 0 (.fresh 0 0 (!bC w)) }:=jq _ rfl;have hT:Shared.TypeIs { s with heap:=s.heap.push { cls:=.type "set", dict:=none,data:=.set #[] 0 (.fresh 0 0 (!bC w)) } } (.ref s.heap.objs.size) "set" := ⟨_,hS,rfl⟩;have hli:=PySem.F.called_set.init.lookup;have hbi:=PySem.F.called_set.init.bind (.ref s.heap.objs.size)
   repeat (any_goals (first|assumption|wp_step))
   refine codeAny_mono (codeAny_call_builtin (R:=wants (fun r sC=>r=.none/\av fun h' tk=>bB (sC={ s with heap:=h',toks:=tk }) (cB knd (!bC w) h' s.heap.objs.size (fun k'=>decide (k'∈be val items.size)) (be val items.size).length) (∀ b o,b<s.heap.objs.size->s.heap.get? b=some o->h'.get? b=some o)) E) PySem.F.called_set.init.plain PySem.F.entry_set_init (check_set_init_1 hT ?_)) fun rC sC hrC=>?_
   ·have hol':(s.heap.push { cls:=.type "set", dict:=none,data:=.set #[] 0 (.fresh 0 0 (!bC w)) }).get? l=some { cls:=.type "list", dict:=odict,data:=.seq items nl,slots:=oslots }:=jp _ hol;have hsls:=PySem.F.sub_list_set;have hslf:=PySem.F.sub_list_frozenset;have hne:(Value.type "list" == Value.type "dict")=false:=by decide
    have hl1:(s.heap.push { cls:=.type "set", dict:=none,data:=.set #[] 0 (.fresh 0 0 (!bC w)) }).IsList l items:=⟨_,hol',rfl,nl,rfl⟩;unfold Builtin.«set.__init__» noKeywords Builtin.Frozenset.updateFrom;generalize hPI:pyIter=PI
    wp_walk
    subst hPI;refine wpAny_pyIter_list hl1 ?_;refine jb (wpAny_runValue ?_);have hlS:l<s.heap.objs.size:=jw hol;have hh3:A.in1.in1.in1.handled=none:=by simp [hh]
    have hneI:l≠(s.heap.push { cls:=.type "set", dict:=none,data:=.set #[] 0 (.fresh 0 0 (!bC w)) }).objs.size:=by
     rw[jH]; exact jv (Nat.lt_succ_of_lt hlS)
    have hSf:s.heap.objs.size∉[(s.heap.push { cls:=.type "set", dict:=none,data:=.set #[] 0 (.fresh 0 0 (!bC w)) }).objs.size,l]:=by
     rw[jH]; simp only[jf,je,jm,or_false,not_or];exact⟨jv (Nat.lt_succ_self _),jJ hlS⟩
    refine a23 (L:=!bC w) ((Walks.list hh3 _ l hneI items).toS) s.heap.objs.size
     hSf val hval hb (items.size-0) 0 _ (ck3) (Nat.zero_le _)
     ⟨⟨_,jq _ rfl,rfl,rfl⟩,(hl1.push _)⟩ ?hS0 ?hR
    case hS0 =>
     have hget:((s.heap.push { cls:=.type "set", dict:=none,data:=.set #[] 0 (.fresh 0 0 (!bC w)) }).push { cls:=.type "list_iterator", data:=.fields #[.ref l,.int 0 0] }).get? s.heap.objs.size
       = some { cls:=.type "set", dict:=none,data:=.set #[] 0 (.fresh 0 0 (!bC w)) }:=jp _ hS
     exact cB.congr (cB.fresh hget) (fun k=>by simp [be]) rfl
    case hR =>
     intro s' hm hS'
     show wpAny _ _ _ _ _ _
     refine jc ?_
     show wpAny _ _ (ret Value.none) _ _ _
     refine jc ⟨rfl,s'.heap,s'.toks,cb6 hm.gens hm.drawn hm.os,hS',fun b o hb e=>?_⟩;have hb1:b≠s.heap.objs.size:=jv hb;have hb2:b≠(s.heap.push { cls:=.type "set", dict:=none,data:=.set #[] 0 (.fresh 0 0 (!bC w)) }).objs.size:=by
      rw[jH]; exact jv (Nat.lt_succ_of_lt hb)
     exact hm.heap b o (by simp only[jf,je,jm,or_false,not_or]; exact⟨hb1,hb2⟩) (jp _ (jp _ e))
   ·cases rC with
    | error e=>exact hrC
    | ok flC =>
     cases flC with
     | ret r =>
      obtain⟨rfl,h',tk,rfl,hS',hk'⟩:=hrC
      repeat (any_goals (first|assumption|wp_step))
      exact h _ _ hS' hk'
     | _=>exact hrC.elim
  | _=>exact hr.elim
end
mutual
theorem aa4:Slot "set_iterator" "__next__" "set_iterator.__next__" :=
 .of (owner := "set_iterator") (n := "__next__") (by rw[typeLookup_type,builtinLookup_eq_fast]; kernel_rfl) (by decide +kernel) (by decide +kernel) (by decide +kernel)
  (by first|exact .inl (by decide +kernel)|exact .inr (by decide +kernel)) (by rw[isSubtype_type]; kernel_rfl)
theorem aq1:entryFor table "set_iterator.__next__" = some Builtin.«set_iterator.__next__»:=entryFor_of_tree (by kernel_rfl)
theorem aw6:entryFor table "set.__iter__" = some Builtin.«frozenset.__iter__» :=
 entryFor_alias (id' := "frozenset.__iter__") (by rw[fastTable_eq_tree]; kernel_rfl) rfl (by decide +kernel) (by rw[fastTable_eq_tree]; kernel_rfl)
theorem a85:Manifest.owners.lookup (String.ofList ['r','o','t','a','r','e','t','i','_','t','e','s'].reverse)=some Manifest.sig_set_iterator:=by kernel_rfl
theorem au2(a:Value):argsOk "set_iterator.__next__" ⟨[a],[]⟩:=by
 unfold argsOk; rw[signature?_of (id := "set_iterator.__next__") (n:=['_','_','t','x','e','n','_','_']) (o:=['r','o','t','a','r','e','t','i','_','t','e','s']) (by kernel_rfl) a85]; kernel_rfl
noncomputable abbrev bv0(first:Value)(i n ep:Nat)(a:Addr):Obj:={ cls:=.type "set_iterator", data:=.fields #[first,.int i 0,.ref a,.int n 0,.int ep 0] }
end
section
variable {prog:Program} {w:World} {A:Around} {E:Value->Shared->Prop} {s:Shared} {I a:Addr} {o:Obj} {es:Array (Int×Value)} {ep:Nat} {t:SetTable}
theorem ab3{first:Value}{i:Nat}{Q:Option Value->Shared->Prop}(hI:s.heap.get? I=some (bv0 first i es.size ep a))(ho:s.heap.get? a=some o)(hd:o.data=.set es ep t)(hf:t.fits es.size=true)
  {k:Sem Fin} (hk:(match (motive:=Value->Sem Fin) first with
   | .int slot _=>do
    match <- setNext a slot.toNat i ep with
    | some (x,next) =>
     setField (.ref I) 0 (rawInt next)
     setField (.ref I) 1 (rawInt (i+1))
     ret x
    | none=>setField (.ref I) 2 .none; raiseNew (<- newExc (.type "StopIteration") [])
   | _=>do
    let some places <- seqItems? first|unsupported "internal:set_iterator"
    match places[i]? with
    | some (.int place _) =>
     let x <- setNextDrawn a place.toNat ep
     setField (.ref I) 1 (rawInt (i+1))
     ret x
    | some _=>unsupported "internal:set_iterator"
    | none=>setField (.ref I) 0 (rawInt 0); setField (.ref I) 2 .none; raiseNew (<- newExc (.type "StopIteration") []))=k)
  (H:wpAny (model prog w) A.in1 k (fun fin s'=>∃ v,fin=.done (.ret v)/\Q (some v) s') (fun e s'=>wpAny (model prog w) A (do if <- isInstance e (.type "StopIteration") then pure (none:Option Value) else throw e) Q E s') s):wpAny (model prog w) A (pyNext (.ref I)) Q E s:=by
 subst hk;have hT:s.TypeIs (.ref I) "set_iterator" := ⟨_,hI,rfl⟩;unfold pyNext;refine jb (wpAny_attempt (wpAny_callSpecial?_slot (name:=Str.ofString "__next__") hT aa4
  (wpAny_call_entry aa4 hT aq1 ?_ (au2 _))))
 unfold Builtin.«set_iterator.__next__» slotArgs;refine jb ?_
 show wpAny _ _ (Pure.pure (Value.ref I,([]:List Value))) _ _ _
 refine jc ?_;refine jb (jb (wpAny_load hI (jc ?_)));dsimp only;refine jb (wpAny_setEntries_of ho hd hf ?_);rw[if_neg (by simp)]
 cases first<;>exact jd H (fun Z Z zpa=>by obtain⟨v,e,q⟩:=zpa; exact⟨v,e,jc q⟩) fun Z Z q=>q
end
section
variable {prog:Program} {w:World} {A:Around} {E:Value->Shared->Prop} {s:Shared} {I a:Addr} {o:Obj} {es:Array (Int×Value)} {ep:Nat} {t:SetTable}
mutual
theorem aa1{Q:Bool->Shared->Prop}(h:Q (bC w) s):wpAny (model prog w) A setsByText Q E s:=by unfold setsByText; exact jb (wpAny_askSetting (jc h))
theorem ak6{Q:Option Value->Shared->Prop}(hh:A.handled=none)(pre:List (Nat×Value)){vs:Array Value}(hI:s.heap.get? I=some { cls:=.type "set_iterator", data:=.fields vs }) (h2:2<vs.size)
  (hQ:∀ h',(∀ b o,b≠I->s.heap.get? b=some o->h'.get? b=some o)->Q none { s with heap:=h' }) :
  wpAny (model prog w) A.in1 (do setField (.ref I) 2 .none; raiseNew (<- newExc (.type "StopIteration") [])) (fun(fin:Fin) s'=>∃ v,fin=.done (.ret v)/\Q (some v) s') (fun e s'=>wpAny (model prog w) A (do if <- isInstance e (.type "StopIteration") then pure (none:Option Value) else throw e) Q E s') s:=by
 refine jb (wpAny_setField hI rfl h2 ?_);exact a28 hh fun h' x k t=>jb (wpAny_isInstance (T := "StopIteration") (b:=true) t isSubtype_stop (jc (hQ _ fun b o hb e=>k b o ((Heap.SameBut.update s.heap I _).extBut b o hb e))))
structure eZ(I a:Addr)(o:Obj)(n ep:Nat)(X:Heap->Prop)(fst:Nat->Value)(i:Nat)(h:Heap):Prop where
 it:h.get? I=some (bv0 (fst i) i n ep a)
 set:h.get? a=some o
 x:X h
structure au6(prog:Program)(w:World)(A:Around)(I a:Addr)(o:Obj)(n ep:Nat)(X:Heap->Prop)(ts:List Addr)(fst:Nat->Value)(ord:List Value):Prop where
 len:ord.length=n
 frame:∀ h h',X h->(∀ b∈ts,∀ o,h.get? b=some o->h'.get? b=some o)->X h'
 item:∀ i (s:Shared) (Q:Option Value->Shared->Prop) (E:Value->Shared->Prop) v,ord[i]?=some v->eZ I a o n ep X fst i s.heap ->
  (∀ h',eZ I a o n ep X fst (i+1) h'->(∀ b o,b≠I->s.heap.get? b=some o->h'.get? b=some o)->Q (some v) { s with heap:=h' })->wpAny (model prog w) A (pyNext (.ref I)) Q E s
 done:∀ (s:Shared) (Q:Option Value->Shared->Prop) (E:Value->Shared->Prop),eZ I a o n ep X fst n s.heap ->
  (∀ h',(∀ b o,b≠I->s.heap.get? b=some o->h'.get? b=some o)->Q none { s with heap:=h' })->wpAny (model prog w) A (pyNext (.ref I)) Q E s
theorem cb7{x y:Value}{vs:Array Value}{v:Value}{Q:Value->Shared->Prop}{E':Value->Shared->Prop}(hI:s.heap.get? I=some { cls:=.type "set_iterator", data:=.fields vs }) (hz:1<vs.size)
  (q:∀ h',h'.get? I=some { cls:=.type "set_iterator", data:=.fields ((vs.setIfInBounds 0 x).setIfInBounds 1 y) }->(∀ b o,b≠I->s.heap.get? b=some o->h'.get? b=some o)->Q v { s with heap:=h' }) :
  wpAny (model prog w) A (do setField (.ref I) 0 x; setField (.ref I) 1 y; ret v) (fun(fin:Fin) s'=>∃ v,fin=.done (.ret v)/\Q v s') E' s:=by
 refine jb (wpAny_setField hI rfl (ck2 hz) ?_);have h1:=Heap.get?_update_self (Obj.mapFields fun vs=>vs.setIfInBounds 0 x) hI rfl;refine jb (wpAny_setField h1 rfl (by simp; lia) ?_);have h2:=Heap.get?_update_self (Obj.mapFields fun vs=>vs.setIfInBounds 1 y) h1 rfl;exact jc ⟨_,rfl,q _ h2 fun b o hb e=>(Heap.get?_update_other _ _ (Ne.symm hb)).trans ((Heap.get?_update_other _ _ (Ne.symm hb)).trans e)⟩
theorem dj8{y:Value}{vs:Array Value}{v:Value}{Q:Value->Shared->Prop}{E':Value->Shared->Prop}(hI:s.heap.get? I=some { cls:=.type "set_iterator", data:=.fields vs }) (hz:1<vs.size)
  (q:∀ h',h'.get? I=some { cls:=.type "set_iterator", data:=.fields (vs.setIfInBounds 1 y) }->(∀ b o,b≠I->s.heap.get? b=some o->h'.get? b=some o)->Q v { s with heap:=h' }) :
  wpAny (model prog w) A (do setField (.ref I) 1 y; ret v) (fun(fin:Fin) s'=>∃ v,fin=.done (.ret v)/\Q v s') E' s:=by
 refine jb (wpAny_setField hI rfl (by lia) ?_);have h1:=Heap.get?_update_self (Obj.mapFields fun vs=>vs.setIfInBounds 1 y) hI rfl;exact jc ⟨_,rfl,q _ h1 fun b o hb e=>(Heap.get?_update_other _ _ (Ne.symm hb)).trans e⟩
end
end
section
variable {prog:Program} {w:World} {A:Around} {E:Value->Shared->Prop} {s:Shared} {I a:Addr} {o:Obj} {es:Array (Int×Value)} {ep:Nat} {t:SetTable}
mutual
noncomputable def ar4(t:SetTable):Nat->Nat
 | 0=>0
 | i+1=>t.place.getD i 0+1
theorem ak5{t:SetTable}(hr:t.place.size<=1\/dh t.place):∀ {i:Nat},i<=t.place.size->SetTable.below t.place (ar4 t i)=i:=by
 have r:dh t.place:=hr.elim (fun h=>by
  have h:t.place.toList.length<=1:=h;unfold dh
  cases e:t.place.toList with
  | nil=>exact .nil
  | cons x r =>
   rw[e] at h;rw[List.eq_nil_of_length_eq_zero (Nat.le_zero.mp (Nat.le_of_succ_le_succ h))];exact List.pairwise_singleton _ _) id
 intro i hi
 cases i with
 | zero=>exact bn9 r
 | succ i=>exact bo0 r hi
theorem bb4(hh:A.handled=none)(hne:a≠I)(nt:bC w=false)(hd:o.data=.set es ep t)(hf:t.fits es.size=true)(hled:t.led=true)(hnd:(!t.plain&&decide (es.size>1))=false)(hr:t.place.size<=1\/dh t.place) :
  au6 prog w A I a o es.size ep (fun Z=>True) [] (fun i=>.int (ar4 t i) 0) (es.toList.map (·.2)) where
 len:=by simp
 frame:=fun Z Z Z Z=>trivial
 item:=fun i s Q E v hv st hQ=>by
  have hp:t.place.size=es.size:=by simp only[SetTable.fits,jC,beq_iff_eq] at hf; exact hf.1
  have hi:i<es.size:=by
   have:=(List.getElem?_eq_some_iff.mp hv).1
   simpa using this
  refine ab3 st.it st.set hd hf rfl ?_
  show wpAny _ _ (setNext a (ar4 t i:Int).toNat i ep >>= _) _ _ s
  refine jb ?_;unfold setNext;refine jb (wpAny_setState_of st.set hd hf ?_);dsimp only;refine jb (aa1 ?_);rw[if_neg (by simp [nt])]
  split
  ·rename_i hx
   exact absurd (show(!t.plain&&decide (es.size>1))=true from hx) (by simp [hnd])
  refine jb ?_
  show wpAny _ _ (if(!t.led&&!es.isEmpty)=true then _ else _) _ _ s
  rw[hled];refine jc ?_;rw[Int.toNat_natCast,ak5 hr (ck1 hp hi)];have e1:es[i]?=some es[i]:=by simp [hi]
  have e2:t.place[i]?=some (t.place.getD i 0):=by simp [Array.getD,hp,hi]
  rw[e1,e2];have ev:v=es[i].2:=by
   rw[List.getElem?_map,Array.getElem?_toList,e1] at hv
   simpa using hv.symm
  subst ev;exact jc (cb7 st.it (by show 1<5; decide) fun h' e k=>hQ h' ⟨e,k a o hne st.set,trivial⟩ k)
 done:=fun s Q E st hQ=>by
  have hp:t.place.size=es.size:=by simp only[SetTable.fits,jC,beq_iff_eq] at hf; exact hf.1
  refine ab3 st.it st.set hd hf rfl ?_
  show wpAny _ _ (setNext a (ar4 t es.size:Int).toNat es.size ep >>= _) _ _ s
  refine jb ?_;unfold setNext;refine jb (wpAny_setState_of st.set hd hf ?_);dsimp only;refine jb (aa1 ?_);rw[if_neg (by simp [nt])]
  split
  ·rename_i hx
   exact absurd (show(!t.plain&&decide (es.size>1))=true from hx) (by simp [hnd])
  refine jb ?_
  show wpAny _ _ (if(!t.led&&!es.isEmpty)=true then _ else _) _ _ s
  rw[hled];refine jc ?_;rw[Int.toNat_natCast,ak5 hr (b40 hp)];have e1:es[es.size]?=none:=by simp
  rw[e1];exact jc (ak6 hh [] st.it (by show 2<5; decide) hQ)
noncomputable def a26(w:World)(a:Addr)(ep:Nat)(es:Array (Int×Value)):List Value:=(pickOrder (w.params.setOrder a ep) es).toList.map (·.2)
theorem at1{α:Type}(l:List α):∀ (i:Nat) (h:i<l.length),(l[i]::l.eraseIdx i).Perm l:=by
 induction l with
 | nil=>exact fun i h=>absurd h (Nat.not_lt_zero _)
 | cons x r ih =>
  intro i h
  cases i with
  | zero=>exact .refl _
  | succ i=>exact(List.Perm.swap _ _ _).trans (.cons _ (ih i (Nat.lt_of_succ_lt_succ h)))
theorem bx8{α:Type}(next:Nat->Nat)(fuel:Nat):∀ (k:Nat) (left:List α) (out:Array α),left.length=fuel->(pickOrder.go next fuel k left out).toList.Perm (out.toList++left):=by
 induction fuel with
 | zero =>
  intro k left out e;rw[List.eq_nil_of_length_eq_zero e,jD];exact .refl _
 | succ fuel ih =>
  intro k left out e;have hl:0<left.length:=b25 e;have hm:next k % left.length<left.length:=Nat.mod_lt _ hl;have e1:pickOrder.go next (fuel+1) k left out=pickOrder.go next fuel (k+1) (left.eraseIdx (next k % left.length)) (out.push left[next k % left.length]):=by
   show(match left[next k % left.length]? with|some x=>_|none=>_)=_
   rw[jj hm]
  rw[e1];refine(ih (k+1) _ _ (by rw[List.length_eraseIdx_of_lt hm]; exact b22 e)).trans ?_;rw[Array.toList_push,List.append_assoc];refine List.Perm.append_left _ ?_;exact at1 left _ hm
theorem al1{α:Type}(next:Nat->Nat)(xs:Array α):(pickOrder next xs).toList.Perm xs.toList:=by
 have:=bx8 next xs.size 0 xs.toList #[] (by simp)
 simpa [pickOrder] using this
theorem bg2(hh:A.handled=none)(hne:a≠I)(nt:bC w=true)(hd:o.data=.set es ep t)(hf:t.fits es.size=true) :
  au6 prog w A I a o es.size ep (fun Z=>True) [] (fun i=>.int 0 0) (a26 w a ep es) where
 len:=by rw[a26,List.length_map,(al1 _ es).length_eq]; simp
 frame:=fun Z Z Z Z=>trivial
 item:=fun i s Q E v hv st hQ=>by
  refine ab3 st.it st.set hd hf rfl ?_
  show wpAny _ _ (setNext a (0:Int).toNat i ep >>= _) _ _ s
  refine jb ?_;unfold setNext;refine jb (wpAny_setState_of st.set hd hf ?_);dsimp only;refine jb (aa1 ?_);rw[if_pos nt];rw[if_neg (by simp)];refine jb ?_;unfold setWalk;refine jb (wpAny_setState_of st.set hd hf ?_);dsimp only;refine jb (aa1 ?_);rw[if_pos nt];refine jb (wpAny_askSetting (jc ?_));refine jc ?_;dsimp only;rw[a26,List.getElem?_map,Array.getElem?_toList] at hv;obtain⟨e,he,rfl⟩:=Option.map_eq_some_iff.mp hv;rw[show(model prog w).w.params=w.params from rfl,he];exact cb7 st.it (by show 1<5; decide) fun h' e k=>hQ h' ⟨e,k a o hne st.set,trivial⟩ k
 done:=fun s Q E st hQ=>by
  refine ab3 st.it st.set hd hf rfl ?_
  show wpAny _ _ (setNext a (0:Int).toNat es.size ep >>= _) _ _ s
  refine jb ?_;unfold setNext;refine jb (wpAny_setState_of st.set hd hf ?_);dsimp only;refine jb (aa1 ?_);rw[if_pos nt];rw[if_neg (by simp)];refine jb ?_;unfold setWalk;refine jb (wpAny_setState_of st.set hd hf ?_);dsimp only;refine jb (aa1 ?_);rw[if_pos nt];refine jb (wpAny_askSetting (jc ?_));refine jc ?_;dsimp only;have e0:(pickOrder (w.params.setOrder a ep) es)[es.size]?=none:=by
   have:=(al1 (w.params.setOrder a ep) es).length_eq;simp only[Array.length_toList] at this;rw[<- Array.getElem?_toList,List.getElem?_eq_none (by simp [this])]
  rw[show(model prog w).w.params=w.params from rfl,e0];exact ak6 hh [] st.it (by show 2<5; decide) hQ
noncomputable def ae0(es:Array (Int×Value))(ps:List Nat):List Value:=ps.filterMap fun p=>es[p]?.map fun(e:Int×Value)=>e.2
theorem bj4{es:Array (Int×Value)}{ps:List Nat}(h:∀ p∈ps,p<es.size):∀ i:Nat,(ae0 es ps)[i]?=ps[i]?.bind fun p=>es[p]?.map fun(e:Int×Value)=>e.2:=by
 induction ps with
 | nil=>intro i; simp [ae0]
 | cons p r ih =>
  intro i;have hp:p<es.size:=h p (.head _);have:ae0 es (p::r)=es[p].2::ae0 es r:=by simp [ae0,hp]
  rw[this]
  cases i with
  | zero=>simp [hp]
  | succ i=>simpa using ih (fun q hq=>h q (.tail _ hq)) i
theorem bb5{T:Addr}{k:Nat}{ps:List Nat}(hT:T≠I)(hps:∀ p∈ps,p<es.size)(hlen:ps.length=es.size)(hh:A.handled=none)(hne:a≠I)(hd:o.data=.set es ep t)(hf:t.fits es.size=true) :
  au6 prog w A I a o es.size ep (fun h=>h.get? T=some { cls:=.type "tuple", data:=.seq (ps.map fun(p:Nat)=>rawInt p).toArray k }) [T] (fun i=>.ref T) (ae0 es ps) where
 len:=by
  have:∀ qs:List Nat,(∀ p∈qs,p<es.size)->(ae0 es qs).length=qs.length:=by
   intro qs
   induction qs with
   | nil=>intro Z; rfl
   | cons p r ih =>
    intro h;have hp:=h p (.head _);have:ae0 es (p::r)=es[p].2::ae0 es r:=by simp [ae0,hp]
    rw[this,jA,jA,ih fun q hq=>h q (.tail _ hq)]
  rw[this ps hps,hlen]
 frame:=fun h h' x k=>k _ (.head _) _ x
 item:=fun i s Q E v hv st hQ=>by
  refine ab3 st.it st.set hd hf rfl ?_;rw[bj4 hps] at hv;obtain⟨p,hp,hv⟩:=Option.bind_eq_some_iff.mp hv;obtain⟨e,he,rfl⟩:=Option.map_eq_some_iff.mp hv
  show wpAny _ _ (seqItems? (.ref T) >>= _) _ _ s
  refine jb (wpAny_seqItems st.x rfl ?_);have e1:(ps.map fun(p:Nat)=>rawInt p).toArray[i]?=some (rawInt p):=by simp [hp]
  dsimp only;rw[e1]
  show wpAny _ _ (setNextDrawn a (p:Int).toNat ep >>= _) _ _ s
  refine jb ?_;unfold setNextDrawn;refine jb (wpAny_setState_of st.set hd hf ?_);dsimp only;rw[if_neg (by simp),Int.toNat_natCast,he];exact jc (dj8 st.it (by show 1<5; decide) fun h' e k=>hQ h' ⟨e,k a o hne st.set,k _ _ hT st.x⟩ k)
 done:=fun s Q E st hQ=>by
  refine ab3 st.it st.set hd hf rfl ?_
  show wpAny _ _ (seqItems? (.ref T) >>= _) _ _ s
  refine jb (wpAny_seqItems st.x rfl ?_);have e1:(ps.map fun(p:Nat)=>rawInt p).toArray[es.size]?=none:=by simp [hlen]
  dsimp only;rw[e1];dsimp only;refine jb (wpAny_setField st.it rfl (by show 0<5; decide) ?_);have h1:=Heap.get?_update_self (Obj.mapFields fun vs=>vs.setIfInBounds 0 (rawInt 0)) st.it rfl;refine ak6 (s:={ s with heap:=_ }) hh [] h1 (by simp) fun h' k=>hQ h' fun b o hb e=>k b o hb ((Heap.get?_update_other _ _ (Ne.symm hb)).trans e)
end
end
section
variable {prog:Program} {w:World} {A:Around} {E:Value->Shared->Prop} {s:Shared} {I a:Addr} {o:Obj} {es:Array (Int×Value)} {ep:Nat} {t:SetTable}
mutual
theorem bf5{src:Source}{n:Nat}{Q:Nat->Shared->Prop}(h0:0<n)(h:∀ i,i<n->Q i { s with drawn:=s.drawn.bump src }):wpAny (model prog w) A (choose src n) Q E s:=fun Γ p Z=>by
 unfold choose;rw[Sem.wp_choose];exact⟨jJ h0,h _ (Nat.mod_lt _ h0)⟩
theorem br3{α:Type}(n:Nat):∀ (xs:List α) (s:Shared) {Q:List α->Shared->Prop},xs.length=n->(∀ ys d,ys.Perm xs->Q ys { s with drawn:=d })->wpAny (model prog w) A (drawOrder n xs) Q E s:=by
 induction n with
 | zero =>
  intro xs s Q e h;obtain rfl:xs=[]:=List.eq_nil_of_length_eq_zero e;exact jc (h [] s.drawn (.refl _))
 | succ n ih =>
  intro xs s Q e h
  cases xs with
  | nil=>cases e
  | cons x r =>
  show wpAny _ _ (choose .order (x::r).length >>= _) _ _ s
  refine jb (bf5 (by simp) fun i hi=>?_);rw[jj hi];refine jb (ih _ _ (by rw[List.length_eraseIdx_of_lt hi]; exact b22 e) fun ys d hp=>?_);exact jc (h _ d ((List.Perm.cons _ hp).trans (at1 _ i hi)))
theorem bo3{L:Bool}(hL:L=!bC w){A':Around}(hh:A'.handled=none)(ho:s.heap.get? a=some o)(hc:o.ExactSet)(hd:o.data=.set es ep t)(hf:t.fits es.size=true)(hsz:es.size<=1000)(hT:TI L t){Q:Value->Shared->Prop}
  (hQ:∀ I h' d X ts fst ord,au6 prog w A' I a o es.size ep X ts fst ord->eZ I a o es.size ep X fst 0 h'->ord.Perm (es.toList.map (·.2))->s.heap.objs.size<=I->(∀ b∈ts,s.heap.objs.size<=b/\b<I)->(∀ b o,s.heap.get? b=some o->h'.get? b=some o)->h'.objs.size=I+1->Q (.ref I) { s with heap:=h',drawn:=d }) :
  wpAny (model prog w) A (pyIter (.ref a)) Q E s:=by
 have hT':s.TypeIs (.ref a) "set" := ⟨o,ho,hc.1⟩;have hp:t.place.size=es.size:=by simp only[SetTable.fits,jC,beq_iff_eq] at hf; exact hf.1
 refine wpAny_pyIter_slot hT' PySem.F.slot_set_iter (wpAny_call_entry PySem.F.slot_set_iter hT' aw6 ?_ (PySem.F.args_set_iter_1 _));unfold Builtin.«frozenset.__iter__» Builtin.Frozenset.slot0 slotArgs;simp only[List.isEmpty_nil,Bool.not_true,Bool.false_eq_true,↓reduceIte,bind_assoc,jO,bne_self_eq_false];unfold Builtin.Frozenset.addrOf Builtin.Frozenset.sizeOf;refine jb (jc ?_)
 try dsimp only
 refine jb (jc ?_);refine jb (jb (wpAny_setEntries_of ho hd hf (jc ?_)));refine jb ?_;unfold setDrawn;refine jb (wpAny_setState_of ho hd hf ?_);dsimp only;refine jb (aa1 (jc ?_))
 split
 ·refine jb (br3 es.size (List.range es.size) s List.length_range fun ps d hps=>?_);have hpl:ps.length=es.size:=by rw[hps.length_eq,List.length_range]
  refine jb (wpAny_newTuple ?_ (by rw[List.length_map,hpl,sizeLine_eq]; exact b21 hsz));dsimp only;have ho1:=jp { cls:=.type "tuple", data:=.seq (ps.map fun(i:Nat)=>rawInt i).toArray } ho;refine jb (wpAny_setEpoch_of ho1 hd hf ?_);refine jb (wpAny_newObj_type (jc ⟨_,rfl, "set_iterator", _,⟨_,jq _ rfl,rfl⟩,aa4.lookup,?_⟩));have hne:a≠(s.heap.push { cls:=.type "tuple", data:=.seq (ps.map fun(i:Nat)=>rawInt i).toArray }).objs.size:=jv (jw ho1);have hTI:s.heap.objs.size≠(s.heap.push { cls:=.type "tuple", data:=.seq (ps.map fun(i:Nat)=>rawInt i).toArray }).objs.size:=by rw[jH]; exact jv (Nat.lt_succ_self _)
  have hlt:∀ p∈ps,p<es.size:=fun p hp'=>List.mem_range.mp (hps.mem_iff.mp hp');refine hQ _ _ _ _ _ _ _ (bb5 (k:=0) hTI hlt hpl hh hne hd hf) ⟨jq _ rfl,jp _ ho1,jp _ (jq _ rfl)⟩ ?_ (by rw[jH]; exact Nat.le_succ _) (fun b hb=>?_) (fun b o e=>jp _ (jp _ e)) (jH _ _)
  ·have:=hps.filterMap fun p=>es[p]?.map fun(e:Int×Value)=>e.2;refine this.trans ?_;rw[<- List.map_filterMap,filterMap_getElem?_range]
  ·rw[je.mp hb,jH];exact⟨Nat.le_refl _,Nat.lt_succ_self _⟩
 ·rename_i hx
  have hx':(!bC w&&(!t.plain&&decide (es.size>1)))=false:=by
   have:¬ (!bC w&&(!t.plain&&decide (es.size>1)))=true:=hx
   simpa using this
  refine jb (jc ?_);refine jb (wpAny_setEpoch_of ho hd hf ?_);refine jb (wpAny_newObj_type (jc ⟨_,rfl, "set_iterator", _,⟨_,jq _ rfl,rfl⟩,aa4.lookup,?_⟩));have hne:a≠s.heap.objs.size:=jv (jw ho)
  cases hb:bC w with
  | true =>
   exact hQ _ _ _ _ _ _ _ (bg2 hh hne hb hd hf) ⟨jq _ rfl,jp _ ho,trivial⟩ ((al1 _ es).map _) (Nat.le_refl _) (fun b hb=>absurd hb jm) (fun b o e=>jp _ e) (jH _ _)
  | false =>
   rw[hb] at hx' hL;have hx2:(!t.plain&&decide (es.size>1))=false:=by simpa using hx'
   refine hQ _ _ _ _ _ _ _ (bb4 hh hne hb hd hf (hT.led.trans hL) hx2 ?_) ⟨jq _ rfl,jp _ ho,trivial⟩ (.refl _) (Nat.le_refl _) (fun b hb=>absurd hb jm) (fun b o e=>jp _ e) (jH _ _)
   cases hpl:t.plain with
   | true=>exact .inr (hT.up hpl).2
   | false=>rw[hpl] at hx2; simp at hx2; exact .inl (ck0 hp hx2)
theorem bz5{R:Result->Shared->Prop}{n:Nat}{X:Heap->Prop}{ts:List Addr}{fst:Nat->Value}{ord:List Value}(W:au6 prog w A.in1 I a o n ep X ts fst ord)(hn:n<=1000)(D:Addr)(hDI:D≠I)(hDa:D≠a)(hDt:D∉ts)(res:Value) :
  ∀ (k i:Nat) (s:Shared) (c:Nat),n-i=k->i<=n->eZ I a o n ep X fst i s.heap->s.heap.get? D=some { cls:=.type "list", dict:=none,data:=.seq (ord.take i).toArray c,slots:=#[] } ->
   (∀ h' c',h'.get? D=some { cls:=.type "list", dict:=none,data:=.seq ord.toArray c',slots:=#[] }->(∀ b o,b≠I->b≠D->s.heap.get? b=some o->h'.get? b=some o)->R (.ok (.ret res)) { s with heap:=h' }) ->
   codeAny (model prog w) A (.builtin "list.extend.loop" ⟨[.ref D,.ref I,res],[]⟩) R s:=by
 intro k
 induction k with
 | zero =>
  intro i s c hk hi st hD hR;have hin:i=n:=by exact b24 hk hi
  subst hin;refine codeAny_builtin PySem.F.entry_extend_loop ?_;rw[Around.under_plainId PySem.F.plain_extend_loop _]
  show wpAny _ A.in1 (pyNext (.ref I) >>= _) _ _ s
  refine jb (W.done s _ _ st fun h' hk'=>?_);rw[List.take_of_length_le (by rw[W.len]; exact Nat.le_refl _)] at hD;exact jc (hR h' c (hk' _ _ hDI hD) fun b o h1 Z e=>hk' b o h1 e)
 | succ k ih =>
  intro i s c hk hi st hD hR;have hlt:i<n:=by exact a20 hk
  have hio:i<ord.length:=by rw[W.len]; exact hlt
  refine codeAny_builtin PySem.F.entry_extend_loop ?_;rw[Around.under_plainId PySem.F.plain_extend_loop _]
  show wpAny _ A.in1 (pyNext (.ref I) >>= _) _ _ s
  refine jb (W.item i s _ _ _ (jj hio) st fun h1 st1 hk1=>?_);have hD1:=hk1 _ _ hDI hD
  show wpAny _ A.in1 (updateSeq D (·.push ord[i]) >>= _) _ _ _
  have hsz:(ord.take i).toArray.size<=1000:=by simp; exact cj9 hn hlt
  refine jb (wpAny_updateSeq hD1 rfl (jc ⟨plainId_quiet PySem.F.plain_extend_loop _,ih (i+1) _ (c+1) (b23 hk) hlt ?_ ?_ fun h' c' hD' hk'=>?_⟩) (by rw[sizeLine_eq]; exact b21 hsz) (by show((ord.take i).toArray.push ord[i]).size<=sizeLine+1; rw[Array.size_push,sizeLine_eq]; exact cj8 hsz))
  ·refine⟨(Heap.get?_update_other _ _ (fun e=>hDI e)).trans st1.it,(Heap.get?_update_other _ _ (fun e=>hDa e)).trans st1.set,W.frame _ _ st1.x fun b hb o e=>?_⟩;exact(Heap.get?_update_other _ _ (fun q:D=b=>hDt (q▸hb))).trans e
  ·have:=Heap.get?_update_self (Obj.mapSeq (·.push ord[i])) hD1 rfl;rw[List.take_succ_eq_append_getElem hio];have hne:¬ min (i+1) ord.length=min i ord.length:=by exact cj7 hio
   simpa [Obj.mapSeq,hne] using this
  ·exact hR h' c' hD' fun b o h1 h2 e=>hk' b o h1 h2 ((Heap.get?_update_other _ _ (Ne.symm h2)).trans (hk1 b o h1 e))
end
end
section
variable {prog:Program} {w:World} {A:Around} {E:Value->Shared->Prop} {s:Shared} {a:Addr} {o:Obj} {es:Array (Int×Value)} {ep:Nat} {t:SetTable}
theorem ao6{L:Bool}(hL:L=!bC w)(hh:A.handled=none)(ho:s.heap.get? a=some o)(hc:o.ExactSet)(hd:o.data=.set es ep t)(hf:t.fits es.size=true)(hsz:es.size<=1000)(hT:TI L t){Q:List Value->Shared->Prop}
  (hQ:∀ (h':Heap) (d:Drawn) (ord:List Value),ord.Perm (es.toList.map (·.2))->(∀ b o,s.heap.get? b=some o->h'.get? b=some o)->s.heap.objs.size<=h'.objs.size->Q ord { s with heap:=h',drawn:=d }) :
  wpAny (model prog w) A (collect (.ref a)) Q E s:=by
 unfold collect;refine jb (wpAny_runValue (codeAny_builtin PySem.F.entry_proto_collect ?_));rw[Around.under_plainId PySem.F.plain_proto_collect _]
 show wpAny _ A.in1 (newList [] >>= fun l=>again (.builtin "list.__iadd__" ⟨[l,.ref a],[]⟩)) _ _ s
 refine jb (wpAny_newObj_type ?_);refine jc ⟨plainId_quiet PySem.F.plain_list_iadd _,codeAny_builtin PySem.F.entry_list_iadd ?_⟩;rw[Around.under_plainId PySem.F.plain_list_iadd _]
 show wpAny _ A.in1 (Builtin.List.listExtendWith (.ref s.heap.objs.size) (.ref a) (.ref s.heap.objs.size)) _ _ _
 unfold Builtin.List.listExtendWith;have ho1:(s.heap.push { cls:=.type "list", data:=.seq ([]:List Value).toArray }).get? a=some o:=jp _ ho;have hlt:a<s.heap.objs.size:=jw ho;refine jb (wpAny_typeOf (T := "set") ⟨o,ho1,hc.1⟩ ?_);have h1:Builtin.List.listSameRef (.ref s.heap.objs.size) (.ref a)=false:=by
  simp only[Builtin.List.listSameRef,beq_eq_false_iff_ne];exact jJ hlt
 have h2:(Value.type "set" == Value.type "list")=false:=by decide
 have h3:(Value.type "set" == Value.type "tuple")=false:=by decide
 rw[if_neg (by rw[h1,h2,h3]; exact Bool.false_ne_true)];refine jb (bo3 (A':=A.in1) hL (show A.handled=none from hh) ho1 hc hd hf hsz hT fun I h' d X ts fst ord W st hp hI hts hk hsz'=>?_);refine jb (wpAny_holding ?_);unfold Builtin.List.listLengthHint;refine jb (wpAny_specialOf (T := "set") ⟨o,st.set,hc.1⟩ PySem.F.slot_set_len.lookup ?_)
 wp_delta
 refine jb (wpAny_isInstance (T := "set") (b:=true) ⟨o,st.set,hc.1⟩ (by rw[isSubtype_type]; kernel_rfl) ?_)
 show wpAny _ A.in1 (typeOf (Value.ref a) >>= _) _ _ _
 refine jb (wpAny_typeOf (T := "set") ⟨o,st.set,hc.1⟩ ?_);refine jc ?_;rw[if_pos (by decide)];have hDI:s.heap.objs.size<I:=by
  have:(s.heap.push { cls:=.type "list", data:=.seq ([]:List Value).toArray }).objs.size<=I:=hI;rw[jH] at this; exact this
 have hDt:s.heap.objs.size∉ts:=fun hm=>by
  have:=(hts _ hm).1;have h':(s.heap.push { cls:=.type "list", data:=.seq ([]:List Value).toArray }).objs.size<=s.heap.objs.size:=this;rw[jH] at h'; exact b26 h'
 have hIt:I∉ts:=fun hm=>Nat.lt_irrefl _ (hts _ hm).2;have hSB:h'.get? s.heap.objs.size=some { cls:=.type "list", data:=.seq ([]:List Value).toArray }:=hk _ _ (jq _ rfl);refine jb (wpAny_rule (jb ?_))
 show wpAny _ A.in1 (updateSeq s.heap.objs.size (·.push .none) >>= fun Z=>updateSeq s.heap.objs.size (·.pop)) _ _ _
 refine jb (wpAny_updateSeq hSB rfl ?_);have hSC:=Heap.get?_update_self (Obj.mapSeq (·.push Value.none)) hSB rfl;refine wpAny_updateSeq hSC rfl ?_;have hSD:=Heap.get?_update_self (Obj.mapSeq (·.pop)) hSC rfl;have oth:∀ b o,b≠s.heap.objs.size->h'.get? b=some o->((h'.update s.heap.objs.size (Obj.mapSeq (·.push Value.none))).update s.heap.objs.size (Obj.mapSeq (·.pop))).get? b=some o :=
  fun b o hb e=>(Heap.get?_update_other _ _ (Ne.symm hb)).trans ((Heap.get?_update_other _ _ (Ne.symm hb)).trans e)
 refine jc ⟨plainId_quiet PySem.F.plain_extend_loop _,bz5 W hsz s.heap.objs.size (jv hDI) (jJ hlt) hDt _ es.size 0 _ _ rfl (Nat.zero_le _)
  ⟨oth _ _ (jJ hDI) st.it,oth _ _ (jv hlt) st.set,W.frame _ _ st.x fun b hb o e=>oth _ _ (fun q=>hDt (q▸hb)) e⟩ hSD fun h2 c' hD hk2=>?_⟩
 show wpAny _ A (load s.heap.objs.size >>= _) _ _ _
 refine jb (wpAny_load hD ?_);refine jc (hQ h2 d ord hp (fun b o e=>?_) ?_)
 ·have hb:b<s.heap.objs.size:=jw e;exact hk2 b o (jv (jK hb hDI)) (jv hb) (oth _ _ (jv hb) (hk _ _ (jp _ e)))
 ·exact jI (jw hD)
end
section
variable {prog:Program} {w:World} {A:Around} {E:Value->Shared->Prop} {s:Shared}
mutual
def a75{K:Type}[DecidableEq K]{prog:Program}{w:World}(knd:PySem.KeyKind prog w K)(L:Bool)(o:Obj)(S:K->Bool)(n:Nat):Prop :=
 b5 fun es ep t=>An8 o.ExactSet (o.data=.set es ep t) (ElemsOf knd es.toList) (∀ k,S k=true↔∃ e∈es.toList,knd.is k e.2=true) (t.fits es.size=true) (es.size=n) (dZ knd es.toList) (TI L t)
theorem cB.obj{K:Type}[DecidableEq K]{knd:PySem.KeyKind prog w K}{L:Bool}{h:Heap}{a:Addr}{S:K->Bool}{n:Nat}(x:cB knd L h a S n):∃ o,h.get? a=some o/\a75 knd L o S n:=by
 obtain⟨o,es,ep,t,e1,e2,e3,e4,e5,Z,e7,e8,e9,e10⟩:=x;exact⟨o,e1,es,ep,t,e2,e3,e4,e5,e7,e8,e9,e10⟩
def al7(v:Value):Int:=@Classical.epsilon Int ⟨0⟩ fun k=>∃ t,v=.int k t
def av4(v:Value):Str:=@Classical.epsilon Str ⟨""⟩ fun k=>∃ t,v=.str k t
theorem ah6{k:Int}{t:Tok}:al7 (.int k t)=k:=by
 obtain⟨u,e⟩:=@Classical.epsilon_spec _ (fun j=>∃ u,Value.int k t=.int j u) ⟨k,t,rfl⟩;exact(Value.int.inj e).1.symm
theorem ag9{k:Str}{t:Tok}:av4 (.str k t)=k:=by
 obtain⟨u,e⟩:=@Classical.epsilon_spec _ (fun j=>∃ u,Value.str k t=.str j u) ⟨k,t,rfl⟩;exact(Value.str.inj e).1.symm
theorem br1{l:List Value}(h:∀ v∈l,av fun k t=>v=.int k t):IntsAre l (l.map al7):=by
 induction l with
 | nil=>exact .nil
 | cons v r ih =>
  obtain⟨k,t,e⟩:=h v (.head _);rw[List.map_cons,e,ah6];exact .cons k t (ih fun u hu=>h u (.tail _ hu))
theorem bn8{l:List Value}(h:∀ v∈l,av fun k t=>v=.str k t):StrsAre l (l.map av4):=by
 induction l with
 | nil=>exact .nil
 | cons v r ih =>
  obtain⟨k,t,e⟩:=h v (.head _);rw[List.map_cons,e,ag9];exact .cons k t (ih fun u hu=>h u (.tail _ hu))
theorem a82{L:Bool}(hL:L=!bC w)(hh:A.handled=none){a:Addr}{o:Obj}{S:Int->Bool}{n:Nat}(ho:s.heap.get? a=some o)(hS:a75 (intKind prog w) L o S n)(hn:n<64){Q:Value->Shared->Prop}
  (hQ:∀ (h':Heap) (d:Drawn) r its xs m,s.heap.objs.size<=r->h'.get? r=some (seqObj "list" its m)->IntsAre its.toList xs->xs.Pairwise (·<·)->(∀ k,k∈xs↔S k=true)->(∀ b o,s.heap.get? b=some o->h'.get? b=some o)->Q (.ref r) { s with heap:=h',drawn:=d }) :
  wpAny (model prog w) A (call (.builtin "sorted") [.ref a]) Q E s:=by
 obtain⟨es,ep,t,hc,hd,hel,hmem,hf,hes,hD,hT⟩:=hS;have sh:∀ e∈es.toList,av fun k t=>e.2=.int k t:=fun e he=>by
  obtain⟨⟨k,hk,Z⟩,Z⟩:=hel e he;obtain⟨t,ht⟩:=Value.isInt_shape hk;exact⟨k,t,ht⟩
 refine Calls.call_function_entry kind_sorted plain_sorted entry_sorted (args_sorted1 _) ?_;unfold Builtin.«sorted»;refine jb (m:=checkCount "sorted" 1 1 _) (jc ?_);refine jb (ao6 hL (by simp [hh]) ho hc hd hf (b20 hn hes) hT fun h1 d ord hp hk hz=>?_);have hol:ord.length=n:=by rw[hp.length_eq,List.length_map,Array.length_toList,hes]
 refine jb (wpAny_newList ?_ (by rw[hol,sizeLine_eq]; exact b19 hn));have hoL:(h1.push (seqObj "list" ord.toArray 0)).get? h1.objs.size=some (seqObj "list" ord.toArray 0):=jq _ rfl;have hI:IntsAre ord (ord.map al7):=br1 fun v hv=>by
  obtain⟨e,he,rfl⟩:=jM.mp (hp.mem_iff.mp hv);exact sh e he
 refine jb (wpAny_holding (wpAny_call_entry slot_list_sort (T := "list") ⟨_,hoL,rfl⟩ entry_list_sort (list_sort_tree (s:={ s with heap:=h1.push (seqObj "list" ord.toArray 0),drawn:=d }) hoL hI (b18 hn hol) fun out ns' a1 a2 a3=>⟨_,rfl,?_⟩) (args_list_sort _)));obtain⟨m,hm⟩:=sortedHeap_at (out:=out) hoL;refine jc ⟨_,rfl,hQ _ d _ out ns' m hz hm a1 ?_ (fun k=>?_) fun b o e=>?_⟩
 ·have nd:(es.toList.map fun e=>al7 e.2).Nodup:=by
   refine List.pairwise_map.mpr (List.Pairwise.imp_of_mem (fun{x y} hx hy hxy q=>?_) hD);obtain⟨k,t,e1⟩:=sh x hx;obtain⟨k',t',e2⟩:=sh y hy;rw[e1,e2,ah6,ah6] at q;subst q;exact hxy k (by rw[e1]; simp [intKind,Value.isInt]) (by rw[e2]; simp [intKind,Value.isInt])
  have p2:ns'.Perm (es.toList.map fun e=>al7 e.2):=a2.trans (by have:=hp.map al7; rw[List.map_map] at this; exact this);have nd':ns'.Nodup:=p2.nodup_iff.mpr nd;exact(List.Pairwise.and a3 nd').imp fun⟨x,y⟩=>by exact cj6 (by assumption)
 ·have p2:ns'.Perm (es.toList.map fun e=>al7 e.2):=a2.trans (by have:=hp.map al7; rw[List.map_map] at this; exact this);rw[p2.mem_iff,hmem,jM]
  constructor
  ·rintro⟨e,he,rfl⟩;obtain⟨k,t,e1⟩:=sh e he;exact⟨e,he,by rw[e1,ah6]; simp [intKind,Value.isInt]⟩
  ·rintro⟨e,he,hi⟩;obtain⟨t,ht⟩:=Value.isInt_shape hi;exact⟨e,he,by rw[ht]; exact ah6⟩
 ·have hb:b<h1.objs.size:=jw (hk b o e);rw[sortedHeap_old (jv hb) (by rw[jH]; exact Nat.lt_succ_of_lt hb)];exact jp _ (hk b o e)
theorem a81{L:Bool}(hL:L=!bC w)(hh:A.handled=none){a:Addr}{o:Obj}{S:Str->Bool}{n:Nat}(ho:s.heap.get? a=some o)(hS:a75 (PySem.strKind prog w) L o S n)(hn:n<64){Q:Value->Shared->Prop}
  (hQ:∀ (h':Heap) (d:Drawn) r its xs m,s.heap.objs.size<=r->h'.get? r=some (seqObj "list" its m)->StrsAre its.toList xs->xs.Nodup->sortedS xs=true->(∀ k,k∈xs↔S k=true)->(∀ b o,s.heap.get? b=some o->h'.get? b=some o)->Q (.ref r) { s with heap:=h',drawn:=d }) :
  wpAny (model prog w) A (call (.builtin "sorted") [.ref a]) Q E s:=by
 obtain⟨es,ep,t,hc,hd,hel,hmem,hf,hes,hD,hT⟩:=hS;have sh:∀ e∈es.toList,av fun k t=>e.2=.str k t:=fun e he=>by
  obtain⟨⟨k,hk,Z⟩,Z⟩:=hel e he;obtain⟨t,ht⟩:=Value.isStrOf_shape hk;exact⟨k,t,ht⟩
 refine Calls.call_function_entry kind_sorted plain_sorted entry_sorted (args_sorted1 _) ?_;unfold Builtin.«sorted»;refine jb (m:=checkCount "sorted" 1 1 _) (jc ?_);refine jb (ao6 hL (by simp [hh]) ho hc hd hf (b20 hn hes) hT fun h1 d ord hp hk hz=>?_);have hol:ord.length=n:=by rw[hp.length_eq,List.length_map,Array.length_toList,hes]
 refine jb (wpAny_newList ?_ (by rw[hol,sizeLine_eq]; exact b19 hn));have hoL:(h1.push (seqObj "list" ord.toArray 0)).get? h1.objs.size=some (seqObj "list" ord.toArray 0):=jq _ rfl;have hI:StrsAre ord (ord.map av4):=bn8 fun v hv=>by
  obtain⟨e,he,rfl⟩:=jM.mp (hp.mem_iff.mp hv);exact sh e he
 refine jb (wpAny_holding (wpAny_call_entry slot_list_sort (T := "list") ⟨_,hoL,rfl⟩ entry_list_sort (list_sort_treeK (s:={ s with heap:=h1.push (seqObj "list" ord.toArray 0),drawn:=d }) strKind_oneLt hoL hI.keysOf (fun vB vC rest e=>keyKind_strs (by rw[<- e]; exact hI)) (b18 hn hol) fun st' a1 a2=>⟨_,rfl,?_⟩) (args_list_sort _)));obtain⟨ns',b1,b2,b3⟩:=sorted_out_str hI a1 a2;obtain⟨m,hm⟩:=sortedHeap_at (out:=(arrOf st').map (·.2)) hoL;have p2:ns'.Perm (es.toList.map fun e=>av4 e.2):=b2.trans (by have:=hp.map av4; rw[List.map_map] at this; exact this);refine jc ⟨_,rfl,hQ _ d _ _ ns' m hz hm b1 ?_ b3 (fun k=>?_) fun b o e=>?_⟩
 ·have nd:(es.toList.map fun e=>av4 e.2).Nodup:=by
   refine List.pairwise_map.mpr (List.Pairwise.imp_of_mem (fun{x y} hx hy hxy q=>?_) hD);obtain⟨k,t,e1⟩:=sh x hx;obtain⟨k',t',e2⟩:=sh y hy;rw[e1,e2,ag9,ag9] at q;subst q;exact hxy k (by rw[e1]; simp [PySem.strKind,Value.isStrOf]) (by rw[e2]; simp [PySem.strKind,Value.isStrOf])
  exact p2.nodup_iff.mpr nd
 ·rw[p2.mem_iff,hmem,jM]
  constructor
  ·rintro⟨e,he,rfl⟩;obtain⟨k,t,e1⟩:=sh e he;exact⟨e,he,by rw[e1,ag9]; simp [PySem.strKind,Value.isStrOf]⟩
  ·rintro⟨e,he,hi⟩;obtain⟨t,ht⟩:=Value.isStrOf_shape hi;exact⟨e,he,by rw[ht]; exact ag9⟩
 ·have hb:b<h1.objs.size:=jw (hk b o e);rw[sortedHeap_old (jv hb) (by rw[jH]; exact Nat.lt_succ_of_lt hb)];exact jp _ (hk b o e)
end
end
theorem bw5{vs:List Value}{xs:List Str}(i:StrsAre vs xs){k:Nat}{v:Value}(h:vs[k]?=some v):av fun x t=>xs[k]?=some x/\v=.str x t:=by
 induction i generalizing k with
 | nil=>cases h
 | cons x t r ih =>
  cases k with
  | zero=>cases h; exact⟨x,t,rfl,rfl⟩
  | succ k=>exact ih (by simpa using h)
section
variable {E:VP} {gs ns:List Str} {pos:Pos} {xs:List Str} {A:Around} {env:Env} {V:Heap} {fx:ac} {l l':ac} {vs:LO} {h:Heap}
mutual
theorem Fs.grow{h':Heap}{r:Addr}{o:Obj}(S:Fs c gs ns env V fx vs l h)(k:∀ b o,h.get? b=some o->h'.get? b=some o)(hr:h'.get? r=some o)(hn:h.objs.size<=r):Fs c gs ns env V fx vs ((r,o)::l) h' :=
 let S':=S.ext k
 {S' with
  own:=af (hr) fun p hp=>S'.own p hp
  ord:=⟨fun q hq=>jv (js (jw (S.own q hq)) hn),S.ord⟩
  ap:=af (S.fresh hn) fun p hp=>S.ap p hp
  off:=fun p hp=>⟨(S.off p hp).1,af (jv (js (jw (S.fix p hp)) hn)) fun q hq=>(S.off p hp).2 q hq⟩ }
abbrev av0(c:Cx)(o:Obj)(xs:List Int)(n:Nat):Prop:=a75 (intKind c.prog c.w) (!bC c.w) o (fun k=>decide (k∈xs)) n
abbrev au4(c:Cx)(o:Obj)(xs:List Str)(n:Nat):Prop:=a75 (PySem.strKind c.prog c.w) (!bC c.w) o (fun k=>decide (k∈xs)) n
theorem cd0{a:Addr}{its:List Value}{m:Nat}{xs:List Int}{Q:VP}(S:Fs c gs ns env V fx vs l h)(hh:A.handled=none)(ha:h.get? a=some (listOf its.toArray m))(hi:IntsAre its xs)(h64:its.length<64)
  (k:∀ r o n h',n<64->av0 c o xs n->let q9:=((r,o)::l); Fs c gs ns env V fx vs q9 h'->Q (.ref r) h'):Wp c E A (call (.type "set") [.ref a]) Q h:=.mk fun tk=>by
 have hl:=hi.length;refine a00 (s:=c.at h tk) (knd:=intKind c.prog c.w) (fun i=>xs.getD i 0) hh (aq ha) (fun i v hv=>?_) (by simp; unfold scanBound; exact b17 h64) fun h' tk' hS hk=>?_
 ·rw[List.getElem?_toArray] at hv;have hix:i<xs.length:=by rw[<- hl]; exact(List.getElem?_eq_some_iff.mp hv).1
  obtain⟨t,et⟩:=au hi hix;rw[et] at hv
  cases hv
  exact⟨by simp [intKind,Value.isInt],rfl⟩
 ·obtain⟨o,ho,hso⟩:=hS.obj;have e1:(its.toArray).size=xs.length:=by simp [hl]
  rw[e1] at hso;have e:∀ k,decide (k∈be (fun i=>xs.getD i 0) xs.length)=decide (k∈xs):=fun k=>by
   rw[decide_eq_decide,as9]
   constructor
   ·rintro⟨j,a,b⟩; rw[<- b,jk,jj a]; exact List.getElem_mem a
   ·intro hm; obtain⟨j,a,b⟩:=List.getElem_of_mem hm; exact⟨j,a,by rw[jk,jj a]; exact b⟩
  have hso':av0 c o xs (be (fun i=>xs.getD i 0) xs.length).length:=by unfold av0; rw[<- funext e]; exact hso
  exact⟨h',(tk',tk.2),rfl,k _ o _ h' (ju (am0 _ _) (b16 h64 hl)) hso' (S.grow (fun b o e=>hk b o (jw e) e) ho (Nat.le_refl _))⟩
theorem cc9{a:Addr}{its:List Value}{m:Nat}{Q:VP}(S:Fs c gs ns env V fx vs l h)(hh:A.handled=none)(ha:h.get? a=some (listOf its.toArray m))(hi:StrsAre its xs)(h64:its.length<64)
  (k:∀ r o n h',n<64->au4 c o xs n->let q9:=((r,o)::l); Fs c gs ns env V fx vs q9 h'->Q (.ref r) h'):Wp c E A (call (.type "set") [.ref a]) Q h:=.mk fun tk=>by
 have hl:=hi.length;refine a00 (s:=c.at h tk) (knd:=PySem.strKind c.prog c.w) (fun i=>xs.getD i "") hh (aq ha) (fun i v hv=>?_) (by simp; unfold scanBound; exact b17 h64) fun h' tk' hS hk=>?_
 ·rw[List.getElem?_toArray] at hv;have hix:i<xs.length:=by rw[<- hl]; exact(List.getElem?_eq_some_iff.mp hv).1
  obtain⟨x,t,e1,rfl⟩:=bw5 hi hv;have e2:xs.getD i "" = x:=by rw[jk,e1]; rfl
  exact⟨by rw[e2]; simp [PySem.strKind,Value.isStrOf],rfl⟩
 ·obtain⟨o,ho,hso⟩:=hS.obj;have e1:(its.toArray).size=xs.length:=by simp [hl]
  rw[e1] at hso;have e:∀ k,decide (k∈be (fun i=>xs.getD i "") xs.length)=decide (k∈xs):=fun k=>by
   rw[decide_eq_decide,as9]
   constructor
   ·rintro⟨j,a,b⟩; rw[<- b,jk,jj a]; exact List.getElem_mem a
   ·intro hm; obtain⟨j,a,b⟩:=List.getElem_of_mem hm; exact⟨j,a,by rw[jk,jj a]; exact b⟩
  have hso':au4 c o xs (be (fun i=>xs.getD i "") xs.length).length:=by unfold au4; rw[<- funext e]; exact hso
  exact⟨h',(tk',tk.2),rfl,k _ o _ h' (ju (am0 _ _) (b16 h64 hl)) hso' (S.grow (fun b o e=>hk b o (jw e) e) ho (Nat.le_refl _))⟩
theorem bh8{a:Addr}{o:Obj}{xs:List Int}{n:Nat}{Q:VP}(S:Fs c gs ns env V fx vs l h)(hh:A.handled=none)(ha:h.get? a=some o)(hS:av0 c o xs n)(hn:n<64)
  (k:∀ r its xs' m h',IntsAre its xs'->xs'.Pairwise (·<·)->(∀ k,k∈xs'↔k∈xs)->let q9:=((r,listOf its.toArray m)::l); Fs c gs ns env V fx vs q9 h'->Q (.ref r) h'):Wp c E A (call (.builtin "sorted") [.ref a]) Q h:=.mk fun tk =>
 a82 (s:=c.at h tk) rfl hh ha hS hn fun h' d r its xs' m hr hg hi hp hm hk=>⟨h',(_,_),rfl,k r its.toList xs' m h' hi hp (fun k=>by rw[hm]; simp) (S.grow hk (by rw[Array.toArray_toList]; exact hg) hr)⟩
theorem bh9{a:Addr}{o:Obj}{n:Nat}{Q:VP}(S:Fs c gs ns env V fx vs l h)(hh:A.handled=none)(ha:h.get? a=some o)(hS:au4 c o xs n)(hn:n<64)
  (k:∀ r its xs' m h',StrsAre its xs'->xs'.Nodup->sortedS xs'=true->(∀ k,k∈xs'↔k∈xs)->let q9:=((r,listOf its.toArray m)::l); Fs c gs ns env V fx vs q9 h'->Q (.ref r) h'):Wp c E A (call (.builtin "sorted") [.ref a]) Q h:=.mk fun tk =>
 a81 (s:=c.at h tk) rfl hh ha hS hn fun h' d r its xs' m hr hg hi hn hp hm hk=>⟨h',(_,_),rfl,k r its.toList xs' m h' hi hn hp (fun k=>by rw[hm]; simp) (S.grow hk (by rw[Array.toArray_toList]; exact hg) hr)⟩
end
end
section
variable {E:VP} {gs ns:List Str} {pos:Pos} {value slice:Expr} {A:Around} {env:Env} {V:Heap} {fx:ac} {l l':ac} {vs:LO} {h:Heap}
mutual
theorem av7{a:Addr}{its:List Value}{n:Nat}{u:Tok}{x:Value}{Q:VP}(ha:h.get? a=some (listOf its.toArray n))(hx:its.getLast?=some x)(q:Q x h)
  (hs:autoParam (∃ ops,subscripted slice false (.ref a) (.int (-1) u)=operate ops (getItem (.ref a) (.int (-1) u))) aX) :
  Wp c E A (subscriptTail value slice (.ref a) (.int (-1) u)) Q h:=aa5 (fun tk=>(aq ha).typeIs) list_getitem_lookup (.mk fun tk=>by
   have h0:its≠[]:=fun e=>by rw[e] at hx; cases hx
   have hl:0<its.length:=List.length_pos_iff.mpr h0;refine wpAny_getItem_list_neg (s:=c.at h tk) (aq ha) (by decide) (by simp; exact cj5 hl) (by decide) (x:=x) ?_ ⟨h,tk,rfl,q⟩;rw[List.getLast?_eq_getElem?] at hx;have:(-1+(its.toArray.size:Int)).toNat=its.length-1:=by simp; exact cj4
   rw[this,List.getElem?_toArray]; exact hx) hs
theorem bg4:∀ {vs:List Value} {xs:List Str},StrsAre vs xs->xs≠[]->av fun x t=>xs.getLast?=some x/\vs.getLast?=some (.str x t)
 | _,_,i,h=>by
  have hl:=i.length;have hp:0<_:=List.length_pos_iff.mpr h
  rename_i vs xs
  have e:xs[xs.length-1]?=some xs[xs.length-1]:=jj (z24 hp);obtain⟨t,e2⟩:=i.get _ _ e;exact⟨_,t,by rw[List.getLast?_eq_getElem?,e],by rw[List.getLast?_eq_getElem?,hl]; exact e2⟩
theorem aw.strs{R:RP}{vs:List Value}{xs:List Str}(x:StrsAre vs xs)(h:∀ x∈xs,PyData.strOk x=true):aw R vs (xs.map .str):=by
 induction x with
 | nil=>exact .nil
 | cons x t _ ih=>exact .cons (.str x t (h x (.head _))) (ih fun y hy=>h y (.tail _ hy))
theorem bz7{ds:List PyData}:PyData.eqv (.list ds) (.list [])=ds.isEmpty:=by cases ds<;>simp [PyData.eqv,PyData.eqvAll]
theorem ab4:∀ xs:List Str,(PyData.list (xs.map .str)).depth<=64:=fun xs=>by
 have:PyData.depthAll (xs.map .str)=0:=by
  induction xs with
  | nil=>simp only[List.map_nil,PyData.depthAll]
  | cons x r ih=>simp only[List.map_cons,PyData.depthAll,PyData.depth,ih,Nat.max_self]
 simp only[PyData.depth,this]; exact cj3
end
end
section
variable {E:VP} {gs ns:List Str} {pos:Pos} {A:Around} {env:Env} {V:Heap} {fx:ac} {l l':ac} {vs:LO} {h:Heap}
mutual
theorem ao2(xs:List Int)(j:Nat):j<=xs.length->preSum (fun i=>xs.getD i 0) j=(xs.take j).sum:=by
 induction j with
 | zero=>intro Z; simp [preSum]
 | succ j ih =>
  intro hj
  show preSum _ j+xs.getD j 0=_
  rw[ih (cj2 hj),List.take_succ_eq_append_getElem (b15 hj),List.sum_append,jk,jj (b15 hj)]
  simp
theorem cb4{xs:List Int}{m:Int}(hz:∀ x∈xs,0<=x/\x<=m):0<=xs.sum/\xs.sum<=m*xs.length:=by
 induction xs with
 | nil=>simp
 | cons x r ih =>
  have h1:=hz x (.head _);have h2:=ih fun y hy=>hz y (.tail _ hy);rw[List.sum_cons,jA];have:m*((r.length+1:Nat):Int)=m*(r.length:Int)+m:=(Int.mul_add m r.length 1).trans (congrArg (m*(r.length:Int)+·) (Int.mul_one m));exact⟨Int.add_nonneg h1.1 h2.1,this▸Int.le_trans (Int.add_le_add h1.2 h2.2) (Int.le_of_eq (Int.add_comm m _))⟩
theorem cf7{a:Addr}{its:List Value}{xs:List Int}{n:Nat}{Q:VP}(S:Fs c gs ns env V fx vs l h)(hh:A.handled=none)(ha:h.get? a=some (listOf its.toArray n))(hi:IntsAre its xs)(hz:∀ x∈xs,0<=x/\x<=1000)(hn:xs.length<=1000)
  (k:∀ t h',Fs c gs ns env V fx vs l h'->Q (.int xs.sum t) h'):Wp c E A (call (.builtin "sum") [.ref a]) Q h:=.mk fun tk=>by
 have hl:=aq ha;have hlen:=hi.length;have hne:a≠h.objs.size:=jv (jw ha);refine call_sum_walk (s:=c.at h tk) (wpAny_pyIter_list hl ⟨_,_,_,_,_,_,fun i=>xs.getD i 0,rfl,Walks.list (A:=A.in1) hh h.objs.size a hne _,⟨⟨_,jq _ rfl,rfl,rfl⟩,hl.at fun o e=>jp _ e⟩,?_,fun i v hv=>?_,fun j hj=>?_,fun h' tk' t' hk=>?_⟩)
 ·intro b hb;rw[jH]
  rcases jf.mp hb with rfl|hb
  ·exact Nat.lt_succ_self _
  ·rw[je.mp hb]; exact Nat.lt_succ_of_lt (jw ha)
 ·rw[List.getElem?_toArray] at hv;have hix:i<xs.length:=by rw[<- hlen]; exact(List.getElem?_eq_some_iff.mp hv).1
  obtain⟨t,et⟩:=au hi hix;rw[et] at hv
  cases hv
  exact⟨t,rfl⟩
 ·show InLong (xs.getD j 0)/\InLong _
  have hj':j<xs.length:=by simpa [hlen] using hj
  have hm:xs.getD j 0∈xs:=by rw[jk,jj hj']; exact List.getElem_mem hj'
  have h1:=hz _ hm;rw[ao2 xs (j+1) (bb2 hj')];have h2:=cb4 (xs:=xs.take (j+1)) (m:=1000) fun x hx=>hz x (List.mem_of_mem_take hx);exact⟨⟨Int.le_trans (by decide) h1.1,Int.lt_of_le_of_lt h1.2 (by decide)⟩,Int.le_trans (by decide) h2.1,Int.lt_of_le_of_lt h2.2 (Int.lt_of_le_of_lt (Int.mul_le_mul_of_nonneg_left (Int.ofNat_le.mpr (jr (List.length_take_le _ _) hj')) (by decide)) (Int.lt_of_le_of_lt (Int.mul_le_mul_of_nonneg_left (Int.ofNat_le.mpr hn) (by decide)) (by decide)))⟩
 ·have e:preSum (fun i=>xs.getD i 0) its.toArray.size=xs.sum:=by
   rw[List.size_toArray,hlen,ao2 xs _ (Nat.le_refl _),jF]
  rw[e];exact⟨h',(tk',tk.2),rfl,k t' h' (((S.push { cls:=.type "list_iterator", data:=.fields #[.ref a,.int 0 0] }).drop).frame hk (fun b hb=>by rw[je.mp hb]; exact S.apt (Nat.le_refl _)) fun b hb o e=>by rw[je.mp hb] at e; rw[show(h.push { cls:=.type "list_iterator", data:=.fields #[.ref a,.int 0 0] }).get? h.objs.size=_ from jq _ rfl] at e; cases e; exact ai.fld rfl (by simp [rawInt]))⟩
end
end
section
variable {E:VP} {A:Around} {h:Heap}
theorem cf9{a n:Int}{t u:Tok}{Q:VP}(hn:0<=n)(hn2:n<=1000000)(ha:a.natAbs<2 ^ 64)(q:∀ t,Q (.int (a ^ n.toNat) t) h):Wp c E A (binaryOp .Pow (.int a t) (.int n u)) Q h:=.mk fun tk=>pow_int_small (s:=c.at h tk) hn hn2 ha ⟨h,(_,_),rfl,q _⟩
end
theorem bn.unmid{p:Addr×Obj}{a b:ac}(d:bn (p::(a++b))):bn (a++p::b):=by
 induction a with
 | nil=>exact d
 | cons x a ih =>
  obtain⟨d1,d2,d3⟩:=d;refine⟨fun q hq=>?_,ih ⟨fun q hq=>d1 q (.tail _ hq),d3⟩⟩
  rcases jg.mp hq with h|h
  ·exact d2 q (ji _ h)
  ·rcases jf.mp h with rfl|h
   ·exact(d1 x (.head _)).symm
   ·exact d2 q (jh _ h)
section
variable {E:VP} {gs ns:List Str} {pos:Pos} {A:Around} {env:Env} {V:Heap} {fx:ac} {l l':ac} {vs:LO} {h:Heap}
mutual
theorem Fs.behind{p:Addr×Obj}{a b:ac}(S:Fs c gs ns env V fx vs (p::(a++b)) h):Fs c gs ns env V fx vs (a++p::b) h :=
 S.pick (fun q hq=>by
  rcases jg.mp hq with h|h
  ·exact .tail _ (ji _ h)
  ·rcases jf.mp h with rfl|h
   ·exact .head _
   ·exact .tail _ (jh _ h)) (bn.unmid S.ord)
theorem Fs.refix{fx':ac}(S:Fs c gs ns env V fx vs l h)(k:∀ p∈fx',p∈fx):Fs c gs ns env V fx' vs l h :=
 {S with fix:=fun p hp=>S.fix p (k p hp),off:=fun p hp=>S.off p (k p hp) }
theorem Fs.refix1{p:Addr×Obj}(S:Fs c gs ns env V fx vs l h)(k:p∈fx):Fs c gs ns env V (p::fx) vs l h :=
 S.refix fun q hq=>(jf.mp hq).elim (fun e=>by rw[e]; exact k) id
theorem Fs.gain{h':Heap}{P:(RP)->Prop}{p:Addr×Obj}(S:Fs c gs ns env V (p::fx) vs l h)(k:bU h h')(s:az (Nw h h') P):∃ fx',bB (Fs c gs ns env V (p::fx') vs l h') (∀ a o,In V (p::fx) a o->In V (p::fx') a o) (P (In V (p::fx'))):=by
 obtain⟨ents,a,b⟩:=s;refine⟨ents++p::fx,(S.takeFs k a).refix1 (jh _ (.head _)),fun x o q=>q.imp id fun q=>.tail _ (jh _ q),b _ fun q hq=>.inr (.tail _ (ji _ hq))⟩
theorem Fs.gainB{h':Heap}{P:(RP)->Prop}{p:Addr×Obj}(S':Fs c gs ns env V (p::fx) vs l h')(S:Fs c gs ns env V (p::fx) vs l h)(s:az (Nw h h') P):∃ fx',bB (Fs c gs ns env V (p::fx') vs l h') (∀ a o,In V (p::fx) a o->In V (p::fx') a o) (P (In V (p::fx'))):=by
 obtain⟨ents,a,b⟩:=s;refine⟨ents++p::fx,(S'.fixNew S rfl a).refix1 (jh _ (.head _)),fun x o q=>q.imp id fun q=>.tail _ (jh _ q),b _ fun q hq=>.inr (.tail _ (ji _ hq))⟩
theorem az.mono{R R':RP}{P:(RP)->Prop}(s:az R P)(k:∀ a o,R a o->R' a o):P R':=by obtain⟨Z,a,b⟩:=s; exact b _ fun p hp=>k _ _ (a p hp)
theorem Fs.keepIt{p q:Addr×Obj}(S:Fs c gs ns env V (p::fx) vs (q::l) h):Fs c gs ns env V (p::q::fx) vs l h:=S.toFix.refix fun r hr=>by
 rcases jf.mp hr with rfl|hr
 ·exact .tail _ (.head _)
 ·rcases jf.mp hr with rfl|hr
  ·exact .head _
  ·exact .tail _ (.tail _ hr)
theorem In.mid{p q:Addr×Obj}(a:Addr)(o:Obj)(x:In V (p::fx) a o):In V (p::q::fx) a o:=x.imp id fun x=>by
 rcases jf.mp x with e|x
 ·rw[e]; exact .head _
 ·exact .tail _ (.tail _ x)
end
end
section
variable {E:VP} {gs ns:List Str} {value slice:Expr} {A:Around} {env:Env} {V:Heap} {fx:ac} {l:ac} {vs:LO} {h:Heap}
theorem bp3{a sl:Addr}{its:List Value}{vl vu:Value}{lo hi:Option Int}{Q:VP}(S:Fs c gs ns env V fx vs ((sl,ac9 vl vu .none)::l) h)(ha:h.IsList a its.toArray)(pl:IsPart vl lo)(pu:IsPart vu hi)(hz:its.length<=1000000)
  (k:∀ r h',h.objs.size<=r->let q9:=((r,listOf (bY its lo hi).toArray 0)::l); Fs c gs ns env V fx vs q9 h'->Q (.ref r) h')
  (hs:autoParam (∃ ops,subscripted slice false (.ref a) (.ref sl)=operate ops (getItem (.ref a) (.ref sl))) aX) :
  Wp c E A (subscriptTail value slice (.ref a) (.ref sl)) Q h:=by
 refine aa5 (fun tk=>ha.typeIs) list_getitem_lookup (.mk fun tk=>wpAny_getItem_list_slice (s:=c.at h tk) ha ⟨_,S.own _ (.head _),rfl,rfl⟩ pl pu .none (by simp) ⟨_,(_,_),rfl,k _ _ (Nat.le_refl _) ?_⟩ (by rw[List.size_toArray]; exact bd hz)) hs;have e:({ cls:=.type "list", data:=.seq (slicePick its.toArray lo hi none) }:Obj)=listOf (bY its lo hi).toArray 0:=by rw[kms_pick_eq]; rfl
 rw[e];exact S.drop.push _
end
mutual
theorem Fs.cast{gs ns:List Str}{env:Env}{V:Heap}{fx l l':ac}{vs vs':LO}{h:Heap}(S:Fs c gs ns env V fx vs l h)(e1:vs=vs')(e2:l=l'):Fs c gs ns env V fx vs' l' h:=e1▸e2▸S
theorem Fs.castL{gs ns:List Str}{env:Env}{V:Heap}{fx l l':ac}{vs vs':LO}{h:Heap}{P:Prop}(S:Fs c gs ns env V fx vs l h)(e1:vs=vs')(e2:l=l')(k:let w:=vs'; let q9:=l'; Fs c gs ns env V fx w q9 h->P):P:=k (S.cast e1 e2)
theorem bf0{h:Heap}(G:ak c h)(n:Int)(t:Tok):Ct c 1 (.ref 101) [.int n t] h (fun v Z=>v=.bool (decide (0<=n-44032)&&decide (n-44032<11172))):=by
 refine al G (by k_is) (by k_is) (binds:=[("code", .int n t)]) (fun s X=>jx rfl) (rest:=[]) (ns:=["code"]) rfl (vs:=[some (.int n t)]) rfl (gs:=["SYLLABLE_FIRST", "SYLLABLES"]) (by decide +kernel) ?_;intro A L h ar hL Z Z S Z Z;ext;refine BB.dec (fun h1=>?_) (fun h1=>?_)
 ·ext;ext;ext;ext;ext;exact⟨S.kept hL,by rw[jz h1,Bool.true_and]⟩
 ·ext;ext;ext;ext;ext;exact⟨S.kept hL,by rw[jy h1,Bool.false_and]⟩
noncomputable def dH(fs:List Int)(x:Int):Nat->Nat->Nat->Nat
 | 0,lo,_=>lo
 | k+1,lo,hi=>if lo<hi then(if fs.getD ((lo+hi)/2) 0<=x then dH fs x k ((lo+hi)/2+1) hi else dH fs x k lo ((lo+hi)/2)) else lo
theorem aa8(fs:List Int)(x:Int)(k lo hi:Nat)(h:¬ lo<hi):dH fs x k lo hi=lo:=by
 cases k with
 | zero=>rfl
 | succ k=>exact if_neg h
theorem ai7{fs:List Int}{x:Int}{k lo hi:Nat}(h:lo<hi):dH fs x (k+1) lo hi=if fs.getD ((lo+hi)/2) 0<=x then dH fs x k ((lo+hi)/2+1) hi else dH fs x k lo ((lo+hi)/2):=if_pos h
theorem cc3(fs:List Int)(x:Int)(k:Nat):∀ (j lo hi:Nat),hi-lo<=k->hi-lo<=j->dH fs x k lo hi=dH fs x j lo hi:=by
 have no:∀ {lo hi:Nat},hi-lo<=0->¬ lo<hi:=fun h=>Nat.not_lt.mpr (Nat.le_of_sub_eq_zero (Nat.le_zero.mp h))
 induction k with
 | zero=>intro j lo hi h Z; rw[aa8 _ _ _ _ _ (no h),aa8 _ _ _ _ _ (no h)]
 | succ k ih =>
  intro j lo hi h g
  by_cases hlt:lo<hi
  ·cases j with
   | zero=>exact absurd hlt (no g)
   | succ j =>
    rw[ai7 hlt,ai7 hlt,ih j _ _ (z25 h) (z25 g),ih j _ _ (z38 h) (z38 g)]
  ·rw[aa8 _ _ _ _ _ hlt,aa8 _ _ _ _ _ hlt]
theorem a37(fs:List Int)(x:Int)(k lo hi:Nat)(h:hi-lo<=k):dH fs x k lo hi=dH fs x (hi-lo) lo hi:=cc3 fs x k _ lo hi h (Nat.le_refl _)
theorem bp2(fs:List Int)(x:Int){lo hi:Nat}(h:lo<hi):dH fs x (hi-lo) lo hi=if fs.getD ((lo+hi)/2) 0<=x then dH fs x (hi-((lo+hi)/2+1)) ((lo+hi)/2+1) hi else dH fs x ((lo+hi)/2-lo) lo ((lo+hi)/2):=by
 obtain⟨j,hj⟩:∃ j,hi-lo=j+1:=⟨hi-lo-1,by exact z12 h⟩;rw[hj];rw[ai7 h,a37 fs x j _ _ (z4 hj),a37 fs x j lo _ (z5 hj)]
noncomputable def cI(fs:List Int)(x:Int):Int:=(dH fs x fs.length 0 fs.length:Nat)-1
theorem a63{h:Heap}(G:ak c h){a:Addr}{fs:List Int}(hl:LI (Hs h) a fs)(hn:fs.length<1000000)(x:Int)(t:Tok):Ct c 1 (.ref 94) [.ref a,.int x t] h (fun v Z=>∃ t,v=.int (cI fs x) t):=by
 obtain⟨its,n,ha0,hi⟩:=hl.mono Hs.in;have hlen:=hi.length;refine al G (by k_is) (by k_is) (binds:=[("firsts", .ref a),("number", .int x t)]) (fun s X=>jx rfl) (rest:=["low", "high", "middle"]) (ns:=["firsts", "number", "low", "high", "middle"]) rfl (vs:=[some (.ref a),some (.int x t),none,none,none]) rfl (gs:=["len"]) (by decide +kernel) ?_;intro A L O ar hL Z Z S Z Z;ext;refine bQ ((S.hs _ _ ha0).1) (c86 hn hlen) fun Z=>?_;ext;refine aa2 (fun k h=>dU fun(lo hi:Nat) (t1 t2:Tok) (m:Option Value)=>bK (Fs c _ _ _ _ [] [some (.ref a),some (.int x t),some (.int (lo:Int) t1),some (.int (hi:Int) t2),m] [] h) (k=hi-lo) (hi<=fs.length) (dH fs x (hi-lo) lo hi=dH fs x fs.length 0 fs.length)) fs.length ⟨0,fs.length,_,_,_,by rw[<- hlen]; exact S,rfl,Nat.le_refl _,rfl⟩ ?_;rintro Z Z k h ⟨lo,hi',t1,t2,m,S,rfl,hh,hp⟩;ext;refine BB.dec (fun h1=>?_) (fun h1=>?_)
 ·have h1:lo<hi':=by exact b48 h1
  rw[bp2 fs x h1] at hp;obtain⟨tt,htt⟩:=au hi (k:=(lo+hi')/2) (dh0 hh (by assumption));have e2:Int.fdiv ((lo:Int)+(hi':Int)) 2=(((lo+hi')/2:Nat):Int):=by rw[Int.fdiv_eq_ediv_of_nonneg _ (by decide)]; exact cq1
  ext
  try dsimp +zetaDelta only at S
  rw[e2] at S ⊢;refine bk ((S.hs _ _ ha0).1) (cw1) (dj5 hn hh (by assumption)) (by rw[Int.toNat_natCast]; exact htt) ?_;ext;refine BB.dec (fun h2=>?_) (fun h2=>?_)
  ·ext;rw[if_pos h2] at hp;exact⟨hi'-((lo+hi')/2+1),by exact z29 (by assumption),(lo+hi')/2+1,hi',_,_,_,S,rfl,hh,hp⟩
  ·ext;rw[if_neg h2] at hp;exact⟨(lo+hi')/2-lo,by exact z33 (by assumption),lo,(lo+hi')/2,_,_,_,S,rfl,by exact df9 hh (by assumption),hp⟩
 ·rw[aa8 _ _ _ _ _ (c07 h1)] at hp;ext;ext;ext;ext;ext;exact⟨S.kept hL,_,by unfold cI; rw[<- hp]⟩
noncomputable def ao(place bias:Int):Int:=if 36*place-bias<1 then 1 else if 36*place-bias>26 then 26 else 36*place-bias
noncomputable def bR:List (Str×Value):=[("base", .int 36 573),("least", .int 1 574),("most", .int 26 575),("skew", .int 38 576),("damp", .int 700 577),("bias", .int 72 578),("first", .int 128 579)]
theorem d8:(("base", .int 36 573):Str×Value)∈bR:=.head _
theorem eW:(("least", .int 1 574):Str×Value)∈bR:=.tail _ (.head _)
theorem nA2:(("most", .int 26 575):Str×Value)∈bR:=.tail _ (.tail _ (.head _))
theorem nA3:(("skew", .int 38 576):Str×Value)∈bR:=.tail _ (.tail _ (.tail _ (.head _)))
theorem nA4:(("damp", .int 700 577):Str×Value)∈bR:=.tail _ (.tail _ (.tail _ (.tail _ (.head _))))
theorem nA5:(("bias", .int 72 578):Str×Value)∈bR:=.tail _ (.tail _ (.tail _ (.tail _ (.tail _ (.head _)))))
theorem nA6:(("first", .int 128 579):Str×Value)∈bR:=.tail _ (.tail _ (.tail _ (.tail _ (.tail _ (.tail _ (.head _))))))
theorem bu:(bR.map (·.1)).Nodup:=by decide +kernel
theorem cg3(P:Params):(bR.map (·.1)).all (dM (Mine.hd.heap_39 P) 276)=true:=by kernel_rfl
theorem as5(P:Params):dN (Mine.hd.heap_39 P) 276 "threshold" 266/\dN (Mine.hd.heap_39 P) 276 "adapted" 273:=⟨⟨by k_is,by k_is,by k_is⟩,⟨by k_is,by k_is,by k_is⟩⟩
theorem bh{name:Str}(h:name∈bR.map (·.1)):dM (Mine.hd.heap_39 c.w.params) 276 name=true:=List.all_eq_true.mp (cg3 c.w.params) name h
theorem ai9{name:Str}(ht:takerIn (Mine.hd.heap_39 c.w.params) 276 name=some none):ax4 (Mine.hd.heap_39 c.w.params) 276 name:=⟨by k_is,by k_is,ht,by k_is⟩
theorem ap7{h:Heap}(G:ak c h):ah9 c 1 259 276 [] h (fun x h'=>bt (Nw h h') x 276 bR):=by
 intro A x dx O ar hlt hsz K1 hx hdx;ext;refine as7 G ar hlt hsz K1 hx hdx (by k_is) (by k_is) (binds:=[("self", .ref x),("base", .int 36 573),("least", .int 1 574),("most", .int 26 575),("skew", .int 38 576),("damp", .int 700 577),("bias", .int 72 578),("first", .int 128 579)])
  (fun s X=>bZ X rfl (by k_is) rfl (by walk_at"u")) (rest:=[]) (ns:=["self", "base", "least", "most", "skew", "damp", "bias", "first"]) rfl (vs:=[some (.ref x),some (.int 36 573),some (.int 1 574),some (.int 26 575),some (.int 38 576),some (.int 700 577),some (.int 72 578),some (.int 128 579)]) rfl (gs:=["LETTERS", "FIGURES", "MOST_FIRST", "MOST_BIAS"]) (by decide +kernel) ?_
 intro A L h ar hL Z Z S Z Z;walk_at"gc";refine aE (lf:=fun o'=>[(x,instObj 276 dx),(dx,o')]) S (S.own _ (.head _)) .nil (ai9 (by k_is)) (fun Z=>.tail .head) (by decide) fun es n h E S=>?_;walk_at"gc";refine aE (lf:=fun o'=>[(x,instObj 276 dx),(dx,o')]) S (S.own _ (.head _)) E (ai9 (by k_is)) (fun Z=>.tail .head) (by decide) fun es n h E S=>?_;walk_at"gc";refine aE (lf:=fun o'=>[(x,instObj 276 dx),(dx,o')]) S (S.own _ (.head _)) E (ai9 (by k_is)) (fun Z=>.tail .head) (by decide) fun es n h E S=>?_;walk_at"gc";refine aE (lf:=fun o'=>[(x,instObj 276 dx),(dx,o')]) S (S.own _ (.head _)) E (ai9 (by k_is)) (fun Z=>.tail .head) (by decide) fun es n h E S=>?_;walk_at"gc";refine aE (lf:=fun o'=>[(x,instObj 276 dx),(dx,o')]) S (S.own _ (.head _)) E (ai9 (by k_is)) (fun Z=>.tail .head) (by decide) fun es n h E S=>?_;walk_at"gc";refine aE (lf:=fun o'=>[(x,instObj 276 dx),(dx,o')]) S (S.own _ (.head _)) E (ai9 (by k_is)) (fun Z=>.tail .head) (by decide) fun es n h E S=>?_;walk_at"gc";refine aE (lf:=fun o'=>[(x,instObj 276 dx),(dx,o')]) S (S.own _ (.head _)) E (ai9 (by k_is)) (fun Z=>.tail .head) (by decide) fun es n h E S=>?_;walk_at"gc";refine⟨rfl,S.kept hL,dx,es,n,⟨S.own _ (.head _),jI (ju hsz hlt)⟩,⟨S.own _ (.tail _ (.head _)),hsz⟩,?_⟩;exact E
theorem at5{h:Heap}(G:ak c h){x:Addr}(hi:bt (Hs h) x 276 bR)(p b:Int)(t u:Tok):Ct c 1 (.ref 266) [.ref x,.int p t,.int b u] h (fun v Z=>∃ t,v=.int (ao p b) t):=by
 have hi:=hi.mono Hs.in;refine al G (by k_is) (by k_is) (binds:=[("self", .ref x),("place", .int p t),("bias", .int b u)]) (fun s X=>jx rfl) (rest:=["told"]) (ns:=["self", "place", "bias", "told"]) rfl (vs:=[some (.ref x),some (.int p t),some (.int b u),none]) rfl (gs:=[]) (by decide +kernel) ?_;intro A L h ar hL Z Z S Z Z;ext;refine am S hi (bh (by decide +kernel)) bu (v:=.int 36 573) d8 rfl ?_;ext;refine aJ ?_;ext;refine am S hi (bh (by decide +kernel)) bu (v:=.int 1 574) eW rfl ?_;ext;refine BB.dec (fun h1=>?_) (fun h1=>?_)
 ·ext;refine am S hi (bh (by decide +kernel)) bu (v:=.int 1 574) eW rfl ?_;ext;exact⟨S.kept hL,574,by rw[ao,if_pos h1]⟩
 ·refine aJ ?_;ext;refine am S hi (bh (by decide +kernel)) bu (v:=.int 26 575) nA2 rfl ?_;ext;refine BB.dec (fun h2=>?_) (fun h2=>?_)
  ·ext;refine am S hi (bh (by decide +kernel)) bu (v:=.int 26 575) nA2 rfl ?_;ext;exact⟨S.kept hL,575,by rw[ao,if_neg h1,if_pos h2]⟩
  ·ext;exact⟨S.kept hL,_,by rw[ao,if_neg h1,if_neg h2]⟩
noncomputable def bz:Nat->Int->Int->Int×Int
 | 0,d,k=>(d,k)
 | n+1,d,k=>if d>455 then bz n (d/35) (k+1) else(d,k)
noncomputable def cX(delta many:Int)(first:Bool):Int :=
 let dA:=if first then delta/700 else delta/2
 let dB:=dA+dA/many;let r:=bz dB.toNat dB 0
 36*r.2+36*r.1/(r.1+38)
theorem aa3{n:Nat}{d k:Int}(h:¬ d>455):bz n d k=(d,k):=by
 cases n with
 | zero=>rfl
 | succ n=>exact if_neg h
theorem ar0{n:Nat}{d k:Int}(h:d>455):bz (n+1) d k=bz n (d/35) (k+1):=if_pos h
theorem bl9(n:Nat):∀ (m:Nat) (d k:Int),0<=d->d.toNat<=n->d.toNat<=m->bz n d k=bz m d k:=by
 have no:∀ {d:Int},d.toNat<=0->¬ d>455:=fun h=>by exact cj1 h
 induction n with
 | zero=>intro m d k Z h Z; rw[aa3 (no h),aa3 (no h)]
 | succ n ih =>
  intro m d k h0 h g
  by_cases hd:d>455
  ·cases m with
   | zero=>exact absurd hd (no g)
   | succ m =>
    rw[ar0 hd,ar0 hd];exact ih m _ _ (z13 hd) (z97 h) (z97 g)
  ·rw[aa3 hd,aa3 hd]
theorem a93(n:Nat)(d k:Int)(h0:0<=d)(h:d.toNat<=n):bz n d k=bz d.toNat d k:=bl9 n _ d k h0 h (Nat.le_refl _)
theorem ao7{d k:Int}(h:d>455):bz d.toNat d k=bz (d/35).toNat (d/35) (k+1):=by
 obtain⟨j,hj⟩:∃ j,d.toNat=j+1:=⟨d.toNat-1,by exact z34 h⟩;rw[hj];rw[ar0 h];exact a93 j _ _ (z13 h) (z14 hj)
theorem bT{a b:Int}(h:0<=b):Int.fdiv a b=a/b:=Int.fdiv_eq_ediv_of_nonneg a h
theorem at8{h:Heap}(G:ak c h){x:Addr}(hi:bt (Hs h) x 276 bR)(d m:Int)(f:Bool)(t u:Tok)(hd:0<=d)(hm:0<m)(hm':m<1000000) :
  Ct c 1 (.ref 273) [.ref x,.int d t,.int m u,.bool f] h (fun v Z=>∃ t,v=.int (cX d m f) t):=by
 have hi:=hi.mono Hs.in;refine al G (by k_is) (by k_is) (binds:=[("self", .ref x),("delta", .int d t),("many", .int m u),("is_first", .bool f)]) (fun s X=>jx rfl) (rest:=["count"]) (ns:=["self", "delta", "many", "is_first", "count"]) rfl (vs:=[some (.ref x),some (.int d t),some (.int m u),some (.bool f),none]) rfl (gs:=[]) (by decide +kernel) ?_;intro A L h ar hL Z Z S Z Z;refine br (fun h=>∃ t,S.like [some (.ref x),some (.int (if f then d/700 else d/2) t),some (.int m u),some (.bool f),none] [] h) ?_ ?_
 ·ext;refine aJ ?_;ext;refine BB.mk (fun hf=>?_) (fun hf=>?_)
  ·ext;refine am S hi (bh (by decide +kernel)) bu (v:=.int 700 577) nA4 rfl ?_;ext
   try dsimp +zetaDelta only at S
   rw[bT (by decide)] at S;have e:(if f=true then d/700 else d/2)=d/700:=by simp [hf]
   exact⟨rfl,_,by rw[e]; exact S⟩
  ·ext
   try dsimp +zetaDelta only at S
   rw[bT (by decide)] at S;have e:(if f=true then d/700 else d/2)=d/2:=by simp [hf]
   exact⟨rfl,_,by rw[e]; exact S⟩
 rintro h ⟨tA,(S:Fs _ _ _ _ _ _ _ _ _)⟩;have e0:cX d m f=(let dB:=(if f then d/700 else d/2)+(if f then d/700 else d/2)/m; let r:=bz dB.toNat dB 0; 36*r.2+36*r.1/(r.1+38)):=rfl;have h0:0<=(if f then d/700 else d/2):=by split<;>exact Int.ediv_nonneg hd (by decide)
 try dsimp +zetaDelta only at S
 generalize (if f then d/700 else d/2)=dA at S e0 h0;ext;refine ag3 (fun Z=>?_) (ba9 hm) (na (Int.le_of_lt hm) (Int.lt_trans hm' (by decide)));rw[bT (bm3 hm)];ext;have h1:0<=dA+dA/m:=Int.add_nonneg h0 (Int.ediv_nonneg h0 (bm3 hm))
 try dsimp +zetaDelta only at S
 generalize dA+dA/m=dB at S e0 h1;refine aa2 (fun n h=>cP fun(a k:Int) (t1 t2:Tok)=>bK (S.like [some (.ref x),some (.int a t1),some (.int m u),some (.bool f),some (.int k t2)] [] h) (0<=a) (n=a.toNat) (bz a.toNat a k=bz dB.toNat dB 0)) dB.toNat ⟨dB,0,_,_,S,h1,rfl,rfl⟩ ?_;rintro _ _ n h ⟨a,k,t1,t2,(S:Fs _ _ _ _ _ _ _ _ _),ha,rfl,hp⟩;ext;refine am S hi (bh (by decide +kernel)) bu (v:=.int 36 573) d8 rfl ?_;ext;refine am S hi (bh (by decide +kernel)) bu (v:=.int 1 574) eW rfl ?_;ext;refine am S hi (bh (by decide +kernel)) bu (v:=.int 26 575) nA2 rfl ?_;ext;have e1:Int.fdiv ((36-1)*26) 2=455:=by decide
 rw[e1];refine BB.dec (fun h2=>?_) (fun h2=>?_)
 ·ext;refine am S hi (bh (by decide +kernel)) bu (v:=.int 36 573) d8 rfl ?_;ext;refine am S hi (bh (by decide +kernel)) bu (v:=.int 1 574) eW rfl ?_;ext
  try dsimp +zetaDelta only at S
  rw[bT (by decide)] at S;rw[ao7 h2] at hp;exact⟨(a/35).toNat,by exact z18 h2,a/35,k+1,_,_,S,by exact z13 h2,rfl,hp⟩
 ·rw[aa3 h2] at hp;ext;refine am S hi (bh (by decide +kernel)) bu (v:=.int 36 573) d8 rfl ?_;ext;refine am S hi (bh (by decide +kernel)) bu (v:=.int 36 573) d8 rfl ?_;ext;refine am S hi (bh (by decide +kernel)) bu (v:=.int 1 574) eW rfl ?_;ext;refine am S hi (bh (by decide +kernel)) bu (v:=.int 38 576) nA3 rfl ?_;ext;refine ag3 (fun Z=>?_) (b94 ha) (na (Int.add_nonneg ha (by decide)) (Int.lt_of_le_of_lt (Int.add_le_add_right (Int.not_lt.mp h2) 38) (by decide)));rw[bT (b93 ha)];ext;have e2:cX d m f=36*k+(36-1+1)*a/(a+38):=by
   rw[e0]
   show 36*(bz dB.toNat dB 0).2+36*(bz dB.toNat dB 0).1/((bz dB.toNat dB 0).1+38)=_
   rw[<- hp]
   rfl
  exact⟨S.kept hL,_,by rw[e2]⟩
theorem ax0{h:Heap}(G:ak c h)(d m:Int)(f:Bool)(t u:Tok)(hd:0<=d)(hm:0<m)(hm':m<1000000) :
  Ct c 1 (.ref 637) [.int d t,.int m u,.bool f] h (fun v Z=>∃ t,v=.int (cX d m f) t):=by
 refine al G (by k_is) (by k_is) (binds:=[("delta", .int d t),("many", .int m u),("is_first", .bool f)]) (fun s X=>jx rfl) (rest:=["steps"]) (ns:=["delta", "many", "is_first", "steps"]) rfl (vs:=[some (.int d t),some (.int m u),some (.bool f),none]) rfl (gs:=[]) (by decide +kernel) ?_;intro A L h ar hL Z Z S Z Z;refine br (fun h=>∃ t,S.like [some (.int (if f then d/700 else d/2) t),some (.int m u),some (.bool f),none] [] h) ?_ ?_
 ·ext;refine aJ ?_;ext;refine BB.mk (fun hf=>?_) (fun hf=>?_)
  ·ext
   try dsimp +zetaDelta only at S
   rw[bT (by decide)] at S;have e:(if f=true then d/700 else d/2)=d/700:=by simp [hf]
   exact⟨rfl,_,by rw[e]; exact S⟩
  ·ext
   try dsimp +zetaDelta only at S
   rw[bT (by decide)] at S;have e:(if f=true then d/700 else d/2)=d/2:=by simp [hf]
   exact⟨rfl,_,by rw[e]; exact S⟩
 rintro h ⟨tA,(S:Fs _ _ _ _ _ _ _ _ _)⟩;have e0:cX d m f=(let dB:=(if f then d/700 else d/2)+(if f then d/700 else d/2)/m; let r:=bz dB.toNat dB 0; 36*r.2+36*r.1/(r.1+38)):=rfl;have h0:0<=(if f then d/700 else d/2):=by split<;>exact Int.ediv_nonneg hd (by decide)
 try dsimp +zetaDelta only at S
 generalize (if f then d/700 else d/2)=dA at S e0 h0;refine cT (bl (x := "delta") (y := "steps") ?_);ext;refine ag3 (fun Z=>?_) (ba9 hm) (na (Int.le_of_lt hm) (Int.lt_trans hm' (by decide)));rw[bT (Int.le_of_lt hm)];ext;refine bD S ar.handled (S.own _ (.head _)) rfl fun h S=>⟨_,_,rfl,?_⟩;ext;have h1:0<=dA+dA/m:=Int.add_nonneg h0 (Int.ediv_nonneg h0 (bm3 hm));have S2:=S.drop;clear S
 try dsimp +zetaDelta only at S2
 generalize dA+dA/m=dB at S2 e0 h1;refine aa2 (fun n h=>dU fun(a k:Int) (t1 t2:Tok) (l:ac)=>bK (S2.like [some (.int a t1),some (.int m u),some (.bool f),some (.int (36*k) t2)] l h) (0<=a) (n=a.toNat) (bz a.toNat a k=bz dB.toNat dB 0)) dB.toNat ⟨dB,0,_,_,_,S2,h1,rfl,rfl⟩ ?_;rintro _ _ n h ⟨a,k,t1,t2,l,(S:Fs _ _ _ _ _ _ _ _ _),ha,rfl,hp⟩;ext;refine BB.dec (fun h2=>?_) (fun h2=>?_)
 ·refine cT (bl (x := "delta") (y := "steps") ?_);ext;refine bD S ar.handled (S.own _ (.head _)) rfl fun h S=>⟨_,_,rfl,?_⟩;ext
  try dsimp +zetaDelta only at S
  rw[bT (by decide),show 36*k+36=36*(k+1) by exact b43] at S;rw[ao7 h2] at hp;exact⟨(a/35).toNat,by exact z18 h2,a/35,k+1,_,_,_,S,by exact z13 h2,rfl,hp⟩
 ·rw[aa3 h2] at hp;ext;refine ag3 (fun Z=>?_) (b94 ha) (na (Int.add_nonneg ha (by decide)) (Int.lt_of_le_of_lt (Int.add_le_add_right (Int.not_lt.mp h2) 38) (by decide)));rw[bT (b93 ha)];ext;have e2:cX d m f=36*k+36*a/(a+38):=by
   rw[e0]
   show 36*(bz dB.toNat dB 0).2+36*(bz dB.toNat dB 0).1/((bz dB.toNat dB 0).1+38)=_
   rw[<- hp]
  exact⟨S.kept hL,_,by rw[e2]⟩
noncomputable def cM(v:Int):Int:=if v≥26 then 48+v-26 else 97+v
theorem ce5{h:Heap}(G:ak c h)(v:Int)(t:Tok):Ct c 1 (.ref 288) [.int v t,.bool false] h (fun r Z=>∃ t,r=.int (cM v) t):=by
 refine al G (by k_is) (by k_is) (binds:=[("value", .int v t),("is_capital", .bool false)]) (fun s X=>bZ X rfl (by k_is) rfl (by walk_at"u")) (rest:=[]) (ns:=["value", "is_capital"]) rfl (vs:=[some (.int v t),some (.bool false)]) rfl (gs:=["LETTERS", "NOUGHT", "CAPITAL_A", "SMALL_A"]) (by decide +kernel) ?_;intro A L h ar hL Z Z S Z Z;ext;refine BB.dec (fun h1=>?_) (fun h1=>?_)
 ·ext;exact⟨S.kept hL,_,by rw[cM,if_pos h1]⟩
 ·ext;refine aJ ?_;ext;exact⟨S.kept hL,_,by rw[cM,if_neg h1]⟩
theorem b05{h:Heap}(G:ak c h)(v:Int)(t:Tok):Ct c 1 (.ref 288) [.int v t] h (fun r Z=>∃ t,r=.int (cM v) t):=by
 refine al G (by k_is) (by k_is) (binds:=[("value", .int v t),("is_capital", .bool false)]) (fun s X=>bZ X rfl (by k_is) rfl (by walk_at"u")) (rest:=[]) (ns:=["value", "is_capital"]) rfl (vs:=[some (.int v t),some (.bool false)]) rfl (gs:=["LETTERS", "NOUGHT", "CAPITAL_A", "SMALL_A"]) (by decide +kernel) ?_;intro A L h ar hL Z Z S Z Z;ext;refine BB.dec (fun h1=>?_) (fun h1=>?_)
 ·ext;exact⟨S.kept hL,_,by rw[cM,if_pos h1]⟩
 ·ext;refine aJ ?_;ext;exact⟨S.kept hL,_,by rw[cM,if_neg h1]⟩
noncomputable def cR:Nat->Int->Int->Int->List Int
 | 0,_,_,_=>[]
 | k+1,v,b,p=>if v<ao p b then[cM v] else cM (ao p b+(v-ao p b) % (36-ao p b))::cR k ((v-ao p b)/(36-ao p b)) b (p+1)
noncomputable def bL(v b:Int):List Int:=cR (v.toNat+1) v b 1
theorem ac5(p b:Int):1<=ao p b/\ao p b<=26:=by
 unfold ao
 split
 ·exact cp6
 ·rename_i h1
  split
  ·exact⟨by decide,by decide⟩
  ·rename_i h2
   exact⟨Int.not_lt.mp h1,Int.not_lt.mp h2⟩
theorem aa7{v l:Int}(h1:1<=l)(h2:l<=26)(h:¬ v<l):0<=(v-l)/(36-l)/\(v-l)/(36-l)<v:=by
 have h3:0<=(v-l)/(36-l):=Int.ediv_nonneg (b45 h) (ct9 h2);have h4:(v-l)/(36-l)<=v-l:=Int.ediv_le_self _ (b45 h);exact di0 h1 h3 h4
theorem bx7(k:Nat):∀ (j:Nat) (v b p:Int),0<=v->v.toNat<k->v.toNat<j->cR k v b p=cR j v b p:=by
 induction k with
 | zero=>intro j v b p Z h Z; exact absurd h (Nat.not_lt_zero _)
 | succ k ih =>
  intro j v b p h0 h g
  cases j with
  | zero=>exact absurd g (Nat.not_lt_zero _)
  | succ j =>
   have ht:=ac5 p b
   show(if _ then _ else _)=(if _ then _ else _)
   split
   ·rfl
   ·rename_i hv
    have l:=aa7 ht.1 ht.2 hv;rw[ih j _ b _ l.1 (z45 h l) (z45 g l)]
theorem bh6(k:Nat)(v b p:Int)(h0:0<=v)(h:v.toNat<k):cR k v b p=cR (v.toNat+1) v b p:=bx7 k _ v b p h0 h (Nat.lt_succ_self _)
theorem ak8{v b p:Int}(hv:¬ v<ao p b):cR (v.toNat+1) v b p=cM (ao p b+(v-ao p b) % (36-ao p b))::cR (((v-ao p b)/(36-ao p b)).toNat+1) ((v-ao p b)/(36-ao p b)) b (p+1):=by
 have ht:=ac5 p b;have l:=aa7 ht.1 ht.2 hv
 show(if _ then _ else _)=_
 rw[if_neg hv,bh6 v.toNat _ b _ l.1 (z1 l)]
theorem ak9{v b p:Int}(hv:v<ao p b):cR (v.toNat+1) v b p=[cM v]:=by
 show(if _ then _ else _)=_
 rw[if_pos hv]
theorem ap9{a b:Int}(h:0<=b):Int.fmod a b=a % b:=Int.fmod_eq_emod_of_nonneg a h
theorem IntsAre.snoc{vs:List Value}{xs:List Int}(h:IntsAre vs xs)(x:Int)(t:Tok):IntsAre (vs++[.int x t]) (xs++[x]):=h.append (.cons x t .nil)
theorem b03{h:Heap}(G:ak c h){x:Addr}(hi:bt (Hs h) x 276 bR)(v b:Int)(t u:Tok)(hv:0<=v)(hv':v<2 ^ 40) :
  Ct c 2 (.ref 303) [.int v t,.int b u,.ref x,.bool false] h (fun r h'=>∃ a,r=.ref a/\LI (Nw h h') a (bL v b)):=by
 have hi:=hi.mono Hs.in;refine al G (by k_is) (by k_is) (binds:=[("value", .int v t),("bias", .int b u),("numbers", .ref x),("is_capital", .bool false)]) (fun s X=>bZ X rfl (by k_is) rfl (by walk_at"u")) (rest:=["found", "place", "least", "span"]) (ns:=["value", "bias", "numbers", "is_capital", "found", "place", "least", "span"]) rfl (vs:=[some (.int v t),some (.int b u),some (.ref x),some (.bool false),none,none,none,none]) rfl (gs:=["puny_figure"]) (by decide +kernel) ?_;intro A L h ar hL Z Z S Z Z;have hnum:=as5 c.w.params;refine cT (bl (x := "found") (y := "place") ?_);ext;refine ad S (by decide) ?_;intro a h ha Z Z S;ext;refine bD S ar.handled (S.own _ (.head _)) rfl fun h S=>⟨_,_,rfl,?_⟩;have S:=S.drop;ext;have hLa:_<=a:=jr hL (jr (jI ‹Fs _ _ _ _ _ _ _ [] _›.fr.ns.lt) ha);refine aa2 (fun n h=>e6 fun(w p:Int) (t1 t2:Tok) (its:List Value) (k:Nat) (xs:List Int) (o1 o2:Option Value)=>eF (S.like [some (.int w t1),some (.int b u),some (.ref x),some (.bool false),some (.ref a),some (.int p t2),o1,o2] [(a,listOf its.toArray k)] h) (IntsAre its xs) (0<=w) (n=w.toNat) (xs++cR (w.toNat+1) w b p=bL v b) (xs.length<=40) (w.toNat<2 ^ (40-xs.length))) v.toNat ⟨v,1,t,_,[],0,[],none,none,S,.nil,hv,rfl,rfl,by simp,by simp; exact b92 hv'⟩ ?_;rintro _ _ n h ⟨w,p,t1,t2,its,k,xs,o1,o2,(S:Fs _ _ _ _ _ _ _ _ _),hx,hw,rfl,hp,hlen,hsz⟩;have hil:=hx.length;have ht:=ac5 p b;ext;refine bx S hi hnum.1 (by decide +kernel) ?_;ext;refine ch S (at5 S.good (hi.mono S.hs) _ _ _ _) ar fun tk h S Z=>?_;ext;refine BB.dec (fun h1=>?_) (fun h1=>?_)
 ·ext;refine ch S (ce5 S.good _ _) ar fun tk h S Z=>?_;ext;refine aj S .head (cv3 hlen hil) ?_;intro Z h S;ext;refine⟨S.kept hL,a,rfl,its++[.int (cM w) tk],_,⟨S.own _ (.head _),hLa⟩,?_⟩;rw[<- hp,ak9 h1];exact IntsAre.snoc hx _ _
 ·have hle:=aa7 ht.1 ht.2 h1;have hw2:(w-ao p b)/(36-ao p b)<=w/2:=by
   have:(w-ao p b)/(36-ao p b)<=(w-ao p b)/2:=by
    rw[Int.le_ediv_iff_mul_le (by decide)];have:=Int.ediv_mul_le (w-ao p b) (b:=36-ao p b) (z8 ht);have h5:0<=(w-ao p b)/(36-ao p b):=hle.1;have h6:=Int.mul_le_mul_of_nonneg_left (show(2:Int)<=36-ao p b by exact z66 ht) h5;exact z10 this h6
   exact z23 ht this
  have hl40:xs.length+1<=40:=by
   rcases Nat.lt_or_ge xs.length 40 with q|q
   ·exact q
   ·have:40-xs.length=0:=by exact z50 q
    rw[this] at hsz;exact z21 hsz ht h1
  ext;refine am S hi (bh (by decide +kernel)) bu (v:=.int 36 573) d8 rfl ?_;ext;refine a15 (fun Z=>?_) (z8 ht);rw[ap9 (z58 ht)];ext;refine ch S (b05 S.good _ _) ar fun tk h S Z=>?_;ext;refine aj S .head (b91 hil hl40) ?_;intro Z h S;ext;refine ag3 (fun Z=>?_) (z8 ht) (n36 ht);rw[bT (z58 ht)];ext;rw[ak8 h1] at hp;refine⟨_,?_,_,p+1,_,_,its++[.int (cM (ao p b+(w-ao p b) % (36-ao p b))) tk],_,xs++[cM (ao p b+(w-ao p b) % (36-ao p b))],_,_,S,IntsAre.snoc hx _ _,hle.1,rfl,?_,?_,?_⟩
  ·exact z1 hle
  ·rw[<- hp]; simp
  ·simp; exact b70 hl40
  ·have:2 ^ (40-xs.length)=2*2 ^ (40-(xs.length+1)):=by rw[<- Nat.pow_succ']; congr 1; exact z2 hl40
   simp only[jl,jA,jO,Nat.zero_add];exact z3 hsz hw2 this
theorem an7(v:Int):(if v<26 then 97+v else 22+v)=cM v:=by
 by_cases h:v<26
 ·rw[if_pos h,cM,if_neg (Int.not_le.mpr h)]
 ·rw[if_neg h,cM,if_pos (Int.not_lt.mp h)];exact(Int.add_comm 22 v).trans ((Int.add_sub_assoc v 48 26).symm.trans (congrArg (·-26) (Int.add_comm v 48)))
theorem bw1(p b:Int):min 26 (max 1 (36*p-b))=ao p b:=by
 unfold ao
 by_cases h1:36*p-b<1
 ·rw[if_pos h1,Int.max_eq_left (Int.le_of_lt h1)]; rfl
 ·rw[if_neg h1,Int.max_eq_right (Int.not_lt.mp h1)]
  by_cases h2:36*p-b>26
  ·rw[if_pos h2,Int.min_eq_left (Int.le_of_lt h2)]
  ·rw[if_neg h2,Int.min_eq_right (Int.not_lt.mp h2)]
theorem a06{h:Heap}(G:ak c h)(v b:Int)(t u:Tok)(hv:0<=v)(hv':v<2 ^ 40) :
  Ct c 1 (.ref 644) [.int v t,.int b u] h (fun r h'=>∃ a,r=.ref a/\LI (Nw h h') a (bL v b)):=by
 refine al G (by k_is) (by k_is) (binds:=[("number", .int v t),("bias", .int b u)]) (fun s X=>jx rfl) (rest:=["found", "place", "bound", "figure"]) (ns:=["number", "bias", "found", "place", "bound", "figure"]) rfl (vs:=[some (.int v t),some (.int b u),none,none,none,none]) rfl (gs:=["min", "max"]) (by decide +kernel) ?_;intro A L h ar hL Z Z S Z Z;refine cT (bl (x := "found") (y := "place") ?_);ext;refine ad S (by decide) ?_;intro a h ha Z Z S;have hLa:=Fs.new ‹Fs _ _ _ _ _ _ _ [] _› hL ha;ext;refine bD S ar.handled (S.own _ (.head _)) rfl fun h S=>⟨_,_,rfl,?_⟩;have S:=S.drop;ext;refine aa2 (fun n h=>e6 fun(w p:Int) (t1 t2:Tok) (its:List Value) (k:Nat) (xs:List Int) (o1 o2:Option Value)=>eF (S.like [some (.int w t1),some (.int b u),some (.ref a),some (.int (36*p) t2),o1,o2] [(a,listOf its.toArray k)] h) (IntsAre its xs) (0<=w) (n=w.toNat) (xs++cR (w.toNat+1) w b p=bL v b) (xs.length<=40) (w.toNat<2 ^ (40-xs.length))) v.toNat ⟨v,1,t,_,[],0,[],none,none,(by rw[show(36:Int)*1=36 from rfl]; exact S),.nil,hv,rfl,rfl,by simp,by simp; exact b92 hv'⟩ ?_;rintro _ _ n h ⟨w,p,t1,t2,its,k,xs,o1,o2,(S:Fs _ _ _ _ _ _ _ _ _),hx,hw,rfl,hp,hlen,hsz⟩;have hil:=hx.length;have ht:=ac5 p b;ext;refine bc8 S ar.handled fun Z Z S=>?_;ext;refine bu6 S ar.handled fun Z Z S=>?_;rw[bw1];ext;refine BB.dec (fun h1=>?_) (fun h1=>?_)
 ·ext;refine c9 (fun r h=>(∃ t,r=.int (cM w) t)/\S.now h) ?_ ?_
  ·walk_at"s";refine aJ ?_;ext;refine BB.dec (fun h2=>?_) (fun h2=>?_)
   ·ext;exact⟨⟨_,by rw[<- an7,if_pos h2]⟩,rfl⟩
   ·ext;exact⟨⟨_,by rw[<- an7,if_neg h2]⟩,rfl⟩
  rintro r Z ⟨⟨tk,rfl⟩,rfl⟩;ext;refine ad S (bd (by simp)) ?_;intro b0 h Z Z Z S;refine bj S (S.get1 (.tail _ (.head _))) (S.get1 (.head _)) (by simp; exact cv2 hlen hil) ?_;intro r h hr Z S1;ext;refine⟨S1.kept hL,r,rfl,its++[.int (cM w) tk],_,⟨S1.get1 (.head _),S.new hL hr⟩,?_⟩
  ·rw[<- hp,ak9 h1];exact IntsAre.snoc hx _ _
 ·have hle:=aa7 ht.1 ht.2 h1;have hw2:(w-ao p b)/(36-ao p b)<=w/2:=by
   have:(w-ao p b)/(36-ao p b)<=(w-ao p b)/2:=by
    rw[Int.le_ediv_iff_mul_le (by decide)];have:=Int.ediv_mul_le (w-ao p b) (b:=36-ao p b) (z8 ht);have h5:0<=(w-ao p b)/(36-ao p b):=hle.1;have h6:=Int.mul_le_mul_of_nonneg_left (show(2:Int)<=36-ao p b by exact z66 ht) h5;exact z10 this h6
   exact z23 ht this
  have hl40:xs.length+1<=40:=by
   rcases Nat.lt_or_ge xs.length 40 with q|q
   ·exact q
   ·have:40-xs.length=0:=by exact z50 q
    rw[this] at hsz;exact z21 hsz ht h1
  ext;refine a15 (fun Z=>?_) (z8 ht);rw[ap9 (z58 ht)];ext
  try dsimp +zetaDelta only at S
  generalize hf:ao p b+(w-ao p b) % (36-ao p b)=f at S;refine c9 (fun r h=>(∃ t,r=.int (cM f) t)/\S.now h) ?_ ?_
  ·walk_at"s";refine aJ ?_;ext;refine BB.dec (fun h2=>?_) (fun h2=>?_)
   ·ext;exact⟨⟨_,by rw[<- an7,if_pos h2]⟩,rfl⟩
   ·ext;exact⟨⟨_,by rw[<- an7,if_neg h2]⟩,rfl⟩
  rintro r Z ⟨⟨tk,rfl⟩,rfl⟩;ext;refine aj S .head (b91 hil hl40) ?_;intro Z h S;ext;refine bl (x := "number") (y := "place") ?_;ext;refine ag3 (fun Z=>?_) (z8 ht) (n36 ht);rw[bT (z58 ht)];ext;refine bD S ar.handled (S.own _ (.head _)) rfl fun h S=>⟨_,_,rfl,?_⟩;have S:=S.drop;ext;rw[ak8 h1,hf] at hp
  try dsimp +zetaDelta only at S
  rw[show 36*p+36=36*(p+1) by exact b43] at S;refine⟨_,?_,_,p+1,_,_,its++[.int (cM f) tk],_,xs++[cM f],_,_,S,IntsAre.snoc hx _ _,hle.1,rfl,?_,?_,?_⟩
  ·exact z1 hle
  ·rw[<- hp]; simp
  ·simp; exact b70 hl40
  ·have:2 ^ (40-xs.length)=2*2 ^ (40-(xs.length+1)):=by rw[<- Nat.pow_succ']; congr 1; exact z2 hl40
   simp only[jl,jA,jO,Nat.zero_add];exact z3 hsz hw2 this
noncomputable def ah5(n:Int):Bool:=decide (0<=n)&&decide (n<=1114111)
noncomputable def an4(n:Int):Bool:=decide (55296<=n)&&decide (n<=57343)
theorem be8{h:Heap}(G:ak c h)(n:Int)(t:Tok):Ct c 1 (.ref 73) [.int n t] h (fun v Z=>v=.bool (ah5 n)):=by
 refine al G (by k_is) (by k_is) (binds:=[("number", .int n t)]) (fun s X=>jx rfl) (rest:=[]) (ns:=["number"]) rfl (vs:=[some (.int n t)]) rfl (gs:=["MAX_CODE"]) (by decide +kernel) ?_;intro A L h ar hL Z Z S Z Z;ext;refine BB.dec (fun h1=>?_) (fun h1=>?_)
 ·ext;exact⟨S.kept hL,by rw[ah5,jz h1,Bool.true_and]⟩
 ·ext;exact⟨S.kept hL,by rw[ah5,jy h1,Bool.false_and]⟩
theorem bk6{h:Heap}(G:ak c h)(n:Int)(t:Tok):Ct c 1 (.ref 80) [.int n t] h (fun v Z=>v=.bool (an4 n)):=by
 refine al G (by k_is) (by k_is) (binds:=[("code", .int n t)]) (fun s X=>jx rfl) (rest:=[]) (ns:=["code"]) rfl (vs:=[some (.int n t)]) rfl (gs:=["HIGH_FIRST", "LOW_LAST"]) (by decide +kernel) ?_;intro A L h ar hL Z Z S Z Z;ext;refine BB.dec (fun h1=>?_) (fun h1=>?_)
 ·ext;exact⟨S.kept hL,by rw[an4,jz h1,Bool.true_and]⟩
 ·ext;exact⟨S.kept hL,by rw[an4,jy h1,Bool.false_and]⟩
noncomputable def bG(n:Int):Bool:=ah5 n&&!an4 n
theorem ag0{h:Heap}(G:ak c h)(n:Int)(t:Tok):Ct c 2 (.ref 87) [.int n t] h (fun v Z=>v=.bool (bG n)):=by
 refine al G (by k_is) (by k_is) (binds:=[("number", .int n t)]) (fun s X=>jx rfl) (rest:=[]) (ns:=["number"]) rfl (vs:=[some (.int n t)]) rfl (gs:=["is_code", "is_surrogate"]) (by decide +kernel) ?_;intro A L h ar hL Z Z S Z Z;ext;refine bq S (be8 S.good _ _) ar fun h S Z=>?_;ext;refine BB.mk (fun h1=>?_) (fun h1=>?_)
 ·ext;refine bq S (bk6 S.good _ _) ar fun h S Z=>?_;ext;exact⟨S.kept hL,by rw[bG,h1,Bool.true_and]⟩
 ·ext;exact⟨S.kept hL,by rw[bG,h1,Bool.false_and]⟩
theorem aq6{h:Heap}(G:ak c h){x:Addr}(hi:bt (Hs h) x 276 bR)(n:Int)(t:Tok):Ct c 1 (.ref 317) [.int n t,.ref x] h (fun v Z=>v=.bool (decide (n<128))):=by
 have hi:=hi.mono Hs.in;refine al G (by k_is) (by k_is) (binds:=[("code", .int n t),("numbers", .ref x)]) (fun s X=>jx rfl) (rest:=[]) (ns:=["code", "numbers"]) rfl (vs:=[some (.int n t),some (.ref x)]) rfl (gs:=[]) (by decide +kernel) ?_;intro A L h ar hL Z Z S Z Z;ext;refine am S hi (bh (by decide +kernel)) bu (v:=.int 128 579) nA6 rfl ?_;ext;exact⟨S.kept hL,rfl⟩
theorem am4{h:Heap}(G:ak c h)(n:Int)(t:Tok):Ct c 1 (.ref 358) [.int n t] h (fun v Z=>∃ b,v=.bool b):=by
 refine al G (by k_is) (by k_is) (binds:=[("octet", .int n t)]) (fun s X=>jx rfl) (rest:=[]) (ns:=["octet"]) rfl (vs:=[some (.int n t)]) rfl (gs:=["CAPITAL_A", "LETTERS"]) (by decide +kernel) ?_;intro A L h ar hL Z Z S Z Z;ext;refine BB.dec (fun h1=>?_) (fun h1=>?_)
 ·ext;exact⟨S.kept hL,_,rfl⟩
 ·ext;exact⟨S.kept hL,_,rfl⟩
theorem bt0{h:Heap}(G:ak c h)(n:Int)(t:Tok):Ct c 1 (.ref 336) [.int n t,.none] h (fun v Z=>v=.int n t):=by
 refine al G (by k_is) (by k_is) (binds:=[("code", .int n t),("is_capital", .none)]) (fun s X=>jx rfl) (rest:=[]) (ns:=["code", "is_capital"]) rfl (vs:=[some (.int n t),some .none]) rfl (gs:=["SMALL_A", "CASE_BIT", "LETTERS"]) (by decide +kernel) ?_;intro A L h ar hL Z Z S Z Z;ext;exact⟨S.kept hL,rfl⟩
noncomputable def dO(n:Int):Option Int:=if 97<=n/\n<123 then some (n-97) else if 65<=n/\n<91 then some (n-65) else if 48<=n/\n<58 then some (n-48+26) else none
def dF(n:Int)(v:Value):Prop:=match dO n with|some k=>∃ t,v=.int k t|none=>v=.none
theorem dF.some{n k:Int}{t:Tok}(e:dO n=some k):dF n (.int k t):=by unfold dF; rw[e]; exact⟨t,rfl⟩
theorem dF.none{n:Int}(e:dO n=none):dF n .none:=by unfold dF; rw[e]
theorem at6{h:Heap}(G:ak c h)(n:Int)(t:Tok):Ct c 1 (.ref 295) [.int n t] h (fun v Z=>dF n v):=by
 refine al G (by k_is) (by k_is) (binds:=[("octet", .int n t)]) (fun s X=>jx rfl) (rest:=[]) (ns:=["octet"]) rfl (vs:=[some (.int n t)]) rfl (gs:=["SMALL_A", "LETTERS", "CAPITAL_A", "NOUGHT", "FIGURES"]) (by decide +kernel) ?_;intro A L h ar hL Z Z S Z Z;ext;refine BB.dec (fun h1=>?_) (fun h1=>?_)
 ·ext;refine BB.dec (fun h2=>?_) (fun h2=>?_)
  ·ext;exact⟨S.kept hL,.some (by rw[dO,if_pos ⟨h1,by exact cx3 h2⟩])⟩
  ·ext;refine BB.dec (fun h3=>?_) (fun h3=>?_)
   ·ext;refine BB.neg (jy (cz9 h2)) ?_;ext;refine BB.pos (jz (cy6 h2)) ?_;ext;refine BB.neg (jy (c05 h2)) ?_;ext;exact⟨S.kept hL,.none (by rw[dO,if_neg (c55 h2),if_neg (c73 h2),if_neg (c72 h2)])⟩
   ·lia
 ·ext;refine BB.dec (fun h3=>?_) (fun h3=>?_)
  ·ext;refine BB.dec (fun h4=>?_) (fun h4=>?_)
   ·ext;exact⟨S.kept hL,.some (by rw[dO,if_neg (c35 h4),if_pos ⟨h3,by exact cx2 h4⟩])⟩
   ·ext;refine BB.pos (jz (cy5 h4)) ?_;ext;refine BB.neg (jy (c04 h4)) ?_;ext;exact⟨S.kept hL,.none (by rw[dO,if_neg (c14 h1),if_neg (c54 h4),if_neg (c71 h4)])⟩
  ·ext;refine BB.dec (fun h4=>?_) (fun h4=>?_)
   ·ext;refine BB.dec (fun h5=>?_) (fun h5=>?_)
    ·ext;exact⟨S.kept hL,.some (by rw[dO,if_neg (c34 h5),if_neg (c33 h5),if_pos ⟨h4,by exact cx1 h5⟩])⟩
    ·ext;exact⟨S.kept hL,.none (by rw[dO,if_neg (c23 h3),if_neg (c13 h3),if_neg (c53 h5)])⟩
   ·ext;exact⟨S.kept hL,.none (by rw[dO,if_neg (c22 h4),if_neg (c21 h4),if_neg (c12 h4)])⟩
theorem az4{h:Heap}(G:ak c h)(n:Int)(t:Tok)(hn:n<44032):Ct c 2 (.ref 115) [.int n t] h (fun v Z=>v=.none):=by
 refine al G (by k_is) (by k_is) (binds:=[("code", .int n t)]) (fun s X=>jx rfl) (rest:=["lead", "vowel", "tail"]) (ns:=["code", "lead", "vowel", "tail"]) rfl (vs:=[some (.int n t),none,none,none]) rfl (gs:=["is_hangul_syllable", "hangul_numbers", "LEAD_FIRST", "VOWEL_FIRST", "TAIL_NONE"]) (by decide +kernel) ?_;intro A L h ar hL Z Z S Z Z;ext;refine bq S (bf0 S.good _ _) ar fun h S Z=>?_;ext;refine BB.neg (by rw[jy (b67 hn),Bool.false_and]) ?_;ext;exact⟨S.kept hL,rfl⟩
theorem bs6{h:Heap}(G:ak c h)(x y:Int)(t u:Tok)(hx:x<4352\/4371<=x)(hx':x<44032):Ct c 2 (.ref 122) [.int x t,.int y u] h (fun v Z=>v=.none):=by
 refine al G (by k_is) (by k_is) (binds:=[("one", .int x t),("other", .int y u)]) (fun s X=>jx rfl) (rest:=["lead", "vowel"]) (ns:=["one", "other", "lead", "vowel"]) rfl (vs:=[some (.int x t),some (.int y u),none,none]) rfl (gs:=["LEAD_FIRST", "VOWEL_FIRST", "LEADS", "VOWELS", "SYLLABLE_FIRST", "TAILS", "TAIL_NONE", "is_hangul_syllable"]) (by decide +kernel) ?_;intro A L h ar hL Z Z S Z Z;ext;refine BB.dec (fun h1=>?_) (fun h1=>?_)
 ·ext;refine BB.neg (jy (dd5 hx h1)) ?_;ext;refine bq S (bf0 S.good _ _) ar fun h S Z=>?_;ext;refine BB.neg (by rw[jy (b67 hx'),Bool.false_and]) ?_;ext;exact⟨S.kept hL,rfl⟩
 ·ext;refine bq S (bf0 S.good _ _) ar fun h S Z=>?_;ext;refine BB.neg (by rw[jy (c01 h1),Bool.false_and]) ?_;ext;exact⟨S.kept hL,rfl⟩
noncomputable def al0(n:Int):Bool:=(decide (97<=n)&&decide (n<=122)) || (decide (48<=n)&&decide (n<=57)) || decide (n=45)
theorem bs0{h:Heap}(G:ak c h)(n:Int)(t:Tok):Ct c 1 (.ref 407) [.int n t] h (fun v Z=>v=.bool (al0 n)):=by
 refine al G (by k_is) (by k_is) (binds:=[("code", .int n t)]) (fun s X=>jx rfl) (rest:=[]) (ns:=["code"]) rfl (vs:=[some (.int n t)]) rfl (gs:=["HYPHEN_idna"]) (by decide +kernel) ?_;intro A L h ar hL Z Z S Z Z;refine cT (bp0 (cb8 (c9 (fun v h=>v=.bool (decide (97<=n)&&decide (n<=122))/\S.now h) ?_ ?_)))
 ·ext;refine BB.dec (fun h1=>?_) (fun h1=>?_)
  ·ext;exact⟨by rw[jz h1,Bool.true_and],rfl⟩
  ·ext;exact⟨by rw[jy h1,Bool.false_and],rfl⟩
 rintro Z Z ⟨rfl,rfl⟩;ext;refine BB.mk (fun h1=>?_) (fun h1=>?_)
 ·ext;exact⟨S.kept hL,by rw[al0,h1,Bool.true_or,Bool.true_or]⟩
 refine cb8 (c9 (fun v h=>v=.bool (decide (48<=n)&&decide (n<=57))/\S.now h) ?_ ?_)
 ·ext;refine BB.dec (fun h1=>?_) (fun h1=>?_)
  ·ext;exact⟨by rw[jz h1,Bool.true_and],rfl⟩
  ·ext;exact⟨by rw[jy h1,Bool.false_and],rfl⟩
 rintro Z Z ⟨rfl,rfl⟩;ext;refine BB.mk (fun h2=>?_) (fun h2=>?_)
 ·ext;exact⟨S.kept hL,by rw[al0,h1,h2,Bool.false_or,Bool.true_or]⟩
 ext;exact⟨S.kept hL,by rw[al0,h1,h2,Bool.false_or,Bool.false_or]⟩
theorem be1(xs:List PyData):∀ (ys:List PyData),xs.length=ys.length->(List.zipWith PyData.eqv xs ys).all id=PyData.eqvAll xs ys:=by
 induction xs with
 | nil =>
  intro ys h
  cases ys with
  | nil=>rw[PyData.eqvAll]; rfl
  | cons _ _=>exact Nat.noConfusion h
 | cons x xs ih =>
  intro ys h
  cases ys with
  | nil=>exact Nat.noConfusion h
  | cons y ys=>rw[PyData.eqvAll,<- ih ys (Nat.succ.inj h)]; rfl
theorem be2(xs:List PyData):∀ (ys:List PyData),xs.length≠ys.length->PyData.eqvAll xs ys=false:=by
 induction xs with
 | nil =>
  intro ys h
  cases ys with
  | nil=>exact absurd rfl h
  | cons _ _=>rw[PyData.eqvAll]
 | cons x xs ih =>
  intro ys h
  cases ys with
  | nil=>rw[PyData.eqvAll]
  | cons y ys=>rw[PyData.eqvAll,ih ys fun e=>h (congrArg Nat.succ e),Bool.and_false]
theorem a95{i m:Nat}(h:i<m):seqIndex? (i:Int) m=some i:=by
 unfold seqIndex?;simp only[if_neg (Int.not_lt.mpr (Int.natCast_nonneg i))]
 simp [h]
theorem VI.elim{R:RP}{P:Value->PyData->Prop}{v:Value}{d:PyData}(x:VI R v d)(c1:P .none .none)(c2:∀ n t,P (.int n t) (.int n))(c3:∀ x t,PyData.strOk x=true->P (.str x t) (.str x))(c4:∀ {a vs n ds},R a { cls:=.type "tuple", data:=.seq (List.toArray vs) n }->vs.length<=1000->aw R vs ds->P (.ref a) (.tuple ds)):P v d :=
 VI.rec (motive_1:=fun v d Z=>P v d) (motive_2:=fun Z Z Z=>True) c1 c2 c3 (fun e z r Z=>c4 e z r) trivial (fun Z Z Z Z=>trivial) x
def cf0(R:RP)(v:Value)(d:PyData):Prop:=cP fun a xs n ds=>eG (v=.ref a) (d=.tuple ds) (R a { cls:=.type "tuple", data:=.seq (List.toArray xs) n }) (xs.length<=1000) (aw R xs ds) (d.depth=PyData.depthAll ds+1)
theorem VI.tupI{R:RP}{v:Value}{d:PyData}(x:VI R v d):a50 d=true->cf0 R v d :=
 x.elim (P:=fun v d=>a50 d=true->cf0 R v d) (fun h=>Bool.noConfusion h) (fun Z Z h=>Bool.noConfusion h) (fun Z Z Z h=>Bool.noConfusion h) fun e z r Z=>⟨_,_,_,_,rfl,rfl,e,z,r,by rw[PyData.depth]⟩
theorem bz6{d d':PyData}{xs ys:List PyData}(e:d=.tuple xs)(e':d'=.tuple ys)(h:xs.length=ys.length):(List.zipWith PyData.eqv xs ys).all id=PyData.eqv d d':=by
 rw[be1 _ _ h,e,e']; simp only[PyData.eqv]
theorem bz8{d d':PyData}{xs ys:List PyData}(e:d=.tuple xs)(e':d'=.tuple ys)(h:xs.length≠ys.length):false=PyData.eqv d d':=by
 rw[e,e']; simp only[PyData.eqv]; rw[be2 _ _ h]
theorem aw9:∀ (n:Nat) {h:Heap} (_:ak c h) {v v':Value} {d d':PyData},VI (Hs h) v d->VI (Hs h) v' d'->d.depth<=n->d'.depth<=60->n<=60->Ct c (n+1) (.ref 511) [v,v'] h (fun r Z=>r=.bool (PyData.eqv d d')):=by
 intro n
 induction n using Nat.strongRecOn with
 | _ n ih =>
 intro h G v v' d d' x y hd hd' hn;have x:=x.mono Hs.in;have y:=y.mono Hs.in;refine at2 G (by k_is) (by k_is) (binds:=[("one", v),("other", v')]) (fun s X=>jx rfl) (fun n=>⟨.inr ⟨rfl,rfl⟩,.inr ⟨rfl,rfl⟩,trivial⟩) (by decide +kernel) (ns:=[]) (vs:=[]) (gs:=["isinstance", "tuple", "len", "all", "range", "bool"]) (fun L=>by walk_at"u") (by decide +kernel) ?_;intro A L O cells ar hL hc Z Z S Z Z;obtain⟨o1,o2,rfl,e1,e2⟩:=CellsAre.two (n := "other") (n' := "one") (c:=L+1+1) (c':=L+1) hc;have e1':o1.data=.cell (some v'):=e1;have e2':o2.data=.cell (some v):=e2;clear e1 e2;have S:=S.toFix.toFix;have x:=x.mono (R':=In _ [(L+1,o2),(L+1+1,o1)]) In.nil;have y:=y.mono (R':=In _ [(L+1,o2),(L+1+1,o1)]) In.nil;clear hc;ext;refine bi3 (S.vi x) ?_;ext;refine BB.mk (fun h1=>?_) (fun h1=>?_)
 ·ext;refine bi3 (S.vi y) ?_;ext;refine BB.mk (fun h2=>?_) (fun h2=>?_)
  ·obtain⟨a,xs,n1,ds1,ev,ed,ex,zx,rx,hx⟩:=x.tupI h1;obtain⟨b,ys,n2,ds2,ew,ed',ey,zy,ry,hy⟩:=y.tupI h2;rw[ev] at e2';rw[ew] at e1';rw[hx] at hd;rw[hy] at hd';have lx:=rx.length;have ly:=ry.length;ext;refine as1 (S.hs _ _ ex).1 (z81 zx) fun Z=>?_;ext;refine as1 (S.hs _ _ ey).1 (z81 zy) fun Z=>?_;ext;refine BB.dec (fun h3=>?_) (fun h3=>?_)
   ·ext;refine as1 (S.hs _ _ ex).1 (z81 zx) fun Z=>?_;ext;refine af8 S ?_;intro r t u h Z Z S;refine ad6 ar.handled S (b33) (z9) (co9) (cz1 zx) fun it h S src=>?_;refine bJ (gs':=["range_are_like"]) (ns':=["at"]) (src _ _) (dc8 zx) S (by walk_at"u") (by walk_at"u") (by kernel_rfl) (fun i acc l=>l=[]/\acc=((List.zipWith PyData.eqv ds1 ds2).take i).map Value.bool) ⟨rfl,rfl⟩ ?_ ?_
    ·rintro Z Z C g D i v acc k ov l' h' own sb hi ⟨tv,rfl⟩ ⟨rfl,hacc⟩ hal hov S';obtain⟨u0,rfl⟩:=b9 hov;have g1:g.get? (L+1)=some o2:=sb.fx _ (.head _);have g2:g.get? (L+1+1)=some o1:=sb.fx _ (.tail _ (.head _));have ex':=sb.in (own:=own) _ _ ex;have ey':=sb.in (own:=own) _ _ ey;have hi':i<xs.length:=by exact dh2 hi
     have hj':i<ys.length:=by exact c26 h3 hi'
     have px:=jj hi';have py:=jj hj';obtain⟨d1,p1,q1⟩:=rx.get px;obtain⟨d2,p2,q2⟩:=ry.get py;ext;rename Fs _ _ _ (compEnvC _ _ _ _) _ _ _ _ _=>S';refine bI (S'.hs _ _ ex').1 (b46) (b71 zx hi') (j:=i) (by rw[Int.zero_add]; exact a95 hi') px ?_;ext;refine bI (S'.hs _ _ ey').1 (b46) (b71 zx hi') (j:=i) (by rw[Int.zero_add]; exact a95 (by omega)) py ?_;ext;have b1:=am2 p1;have b2:=am2 p2;refine bq S' (ih (n-1) (dh8 hd) S'.good ((q1.mono sb.in).mono S'.hs) ((q2.mono sb.in).mono S'.hs) (di4 hd b1) (cw8 hd' b2) (dh7 hn)) ar (hd:=by exact dh1 hd) fun h S' Z=>?_;ext;refine⟨_,[],rfl,⟨rfl,?_⟩,S'⟩;ext;rw[hacc,List.take_add_one,List.map_append,List.getElem?_zipWith,p1,p2]
     rfl
    ·rintro D acc k l' h' hD ⟨rfl,hacc⟩ hal S;have hz:(List.zipWith PyData.eqv ds1 ds2).length=xs.length:=by rw[List.length_zipWith]; exact c90 lx ly h3
     rw[List.take_of_length_le (df8 hz)] at hacc;subst hacc;ext;refine cg2 S ar.handled (S.get1 (.head _)) fun h S=>?_;ext;exact⟨S.kept hL,by rw[<- bz6 ed ed' (cs9 lx ly h3)]⟩
   ·rw[jy h3];ext;exact⟨S.kept hL,congrArg _ (bz8 ed ed' (ct8 lx ly h3))⟩
  ·ext;refine bd0 ar (S.vi x) (S.vi y) (b41 hd hn) (b35 hd') ?_;ext;refine BB.mk (fun h3=>?_) (fun h3=>?_)
   ·ext;refine as2 (S.vi x) ?_;ext;refine as2 (S.vi y) ?_;refine bu7 ?_;ext;exact⟨S.kept hL,by rw[h3]; rfl⟩
   ·ext;exact⟨S.kept hL,by rw[h3]⟩
 ·ext;refine bd0 ar (S.vi x) (S.vi y) (b41 hd hn) (b35 hd') ?_;ext;refine BB.mk (fun h3=>?_) (fun h3=>?_)
  ·ext;refine as2 (S.vi x) ?_;ext;refine as2 (S.vi y) ?_;refine bu7 ?_;ext;exact⟨S.kept hL,by rw[h3]; rfl⟩
  ·ext;exact⟨S.kept hL,by rw[h3]⟩
noncomputable def dE(dv:Value)(sa va:Addr):List (Str×Value):=[("default", dv),("starts", .ref sa),("values", .ref va)]
theorem rA0{dv:Value}{sa va:Addr}:(("default", dv):Str×Value)∈dE dv sa va:=.head _
theorem eR{dv:Value}{sa va:Addr}:(("starts", .ref sa):Str×Value)∈dE dv sa va:=.tail _ (.head _)
theorem eQ{dv:Value}{sa va:Addr}:(("values", .ref va):Str×Value)∈dE dv sa va:=.tail _ (.tail _ (.head _))
theorem dI{dv sa va}:((dE dv sa va).map (·.1)).Nodup:=by show(["default", "starts", "values"]:List Str).Nodup; decide +kernel
theorem dj9(P:Params):(["default", "starts", "values"]:List Str).all (dM (Mine.hd.heap_39 P) 554)=true:=by kernel_rfl
theorem c8{name:Str}(h:name∈(["default", "starts", "values"]:List Str)):dM (Mine.hd.heap_39 c.w.params) 554 name=true:=List.all_eq_true.mp (dj9 c.w.params) name h
theorem ar5{name:Str}(h:name∈(["default", "starts", "values"]:List Str)):ax4 (Mine.hd.heap_39 c.w.params) 554 name :=
 ⟨by k_is,by k_is,(af (P:=fun n=>takerIn (Mine.hd.heap_39 c.w.params) 554 n=some none) (by k_is) (af (P:=fun n=>takerIn (Mine.hd.heap_39 c.w.params) 554 n=some none) (by k_is) (af (P:=fun n=>takerIn (Mine.hd.heap_39 c.w.params) 554 n=some none) (by k_is) b7))) name h,by k_is⟩
def bv6(h h':Heap)(x:Addr)(dv:Value):Prop:=Ex8 fun dx es n sa t va n1 n2=>eH (Nw h h' x (instObj 554 dx)) (Nw h h' dx (dictOf es n)) (bN es (dE dv sa va)) (Nw h h' sa (listOf [Value.int 0 t].toArray n1)) (Nw h h' va (listOf [dv].toArray n2))
theorem by7{h:Heap}(G:ak c h)(dv:Value):ah9 c 1 525 554 [dv] h (fun x h'=>bv6 h h' x dv):=by
 intro A x dx O ar hlt hsz K1 hx hdx;refine as7 G ar hlt hsz K1 hx hdx (by k_is) (by k_is) (binds:=[("self", .ref x),("default", dv)])
  (fun s X=>jx rfl) (rest:=[]) (ns:=["self", "default"]) rfl (vs:=[some (.ref x),some dv]) rfl (gs:=[]) (by decide +kernel) ?_
 intro A L h ar hL Z Z S Z Z;ext;refine aE (lf:=fun o'=>[(x,instObj 554 dx),(dx,o')]) S (S.own _ (.head _)) .nil (ar5 (by decide +kernel)) (fun Z=>.tail .head) (by decide) fun es n h E S=>?_;ext;refine ad S (bd (by simp)) ?_;intro sa h h1 Z Z S1;ext;refine aE (lf:=fun o'=>[(sa,_),(x,instObj 554 dx),(dx,o')]) S1 (S1.own _ (.tail _ (.head _))) E (ar5 (by decide +kernel)) (fun Z=>.tail (.tail .head)) (by exact(by decide:1<900)) fun es n h E S2=>?_;ext;refine ad S2 (bd (by simp)) ?_;intro va h h2 Z Z S3;ext;refine aE (lf:=fun o'=>[(va,_),(sa,_),(x,instObj 554 dx),(dx,o')]) S3 (S3.own _ (.tail _ (.tail _ (.head _)))) E (ar5 (by decide +kernel)) (fun Z=>.tail (.tail (.tail .head))) (by have h1:=ap2 "default" dv []; have h2:=ap2 "starts" (Value.ref sa) (ai6 "default" dv []); simp only[jO] at h1; exact c76 h1 h2) fun es n h E S4=>?_;ext;refine⟨rfl,S4.kept hL,dx,es,n,sa,_,va,_,_,⟨S4.own _ (.tail _ (.tail _ (.head _))),jI (ju hsz hlt)⟩,⟨S4.own _ (.tail _ (.tail _ (.tail _ (.head _)))),hsz⟩,E,⟨S4.own _ (.tail _ (.head _)),S.new hL h1⟩,⟨S4.own _ (.head _),S2.new hL h2⟩⟩
def RM(R:RP)(x:Addr)(dv:Value)(st:List Int)(vv:List Value):Prop:=dU fun sa va sv n1 n2=>bK (bt R x 554 (dE dv sa va)) (R sa (listOf sv.toArray n1)) (IntsAre sv st) (R va (listOf vv.toArray n2))
theorem RM.mono{R R':RP}{x:Addr}{dv:Value}{st:List Int}{vv:List Value}(i:RM R x dv st vv)(k:∀ a o,R a o->R' a o):RM R' x dv st vv:=by
 obtain⟨sa,va,sv,n1,n2,a,b,e,d⟩:=i;exact⟨sa,va,sv,n1,n2,a.mono k,k _ _ b,e,k _ _ d⟩
theorem bk2{h:Heap}(G:ak c h){x:Addr}{dv:Value}{st:List Int}{vv:List Value}(i:RM (Hs h) x dv st vv)(code:Int)(t:Tok)(hz:st.length<1000000){v:Value}(h0:0<=cI st code)(hv:vv[(cI st code).toNat]?=some v)(hb:cI st code<2 ^ 60) :
  Ct c 2 (.ref 532) [.ref x,.int code t] h (fun r Z=>r=v):=by
 obtain⟨sa,va,sv,n1,n2,i,es,iv,ev⟩:=i.mono Hs.in;have i':=i.mono (R':=fun a o=>In (h.hide ag) [] a o) (fun Z Z x=>x);refine al G (by k_is) (by k_is) (binds:=[("self", .ref x),("code", .int code t)]) (fun s X=>jx rfl) (rest:=[]) (ns:=["self", "code"]) rfl (vs:=[some (.ref x),some (.int code t)]) rfl (gs:=["place_by_half"]) (by decide +kernel) ?_;intro A L h ar hL Z Z S Z Z;ext;refine am S i (c8 (by decide +kernel)) dI (v:=.ref va) eQ rfl ?_;ext;refine am S i (c8 (by decide +kernel)) dI (v:=.ref sa) eR rfl ?_;ext;refine ch S (a63 S.good ⟨sv,n1,S.hs _ _ es,iv⟩ hz _ _) ar fun tk h S Z=>?_;refine bk (S.hs _ _ ev).1 h0 (c08 hb) hv ?_;ext;exact⟨S.kept hL,rfl⟩
noncomputable def cU(st:List Int)(f:Int):Int:=cI st (f-1)+1
noncomputable def cV(st:List Int)(l:Int):Int:=cI st (l+1)+1
noncomputable def ae2(st:List Int)(vals:List PyData)(l:Int)(d:PyData):Bool:=decide (l<1114111)&&!PyData.eqv (vals.getD (cV st l-1).toNat .none) d
noncomputable def ae3(st:List Int)(vals:List PyData)(f:Int)(d:PyData):Bool:=decide (0<cU st f)&&PyData.eqv (vals.getD (cU st f-1).toNat .none) d
noncomputable def ai5(st:List Int)(vals:List PyData)(f l:Int)(d:PyData):List Int:=if ae2 st vals l d then[f,l+1] else[f]
noncomputable def ai4(st:List Int)(vals:List PyData)(l:Int)(d:PyData):List PyData:=if ae2 st vals l d then[d,vals.getD (cV st l-1).toNat .none] else[d]
noncomputable def ar8(st:List Int)(vals:List PyData)(f l:Int)(d:PyData):List Int:=if ae3 st vals f d then bY (ai5 st vals f l d) (some 1) none else ai5 st vals f l d
noncomputable def ar7(st:List Int)(vals:List PyData)(f l:Int)(d:PyData):List PyData:=if ae3 st vals f d then bY (ai4 st vals l d) (some 1) none else ai4 st vals l d
noncomputable def ap1(st:List Int)(vals:List PyData)(f l:Int)(d:PyData):List Int:=bY st none (some (cU st f))++ar8 st vals f l d++bY st (some (cV st l)) none
noncomputable def ap0(st:List Int)(vals:List PyData)(f l:Int)(d:PyData):List PyData:=bY vals none (some (cU st f))++ar7 st vals f l d++bY vals (some (cV st l)) none
structure cG(st:List Int)(vals:List PyData)(f l:Int)(d:PyData):Prop where
 f0:0<=f
 fl:f<=l
 l1:l<=1114111
 len:st.length=vals.length
 z:st.length<=1000
 lo0:0<=cU st f
 lo1:cU st f<=st.length
 hi0:1<=cV st l
 hi1:cV st l<=st.length
 dv:∀ e∈vals,e.depth<=4
 dd:d.depth<=4
def a19(h h':Heap)(R:RP)(dv:Value)(st:List Int)(vals:List PyData)(es:List DictEntry):Prop :=
 eE fun sa va sv vv n1 n2=>eG (bN es (dE dv sa va)) (Nw h h' sa (listOf sv.toArray n1)) (IntsAre sv st) (Nw h h' va (listOf vv.toArray n2)) (aw R vv vals) (sa≠va)
theorem an6{α:Type}{l:List α}{i:Nat}{d:α}(h:i<l.length):l[i]?=some (l.getD i d):=by
 rw[jk,jj h]; rfl
theorem a43{α:Type}{l:List α}{i:Nat}{d:α}(h:i<l.length):l.getD i d∈l:=List.mem_of_getElem? (an6 h)
end
namespace X9
mutual
def P(h:Heap)(x dx sa va:Addr)(es:List DictEntry)(n n1 n2:Nat)(R:RP)(dv:Value)(sv vv:List Value)(st:List Int)(vals:List PyData)(v:Value)(d:PyData)(f l:Int)(tf tl:Tok):Prop:=∀ (G:ck c [(dx,dictOf es n)] h) (hR:∀ a o,R a o->bo [dx] h a o) (ix:bo [dx] h x (instObj 554 dx)) (ie:bN es (dE dv sa va)) (is:bo [dx] h sa (listOf sv.toArray n1)) (ii:IntsAre sv st) (iv:bo [dx] h va (listOf vv.toArray n2)) (iw:aw R vv vals) (id:VI R v d) (ok:cG st vals f l d),eL c 7 (.ref 539) [.ref x,.int f tf,.int l tl,v] [(dx,dictOf es n)] h (fun r m' h'=>r=.none/\av fun es' n'=>m'=[(dx,dictOf es' n')]/\a19 h h' R dv (ap1 st vals f l d) (ap0 st vals f l d) es')
def Q(w:Heap×Addr×Addr×Addr×Addr×(List DictEntry)×Nat×Nat×Nat×(RP)×Value×(List Value)×(List Value)×(List Int)×(List PyData)×Value×PyData×Int×Int×Tok×Tok):=P w.1 w.2.1 w.2.2.1 w.2.2.2.1 w.2.2.2.2.1 w.2.2.2.2.2.1 w.2.2.2.2.2.2.1 w.2.2.2.2.2.2.2.1 w.2.2.2.2.2.2.2.2.1 w.2.2.2.2.2.2.2.2.2.1 w.2.2.2.2.2.2.2.2.2.2.1 w.2.2.2.2.2.2.2.2.2.2.2.1 w.2.2.2.2.2.2.2.2.2.2.2.2.1 w.2.2.2.2.2.2.2.2.2.2.2.2.2.1 w.2.2.2.2.2.2.2.2.2.2.2.2.2.2.1 w.2.2.2.2.2.2.2.2.2.2.2.2.2.2.2.1 w.2.2.2.2.2.2.2.2.2.2.2.2.2.2.2.2.1 w.2.2.2.2.2.2.2.2.2.2.2.2.2.2.2.2.2.1 w.2.2.2.2.2.2.2.2.2.2.2.2.2.2.2.2.2.2.1 w.2.2.2.2.2.2.2.2.2.2.2.2.2.2.2.2.2.2.2.1 w.2.2.2.2.2.2.2.2.2.2.2.2.2.2.2.2.2.2.2.2
def w:=@Classical.epsilon _ ⟨(default,0,0,0,0,[],0,0,0,fun Z Z=>True,.none,[],[],[],[],.none,.none,0,0,default,default)⟩ fun w=>¬ Q w
def h:=w.1
def x:=w.2.1
def dx:=w.2.2.1
def sa:=w.2.2.2.1
def va:=w.2.2.2.2.1
def es:=w.2.2.2.2.2.1
def n:=w.2.2.2.2.2.2.1
def n1:=w.2.2.2.2.2.2.2.1
def n2:=w.2.2.2.2.2.2.2.2.1
def R:=w.2.2.2.2.2.2.2.2.2.1
def dv:=w.2.2.2.2.2.2.2.2.2.2.1
def sv:=w.2.2.2.2.2.2.2.2.2.2.2.1
def vv:=w.2.2.2.2.2.2.2.2.2.2.2.2.1
def st:=w.2.2.2.2.2.2.2.2.2.2.2.2.2.1
def vals:=w.2.2.2.2.2.2.2.2.2.2.2.2.2.2.1
def v:=w.2.2.2.2.2.2.2.2.2.2.2.2.2.2.2.1
def d:=w.2.2.2.2.2.2.2.2.2.2.2.2.2.2.2.2.1
def f:=w.2.2.2.2.2.2.2.2.2.2.2.2.2.2.2.2.2.1
def l:=w.2.2.2.2.2.2.2.2.2.2.2.2.2.2.2.2.2.2.1
def tf:=w.2.2.2.2.2.2.2.2.2.2.2.2.2.2.2.2.2.2.2.1
def tl:=w.2.2.2.2.2.2.2.2.2.2.2.2.2.2.2.2.2.2.2.2
theorem m:P h x dx sa va es n n1 n2 R dv sv vv st vals v d f l tf tl:=by
 intro G hR ix ie is ii iv iw id ok;have ix:=bo.in _ _ ix;have is:=bo.in _ _ is;have iv:=bo.in _ _ iv;have hR':∀ a o,R a o->In (hideAll h (ag::[dx])) [] a o:=fun a o r=>bo.in a o (hR a o r);have lv:=iw.length;have ls:=ii.length;obtain⟨f0,fl,l1,len,z,lo0,lo1,hi0,hi1,dvs,dd⟩:=ok;refine am1 G (by k_is) (by k_is) (binds:=[("self", .ref x),("first", .int f tf),("last", .int l tl),("value", v)]) (fun s X=>jx rfl) (rest:=["low", "high", "behind", "starts", "values"]) (ns:=["self", "first", "last", "value", "low", "high", "behind", "starts", "values"]) rfl (vs:=[some (.ref x),some (.int f tf),some (.int l tl),some v,none,none,none,none,none]) rfl (gs:=["max", "min", "MAX_CODE", "place_by_half", "range_are_like"]) (by decide +kernel) ?_;intro A L O ar hL Z Z S Z Z;refine cT (bl (x := "first") (y := "last") ?_);ext;refine bc8 S ar.handled fun Z Z S=>?_;ext;refine bu6 S ar.handled fun Z Z S=>?_;rw[show max f 0=f by exact cy3 f0,show min l 1114111=l by exact cv6 l1];ext;refine bD S ar.handled (S.own _ (.head _)) rfl fun h S=>⟨_,_,rfl,?_⟩;have S:=S.drop;ext;refine BB.neg (jy (b69 fl)) ?_;ext;refine cJ S (S.inst ix (.head _) ie) (c8 (by decide +kernel)) dI (v:=.ref sa) eR rfl ?_;ext;refine ch S (a63 S.good ⟨sv,n1,S.hs _ _ is,ii⟩ (bm9 z) _ _) ar fun tk h S Z=>?_;ext;refine cJ S (S.inst ix (.head _) ie) (c8 (by decide +kernel)) dI (v:=.ref sa) eR rfl ?_;ext;refine ch S (a63 S.good ⟨sv,n1,S.hs _ _ is,ii⟩ (bm9 z) _ _) ar fun tk h S Z=>?_;ext;refine cJ S (S.inst ix (.head _) ie) (c8 (by decide +kernel)) dI (v:=.ref va) eQ rfl ?_;ext;obtain⟨bv,hbv,ibv⟩:=iw.getd (an6 (l:=vals) (i:=(cV st l-1).toNat) (d:=.none) (z82 len hi0 hi1));have dbv:(vals.getD (cV st l-1).toNat .none).depth<=4:=dvs _ (a43 (z82 len hi0 hi1));have ehi:cI st (l+1)+1=cV st l:=rfl;have elo:cI st (f-1)+1=cU st f:=rfl
 try dsimp +zetaDelta only at S
 rw[ehi,elo] at S;rw[ehi];refine bk (S.hs _ _ iv).1 (cx4 hi0) (z85 z hi1) hbv ?_;ext;refine bl (x := "starts") (y := "values") ?_;ext;refine ad S (bd (by simp)) ?_;intro a0 h Z Z Z S;ext;refine ad S (bd (by simp)) ?_;intro b0 h Z Z Z S;ext;refine bD S ar.handled (S.own _ (.head _)) rfl fun h S=>⟨_,_,rfl,?_⟩;have S:=S.drop;walk_at"s";walk_at"s";walk_at"s";refine br (fun h=>cP fun s1 w1 k1 k2=>bB (S.lk [(b0,listOf (List.toArray w1) k2),(a0,listOf (List.toArray s1) k1),(dx,dictOf es n)] h) (IntsAre s1 (ai5 st vals f l d)) (aw R w1 (ai4 st vals l d))) ?_ ?_
 ·ext;refine BB.dec (fun h1=>?_) (fun h1=>?_)
  ·ext;refine bq S (aw9 4 S.good ((ibv.mono hR').mono S.hs) ((id.mono hR').mono S.hs) dbv (b52 dd) (by decide)) ar fun h S Z=>?_;ext;refine BB.mk (fun h2=>?_) (fun h2=>?_)
   ·ext;have e:ae2 st vals l d=false:=by rw[ae2,h2]; simp
    exact⟨rfl,_,_,_,_,S,by rw[ai5,e]; exact .cons _ _ .nil,by rw[ai4,e]; exact .cons id .nil⟩
   ·ext;have e:ae2 st vals l d=true:=by rw[ae2,h2,jz h1]; rfl
    refine aj S (.tail .head) (by simp) ?_;intro Z h S;ext;refine aj S .head (by simp) ?_;intro Z h S;ext;exact⟨rfl,_,_,_,_,S,by rw[ai5,e]; exact .cons _ _ (.cons _ _ .nil),by rw[ai4,e]; exact .cons id (.cons ibv .nil)⟩
  ·ext;have e:ae2 st vals l d=false:=by rw[ae2,jy h1]; rfl
   exact⟨rfl,_,_,_,_,S,by rw[ai5,e]; exact .cons _ _ .nil,by rw[ai4,e]; exact .cons id .nil⟩
 rintro h ⟨s1,w1,k1,k2,(S:Fs _ _ _ _ _ _ _ _ _),is1,iw1⟩;have S:=S.toFix.toFix;have lz1:s1.length<=2:=by rw[is1.length,ai5]; split<;>simp
 have lz2:w1.length<=2:=by rw[iw1.length,ai4]; split<;>simp
 refine br (fun h=>bf9 fun t1 t2 t3 t4 a b s1 w1 k1 k2 fx'=>eF (S.frm fx' [some (.ref x),some (.int f t1),some (.int l t2),some v,some (.int (cU st f) t3),some (.int (cV st l) t4),some bv,some (.ref a),some (.ref b)] [(dx,dictOf es n)] h) (S.inn fx' a (listOf (List.toArray s1) k1)) (S.inn fx' b (listOf (List.toArray w1) k2)) (IntsAre s1 (ar8 st vals f l d)) (aw R w1 (ar7 st vals f l d)) (s1.length<=2) (w1.length<=2)) ?_ ?_
 ·ext;refine BB.dec (fun h1=>?_) (fun h1=>?_)
  ·ext;refine cJ S (S.inst (ix.nil _ _) (.head _) ie) (c8 (by decide +kernel)) dI (v:=.ref va) eQ rfl ?_;ext;obtain⟨cv,hcv,icv⟩:=iw.getd (an6 (l:=vals) (i:=(cU st f-1).toNat) (d:=.none) (z65 len lo1 h1));have dcv:(vals.getD (cU st f-1).toNat .none).depth<=4:=dvs _ (a43 (z65 len lo1 h1));refine bk (S.hs _ _ (iv.nil _ _)).1 (c11 h1) (z85 z lo1) hcv ?_;ext;refine bq S (aw9 4 S.good (((icv.mono hR').mono In.nil).mono S.hs) (((id.mono hR').mono In.nil).mono S.hs) dcv (b52 dd) (by decide)) ar fun h S Z=>?_;ext;refine BB.mk (fun h2=>?_) (fun h2=>?_)
   ·have e:ae3 st vals f d=true:=by rw[ae3,h2,jz h1]; rfl
    ext;refine bl (x := "starts") (y := "values") ?_;ext;refine aQ S (S.fixed (.head _)) (.int _ _) .none (bm7 lz1) ?_;intro r1 h Z Z S;ext;refine aQ S (S.fixed (.tail _ (.head _))) (.int _ _) .none (bm7 lz2) ?_;intro r2 h Z Z S;ext;refine bD S ar.handled (S.own _ (.head _)) rfl fun h S=>⟨_,_,rfl,?_⟩;have S:=S.drop;ext;have S:=S.toFix.toFix;exact⟨rfl,_,_,_,_,_,_,_,_,_,_,_,S,.inr (.head _),.inr (.tail _ (.head _)),by rw[ar8,e]; exact bf is1 _ _,by rw[ar7,e]; exact iw1.slc _ _,jr (ad1 _ _ _) lz1,jr (ad1 _ _ _) lz2⟩
   ·have e:ae3 st vals f d=false:=by rw[ae3,h2,Bool.and_false]
    ext;exact⟨rfl,_,_,_,_,_,_,_,_,_,_,_,S,.inr (.head _),.inr (.tail _ (.head _)),by rw[ar8,e]; exact is1,by rw[ar7,e]; exact iw1,lz1,lz2⟩
  ·have e:ae3 st vals f d=false:=by rw[ae3,jy h1,Bool.false_and]
   ext;exact⟨rfl,_,_,_,_,_,_,_,_,_,_,_,S,.inr (.head _),.inr (.tail _ (.head _)),by rw[ar8,e]; exact is1,by rw[ar7,e]; exact iw1,lz1,lz2⟩
 rintro h ⟨t1,t2,t3,t4,a,b,s1,w1,k1,k2,fx',(S:Fs _ _ _ _ _ _ _ _ _),ia,ib,is2,iw2,lz1,lz2⟩;have lz3:=ad1 sv none (some (cU st f));have lz4:=ad1 sv (some (cV st l)) none;have lz5:=ad1 vv none (some (cU st f));have lz6:=ad1 vv (some (cV st l)) none;ext;refine cJ S (S.inst (ix.nil _ _) (.head _) ie) (c8 (by decide +kernel)) dI (v:=.ref sa) eR rfl ?_;ext;refine aQ S (S.hs _ _ (is.nil _ _)).1 .none (.int _ _) (b75 ls z) ?_;intro r1 h Z Z S;ext;refine bj S (S.get1 (.head _)) (S.at' ia) (dd0 ls z lz1 lz3) ?_;intro r2 h Z Z S;ext;refine cJ S (S.inst (ix.nil _ _) (.tail _ (.tail _ (.head _))) ie) (c8 (by decide +kernel)) dI (v:=.ref sa) eR rfl ?_;ext;refine aQ S (S.hs _ _ (is.nil _ _)).1 (.int _ _) .none (b75 ls z) ?_;intro r3 h Z Z S;refine bj S (S.get1 (.tail _ (.head _))) (S.get1 (.head _)) (by simp only[jl]; exact dg3 ls z lz1 lz3 lz4) ?_;intro r4 h hr4 Z S4;have hn4:=S.new hL hr4;have S:=S4;ext;have S:=S.toFix.drop.drop.drop;refine aE (lf:=fun o'=>[(dx,o')]) S (S.at' (ix.nil _ _)) ie (ar5 (by decide +kernel)) (fun Z=>.head) (by simp [dE]) fun es1 n3 h E1 S=>?_;have E1:bN es1 (dE dv r4 va):=E1;ext;refine cJ S (S.inst (ix.nil _ _) (.head _) E1) (c8 (by decide +kernel)) dI (v:=.ref va) eQ rfl ?_;ext;refine aQ S (S.hs _ _ (iv.nil _ _)).1 .none (.int _ _) (b82 lv len z) ?_;intro r5 h Z Z S;ext;refine bj S (S.get1 (.head _)) (S.hs _ _ (In.cons _ _ ib)).1 (dd9 lv len z lz2 lz5) ?_;intro r6 h Z Z S;ext;refine cJ S (S.inst (ix.nil _ _) (.tail _ (.tail _ (.head _))) E1) (c8 (by decide +kernel)) dI (v:=.ref va) eQ rfl ?_;ext;refine aQ S (S.hs _ _ (iv.nil _ _)).1 (.int _ _) .none (b82 lv len z) ?_;intro r7 h Z Z S;refine bj S (S.get1 (.tail _ (.head _))) (S.get1 (.head _)) (by simp only[jl]; exact dg8 lv len z lz2 lz5 lz6) ?_;intro r8 h hr8 Z S8;have hn8:=S.new hL hr8;have ne48:r4≠r8:=jv (js (jw (S.fixed (.head _))) hr8);have S:=S8;ext;have S:=S.toFix.drop.drop.drop;refine aE (lf:=fun o'=>[(dx,o')]) S (S.at' (ix.nil _ _)) E1 (ar5 (by decide +kernel)) (fun Z=>.head) (by simp [dE]) fun es2 n4 h E2 S=>?_;have E2:bN es2 (dE dv r4 r8):=E2;ext;exact S.keptM (m':=[(dx,dictOf es2 n4)]) (r:=[]) hL rfl ⟨rfl,es2,n4,rfl,r4,r8,_,_,_,_,E2,⟨S.fixed (.tail _ (.head _)),hn4⟩,(bf ii _ _).append is2 |>.append (bf ii _ _),⟨S.fixed (.head _),hn8⟩,((iw.slc _ _).append iw2).append (iw.slc _ _),ne48⟩
end
end X9
mutual
theorem az2{h x dx sa va es n n1 n2 R dv sv vv st vals v d f l tf tl}:X9.P h x dx sa va es n n1 n2 R dv sv vv st vals v d f l tf tl:=c7 (P:=X9.Q) (a:=X9.w) rfl X9.m (h,x,dx,sa,va,es,n,n1,n2,R,dv,sv,vv,st,vals,v,d,f,l,tf,tl)
theorem aw5{K:Type}[DecidableEq K](k k':K)(v:Value)(kvs:List (K×Value)):((kvs.map fun kv=>if kv.1=k then(kv.1,v) else kv).find? fun kv=>decide (kv.1=k'))=(kvs.find? fun kv=>decide (kv.1=k')).map fun kv=>if kv.1=k then(kv.1,v) else kv:=by
 induction kvs with
 | nil=>rfl
 | cons x r ih =>
  have e:(if x.1=k then(x.1,v) else x).1=x.1:=by split<;>rfl
  rw[List.map_cons,List.find?_cons,List.find?_cons,e]
  cases decide (x.1=k')
  ·exact ih
  ·rfl
theorem aa0{K:Type}[DecidableEq K](kvs:List (K×Value))(k:K)(v:Value)(k':K):valueAt (stored kvs k v) k'=if k=k' then some v else valueAt kvs k':=by
 unfold stored valueAt
 by_cases ha:(kvs.any fun kv=>decide (kv.1=k))=true
 ·rw[if_pos ha,aw5]
  by_cases hk:k=k'
  ·subst hk;rw[if_pos rfl];obtain⟨x,hx,he⟩:=List.any_eq_true.mp ha
   cases hf:kvs.find? (fun kv=>decide (kv.1=k)) with
   | none=>exact absurd he (by simpa using List.find?_eq_none.mp hf x hx)
   | some y=>have:=List.find?_some hf; simp at this; simp [this]
  ·rw[if_neg hk]
   cases hf:kvs.find? (fun kv=>decide (kv.1=k')) with
   | none=>rfl
   | some y =>
    have:=List.find?_some hf;simp at this;have hy:¬ y.1=k:=fun e=>hk (e.symm.trans this)
    simp [hy]
 ·rw[if_neg ha,List.find?_append]
  by_cases hk:k=k'
  ·subst hk;have:kvs.find? (fun kv=>decide (kv.1=k))=none:=by
    rw[List.find?_eq_none];intro x hx;simp only[List.any_eq_true,not_exists,not_and] at ha;exact ha x hx
   rw[this]
   simp
  ·simp [hk]
theorem bg5{vs:List Value}{xs:List Str}(i:StrsAre vs xs){k:Nat}{v:Value}(h:vs[k]?=some v):av fun x t=>xs[k]?=some x/\v=.str x t:=by
 have hl:=i.length;have hk:k<xs.length:=by rw[<- hl]; exact(List.getElem?_eq_some_iff.mp h).1
 obtain⟨t,e⟩:=i.get k _ (jj hk);rw[h] at e
 cases e
 exact⟨_,t,jj hk,rfl⟩
theorem ag5{A:Around}{E:VP}{h:Heap}{env:Env}{gs:List Str}{V:Heap}{fx:ac}{a d:Addr}{o:Obj}{its:List Value}{names:List Str}{k:Nat}{kvs0:List (Str×Value)}{nm:Option Value}{W:Value->Prop}{e:Expr}{p p1 p2 p3 p4:Pos}{Q:FP}
  (S:Fs c gs ["found", "name"] env V fx [some (.ref d),nm] [(d,o)] h) (hh:A.handled=none) (ha:In V fx a { cls:=.type "tuple", data:=.seq its.toArray k }) (is:StrsAre its names) (io:Obj.IsDictOf (sK c) o kvs0) (hz:kvs0.length+its.length<=1000000)
  (rhs:∀ fx' nm o h,Fs c gs ["found", "name"] env V fx' [some (.ref d),nm] [(d,o)] h->Wp c (fun Z Z=>False) A (eval e env) (fun v h'=>W v/\Fs c gs ["found", "name"] env V fx' [some (.ref d),nm] [(d,o)] h') h)
  (hs:swapsWith e (some (.Subscript (.Name "found" p1) (.Name "name" p2) p3)) p4.line env=Pure.pure false)
  (done:∀ nm o' kvs h',Obj.IsDictOf (sK c) o' kvs->(∀ k,k∉names->valueAt kvs k=valueAt kvs0 k)->(∀ k,k∈names->∃ v,W v/\valueAt kvs k=some v)->kvs.length<=kvs0.length+its.length->Fs c gs ["found", "name"] env V fx [some (.ref d),nm] [(d,o')] h'->Q .next h') :
  Wp c E A (pyIter (.ref a)) (bu1 c (.Name "name" p) [.Assign [.Subscript (.Name "found" p1) (.Name "name" p2) p3] e p4] A env Q) h:=by
 refine as6 hh S ha fun it h S src=>?_;refine aS (src _ _) S (fun i vs l=>b5 fun nm o kvs=>eG (vs=[some (.ref d),nm]) (l=[(d,o)]) (Obj.IsDictOf (sK c) o kvs) (∀ k,k∉names->valueAt kvs k=valueAt kvs0 k) (∀ k,k∈names.take i->∃ v,W v/\valueAt kvs k=some v) (kvs.length<=kvs0.length+i)) ⟨nm,o,kvs0,rfl,rfl,io,fun Z Z=>rfl,fun k hk=>absurd hk jm,Nat.le_refl _⟩ ?_ ?_
 ·rintro Z Z i v vs l h own hi hv ⟨nm,o,kvs,e1v,e2l,io,h1,h2,h3⟩ S;refine S.castL e1v e2l ?_;intro Z Z S;obtain⟨x,t,hx,rfl⟩:=bg5 is hv;have hmem:x∈names:=List.mem_of_getElem? hx;walk_at"s";walk_at"s";walk_at"s";refine bh4 ?_ hs;refine(rhs _ _ _ _ S).mono (fun v h zpa=>?_) fun Z Z x=>x;obtain⟨w,S⟩:=zpa;ext;refine aj7 (knd:=sK c) S io bi (dc2 hz hi h3) ?_;intro o' h io' Z S;ext;refine⟨_,_,⟨_,o',_,rfl,rfl,io',fun k hk=>?_,fun k hk=>?_,?_⟩,S⟩
  ·rw[aa0,if_neg (fun e=>hk (by rw[<- e]; exact hmem))]; exact h1 k hk
  ·rw[aa0]
   by_cases e:x=k
   ·rw[if_pos e]; exact⟨v,w,rfl⟩
   ·rw[if_neg e];refine h2 k ?_;rw[List.take_add_one,hx] at hk
    rcases jg.mp hk with hk|hk
    ·exact hk
    ·exact absurd (je.mp (by simpa using hk)).symm e
  ·have:=stored_length_le kvs x v;exact da6 h3 this
 ·rintro vs l h ⟨nm,o,kvs,e1v,e2l,io,h1,h2,h3⟩ S;refine S.castL e1v e2l ?_;intro Z Z S;rw[is.length,jF] at h2;exact done nm o kvs h io h1 h2 h3 S
structure ak1(R:RP)(kvs:List (Str×Value)):Prop where
 gc:∃ t,valueAt kvs "gc" = some (.str "Cn" t)
 ccc:∃ t,valueAt kvs "ccc" = some (.int 0 t)
 jt:∃ t,valueAt kvs "jt" = some (.str "U" t)
 ex:valueAt kvs "ex" = some (.bool false)
 dm:valueAt kvs "dm" = some .none
 idna:∃ v,valueAt kvs "idna" = some v/\VI R v (.tuple [.str "disallowed", .tuple []])
theorem ak1.mono{R R':RP}{kvs:List (Str×Value)}(d:ak1 R kvs)(k:∀ a o,R a o->R' a o):ak1 R' kvs:=⟨d.gc,d.ccc,d.jt,d.ex,d.dm,let ⟨v,e,x⟩:=d.idna; ⟨v,e,x.mono k⟩⟩
theorem ci0{o:Obj}{t1 t2 t3 t4 t5 t6 t7 t8:Tok}(io:Obj.IsDictOf (sK c) o (merged [] [("gc", .str "Cn" t1),("ccc", .int 0 t2),("bc", .str "L" t3),("lb", .str "XX" t4),("ea", .str "N" t5),("sc", .str "Zzzz" t6),("jt", .str "U" t7),("incb", .str "None" t8)])) :
  ∃ kvs:List (Str×Value),eH (Obj.IsDictOf (sK c) o kvs) (∃ t,valueAt kvs "gc" = some (.str "Cn" t)) (∃ t,valueAt kvs "ccc" = some (.int 0 t)) (∃ t,valueAt kvs "jt" = some (.str "U" t)) (kvs.length=8) :=
 ⟨_,io,⟨t1,by kernel_rfl⟩,⟨t2,by kernel_rfl⟩,⟨t7,by kernel_rfl⟩,by kernel_rfl⟩
theorem a89{h:Heap}(G:ak c h):Ct c 1 (.ref 572) [] h (fun r h'=>av fun d kvs=>bK (r=.ref d) (DI (sK c) (Nw h h') d kvs) (ak1 (Nw h h') kvs) (kvs.length<=100)):=by
 refine al G (by k_is) (by k_is) (binds:=[]) (fun s X=>jx rfl) (rest:=["found", "name"]) (ns:=["found", "name"]) rfl (vs:=[none,none]) rfl (gs:=[]) (by decide +kernel) ?_;intro A L h ar hL Z Z S Z Z;ext;refine bh5 (knd:=sK c) S (fun d h1 hd1 nd S=>?_);have hdn:=jr hL (jI (js (‹Fs c _ _ _ _ _ _ [] _›).fr.ns.lt hd1));ext;refine⟨_,_,cr bi (cr bi (cr bi (cr bi (cr bi (cr bi (cr bi (cr bi ba7))))))),S,fun o h io S=>?_⟩;obtain⟨kvs0,io,g1,g2,g3,g4⟩:=ci0 io;walk_at"s";walk_at"s";walk_at"s";walk_at"s";ext;refine ag5 (names:=["gcb", "wb", "sb"]) (W:=fun Z=>True) S.toFix ar.handled (.inr (.head _)) (.cons _ _ (.cons _ _ (.cons _ _ .nil))) io (by simp only[jA,jO]; exact cv7 g4) (fun fx nm o h S=>by(ext); (try (rename Fs ..=>S)); exact⟨trivial,S⟩) (by walk_at"u") fun nm o kvs1 h io a1 b1 z1 S=>?_;simp only[jA,jO] at z1;ext;refine ag5 (names:=["ex", "sd", "cased", "ci", "ep", "di", "ids", "idc", "xids", "xidc", "pat_syn", "pat_ws", "idst"]) (W:=fun v=>v=.bool false) S.toFix ar.handled (.inr (.head _)) (.cons _ _ (.cons _ _ (.cons _ _ (.cons _ _ (.cons _ _ (.cons _ _ (.cons _ _ (.cons _ _ (.cons _ _ (.cons _ _ (.cons _ _ (.cons _ _ (.cons _ _ .nil))))))))))))) io (by simp only[jA,jO]; exact c46 g4 z1) (fun fx nm o h S=>by(ext); (try (rename Fs ..=>S)); exact⟨rfl,S⟩) (by walk_at"u") fun nm o kvs2 h io a2 b2 z2 S=>?_;simp only[jA,jO] at z2;ext;refine ag5 (names:=["dm", "uc", "lc", "tc", "cf", "bm", "bpb", "scx", "nt", "nv", "name", "conf", "nfkc_cf"]) (W:=fun v=>v=.none) S.toFix ar.handled (.inr (.head _)) (.cons _ _ (.cons _ _ (.cons _ _ (.cons _ _ (.cons _ _ (.cons _ _ (.cons _ _ (.cons _ _ (.cons _ _ (.cons _ _ (.cons _ _ (.cons _ _ (.cons _ _ .nil))))))))))))) io (by simp only[jA,jO]; exact da8 g4 z1 z2) (fun fx nm o h S=>by(ext); (try (rename Fs ..=>S)); exact⟨rfl,S⟩) (by walk_at"u") fun nm o kvs3 h io a3 b3 z3 S=>?_;simp only[jA,jO] at z3;ext;refine ag5 (names:=["suc", "slc", "stc", "alias"]) (W:=fun Z=>True) S.toFix ar.handled (.inr (.head _)) (.cons _ _ (.cons _ _ (.cons _ _ (.cons _ _ .nil)))) io (by simp only[jA,jO]; exact de0 g4 z1 z2 z3) (fun fx nm o h S=>by(ext); (try (rename Fs ..=>S)); exact⟨trivial,S.drop⟩) (by walk_at"u") fun nm o kvs4 h io a4 b4 z4 S=>?_;simp only[jA,jO] at z4
 iterate 9 walk_at"s"
 refine a99 (fun t1 h ht1 Z S1=>?_) S (bd (by simp));have ht1:=S.new hL ht1;have S:=S1;walk_at"s";refine a99 (fun t2 h ht2 Z S2=>?_) S (bd (by simp));have ht2:=S.new hL ht2;have S:=S2;ext;refine aj7 (knd:=sK c) S.front2 io bi (de9 g4 z1 z2 z3 z4) ?_;intro o h io Z S;ext;have m1:=stored_length_le kvs4 "idna" (.ref t2);have fin:∀ k,k≠("idna" : Str)->valueAt (stored kvs4 "idna" (.ref t2)) k=valueAt kvs4 k:=fun k hk=>by rw[aa0,if_neg (Ne.symm hk)]
 have low:∀ k,k∉(["suc", "slc", "stc", "alias"]:List Str)->k∉(["dm", "uc", "lc", "tc", "cf", "bm", "bpb", "scx", "nt", "nv", "name", "conf", "nfkc_cf"]:List Str)->k∉(["ex", "sd", "cased", "ci", "ep", "di", "ids", "idc", "xids", "xidc", "pat_syn", "pat_ws", "idst"]:List Str)->k∉(["gcb", "wb", "sb"]:List Str)->k≠("idna" : Str)->valueAt (stored kvs4 "idna" (.ref t2)) k=valueAt kvs0 k:=fun k c1 c2 c3 c4 c5=>by rw[fin k c5,a4 k c1,a3 k c2,a2 k c3,a1 k c4]
 refine⟨S.kept hL,d,_,rfl,⟨nd,o,⟨S.get1 (.head _),hdn⟩,io⟩,⟨?_,?_,?_,?_,?_,?_⟩,by exact dh4 g4 z1 z2 z3 z4 m1⟩
 ·rw[low _ (by decide +kernel) (by decide +kernel) (by decide +kernel) (by decide +kernel) (by decide +kernel)]; exact g1
 ·rw[low _ (by decide +kernel) (by decide +kernel) (by decide +kernel) (by decide +kernel) (by decide +kernel)]; exact g2
 ·rw[low _ (by decide +kernel) (by decide +kernel) (by decide +kernel) (by decide +kernel) (by decide +kernel)]; exact g3
 ·obtain⟨v,rfl,e⟩:=b2 "ex" (by decide +kernel);rw[fin _ (by decide +kernel),a4 _ (by decide +kernel),a3 _ (by decide +kernel)]; exact e
 ·obtain⟨v,rfl,e⟩:=b3 "dm" (by decide +kernel);rw[fin _ (by decide +kernel),a4 _ (by decide +kernel)]; exact e
 ·refine⟨.ref t2,by rw[aa0,if_pos rfl],?_⟩;exact .tup (n:=0) ⟨S.get1 (.tail _ (.head _)),ht2⟩ (by simp) (.cons (.str _ _ (by decide +kernel)) (.cons (.tup (vs:=[]) (n:=0) ⟨S.get1 (.tail _ (.tail _ (.head _))),ht1⟩ (by simp) .nil) .nil))
noncomputable def dL(dd mm pp ww:Addr):List (Str×Value):=[("defaults", .ref dd),("maps", .ref mm),("properties", .ref pp),("words", .ref ww)]
theorem dA0{dd mm pp ww:Addr}:(("defaults", .ref dd):Str×Value)∈dL dd mm pp ww:=.head _
theorem eC{dd mm pp ww:Addr}:(("maps", .ref mm):Str×Value)∈dL dd mm pp ww:=.tail _ (.head _)
theorem ag7{dd mm pp ww}:((dL dd mm pp ww).map (·.1)).Nodup:=by show(["defaults", "maps", "properties", "words"]:List Str).Nodup; decide +kernel
theorem dn0(P:Params):(["defaults", "maps", "properties", "words"]:List Str).all (dM (Mine.hd.heap_39 P) 610)=true:=by kernel_rfl
theorem ae1{name:Str}(h:name∈(["defaults", "maps", "properties", "words"]:List Str)):dM (Mine.hd.heap_39 c.w.params) 610 name=true:=List.all_eq_true.mp (dn0 c.w.params) name h
theorem a17{name:Str}(h:name∈(["defaults", "maps", "properties", "words"]:List Str)):ax4 (Mine.hd.heap_39 c.w.params) 610 name :=
 ⟨by k_is,by k_is,(af (P:=fun n=>takerIn (Mine.hd.heap_39 c.w.params) 610 n=some none) (by k_is) (af (P:=fun n=>takerIn (Mine.hd.heap_39 c.w.params) 610 n=some none) (by k_is) (af (P:=fun n=>takerIn (Mine.hd.heap_39 c.w.params) 610 n=some none) (by k_is) (af (P:=fun n=>takerIn (Mine.hd.heap_39 c.w.params) 610 n=some none) (by k_is) b7)))) name h,by k_is⟩
theorem da(P:Params):dN (Mine.hd.heap_39 P) 610 "put" 593/\dN (Mine.hd.heap_39 P) 610 "get" 600/\dN (Mine.hd.heap_39 P) 610 "map_of" 607:=⟨⟨by k_is,by k_is,by k_is⟩,⟨by k_is,by k_is,by k_is⟩,⟨by k_is,by k_is,by k_is⟩⟩
theorem a13(P:Params):dN (Mine.hd.heap_39 P) 554 "get" 532/\dN (Mine.hd.heap_39 P) 554 "put" 539/\dN (Mine.hd.heap_39 P) 554 "ranges" 544:=⟨⟨by k_is,by k_is,by k_is⟩,⟨by k_is,by k_is,by k_is⟩,⟨by k_is,by k_is,by k_is⟩⟩
def NwB(h h':Heap)(b a:Addr)(o:Obj):Prop:=Nw h h' a o/\a≠b
def ci5(_:Cx)(h h':Heap)(x:Addr):Prop:=dU fun dd mm pp ww kvs=>eH (bt (NwB h h' mm) x 610 (dL dd mm pp ww)) (DI (sK c) (NwB h h' mm) dd kvs) (ak1 (NwB h h' mm) kvs) (dT mm) (Nw h h' mm (dictOf [] 0))
theorem ak1.supp{R:RP}{kvs:List (Str×Value)}(d:ak1 R kvs):az R fun R=>ak1 R kvs:=by obtain⟨v,e,x⟩:=d.idna; exact x.supp.imp fun Z x=>⟨d.gc,d.ccc,d.jt,d.ex,d.dm,v,e,x⟩
theorem a41{h:Heap}{env:Env}{gs ns:List Str}{V:Heap}{fx:ac}{vs:LO}{l:ac}{a b:Addr}{o o':Obj}(S:Fs c gs ns env V fx vs l h)(hm:(b,o')∈l)(x:In V fx a o):a≠b:=x.elim (fun e=>(S.ap _ hm).old_ne e) fun m=>(S.off _ m).2 _ hm
theorem by8{h:Heap}(G:ak c h):ah9 c 2 586 610 [] h (fun x h'=>ci5 c h h' x):=by
 intro A x dx O ar hlt hsz K1 hx hdx;refine as7 G ar hlt hsz K1 hx hdx (by k_is) (by k_is) (binds:=[("self", .ref x)])
  (fun s X=>jx rfl) (rest:=[]) (ns:=["self"]) rfl (vs:=[some (.ref x)]) rfl (gs:=["data_defaults"]) (by decide +kernel) ?_
 intro A L h ar hL Z Z S Z Z;ext;refine ba S (a89 S.good) ar fun v h S1 k1 q'=>?_;obtain⟨dd,kvs,e,d1,d2,d3⟩:=q';subst e;obtain⟨ents,S2,d1,d2⟩:=S.takeSupp k1 hL (d1.supp.and d2.supp);have S:=S2;ext;refine aE (lf:=fun o'=>[(x,instObj 610 dx),(dx,o')]) S (S.own _ (.head _)) .nil (a17 (by decide +kernel)) (fun Z=>.tail .head) (by decide) fun es n h E S=>?_;ext;refine ah1 S ?_;intro mm h nm1 nm Z S1;have nm2:=S.new hL nm1;have S:=S1;ext;refine aE (lf:=fun o'=>[(mm,dictOf [] 0),(x,instObj 610 dx),(dx,o')]) S (S.own _ (.tail _ (.head _))) E (a17 (by decide +kernel)) (fun Z=>.tail (.tail .head)) (by with_unfolding_all exact Nat.le_of_ble_eq_true rfl) fun es n h E S=>?_;ext;refine ah1 S ?_;intro pp h Z Z Z S;ext;have S:=S.drop;refine aE (lf:=fun o'=>[(mm,dictOf [] 0),(x,instObj 610 dx),(dx,o')]) S (S.own _ (.tail _ (.head _))) E (a17 (by decide +kernel)) (fun Z=>.tail (.tail .head)) (by with_unfolding_all exact Nat.le_of_ble_eq_true rfl) fun es n h E S=>?_;ext;refine ah1 S ?_;intro ww h Z Z Z S;ext;have S:=S.drop;refine aE (lf:=fun o'=>[(mm,dictOf [] 0),(x,instObj 610 dx),(dx,o')]) S (S.own _ (.tail _ (.head _))) E (a17 (by decide +kernel)) (fun Z=>.tail (.tail .head)) (by with_unfolding_all exact Nat.le_of_ble_eq_true rfl) fun es n h E S=>?_;ext;exact⟨rfl,S.kept hL,dd,mm,pp,ww,kvs,⟨dx,es,n,⟨⟨S.own _ (.tail _ (.head _)),jI (ju hsz hlt)⟩,S.ord.1 _ (.head _)⟩,⟨⟨S.own _ (.tail _ (.tail _ (.head _))),hsz⟩,S.ord.1 _ (.tail _ (.head _))⟩,E⟩,d1.mono (fun a o y=>⟨S.nw a o y,a41 S (.head _) y.1⟩),d2.mono (fun a o y=>⟨S.nw a o y,a41 S (.head _) y.1⟩),nm,S.own _ (.head _),nm2⟩
theorem ag6{h:Heap}(G:ak c h){x dd mm pp ww rm:Addr}{kvm:List (Str×Value)}(i:bt (Hs h) x 610 (dL dd mm pp ww))(dm:DI (sK c) (Hs h) mm kvm){name:Str}{tn:Tok}(hn:valueAt kvm name=some (.ref rm)){dv:Value}{st:List Int}{vv:List Value}(im:RM (Hs h) rm dv st vv)
  (code:Int) (t:Tok) (hz:st.length<1000000) {v:Value} (h0:0<=cI st code) (hv:vv[(cI st code).toNat]?=some v) (hb:cI st code<2 ^ 60) :
  Ct c 3 (.ref 600) [.ref x,.str name tn,.int code t] h (fun r Z=>r=v):=by
 obtain⟨nm,om,om1,om2⟩:=dm.mono Hs.in;have i:=i.mono Hs.in;have im:=im.mono Hs.in;refine al G (by k_is) (by k_is) (binds:=[("self", .ref x),("name", .str name tn),("code", .int code t)]) (fun s X=>jx rfl) (rest:=[]) (ns:=["self", "name", "code"]) rfl (vs:=[some (.ref x),some (.str name tn),some (.int code t)]) rfl (gs:=[]) (by decide +kernel) ?_;intro A L h ar hL Z Z S Z Z;ext;refine am S i (ae1 (by decide +kernel)) ag7 (v:=.ref mm) eC rfl ?_;refine br8 (knd:=sK c) (S.hs _ _ om1).1 om2 nm bi ?_;rw[hn];ext;refine BB.t ?_;ext;refine am S i (ae1 (by decide +kernel)) ag7 (v:=.ref mm) eC rfl ?_;ext;refine ac0 (knd:=sK c) (S.hs _ _ om1).1 om2 bi hn ?_;obtain⟨sa,va,sv,n1,n2,i2,e1,e2,e3⟩:=im;refine bx S i2 (a13 _).1 (by show(_:Str)∉(["default", "starts", "values"]:List Str); decide +kernel) ?_;ext;refine bq S (bk2 S.good ⟨sa,va,sv,n1,n2,i2.mono S.hs,S.hs _ _ e1,e2,S.hs _ _ e3⟩ code t hz h0 hv hb) ar fun h S Z=>?_;ext;exact⟨S.kept hL,rfl⟩
theorem bf1{h:Heap}(G:ak c h){x dd mm pp ww:Addr}{kvm kvs:List (Str×Value)}(i:bt (Hs h) x 610 (dL dd mm pp ww))(dm:DI (sK c) (Hs h) mm kvm)(ds:DI (sK c) (Hs h) dd kvs){name:Str}{tn:Tok}(hn:valueAt kvm name=none)(code:Int)(t:Tok) :
  Ct c 3 (.ref 600) [.ref x,.str name tn,.int code t] h (fun r Z=>r=(valueAt kvs name).getD .none):=by
 obtain⟨nm,om,om1,om2⟩:=dm.mono Hs.in;obtain⟨nd,od,od1,od2⟩:=ds.mono Hs.in;have i:=i.mono Hs.in;refine al G (by k_is) (by k_is) (binds:=[("self", .ref x),("name", .str name tn),("code", .int code t)]) (fun s X=>jx rfl) (rest:=[]) (ns:=["self", "name", "code"]) rfl (vs:=[some (.ref x),some (.str name tn),some (.int code t)]) rfl (gs:=[]) (by decide +kernel) ?_;intro A L h ar hL Z Z S Z Z;ext;refine am S i (ae1 (by decide +kernel)) ag7 (v:=.ref mm) eC rfl ?_;refine br8 (knd:=sK c) (S.hs _ _ om1).1 om2 nm bi ?_;rw[hn];ext;refine BB.f ?_;ext;refine am S i (ae1 (by decide +kernel)) ag7 (v:=.ref dd) dA0 rfl ?_;refine bu8 (knd:=sK c) (S.hs _ _ od1).1 od2 ?_;ext;refine bv3 (knd:=sK c) (S.hs _ _ od1).1 od2 nd bi ?_;ext;exact⟨S.kept hL,rfl⟩
theorem a66{h:Heap}{x dd mm pp ww:Addr}{o:Obj}(G:ck c [(mm,o)] h){kvm kvs:List (Str×Value)}(i:bt (bo [mm] h) x 610 (dL dd mm pp ww))(im:Obj.IsDictOf (sK c) o kvm)(nm:dT mm)(hz:kvm.length<=1000)(ds:DI (sK c) (bo [mm] h) dd kvs){name:Str}{tn:Tok}(hn:valueAt kvm name=none){dv:Value}(hd:valueAt kvs name=some dv) :
  eL c 4 (.ref 607) [.ref x,.str name tn] [(mm,o)] h (fun r m' h'=>av fun x' o'=>bK (r=.ref x') (m'=[(mm,o')]) (Obj.IsDictOf (sK c) o' (stored kvm name (.ref x'))) (bv6 h h' x' dv)):=by
 obtain⟨nd,od,od1,od2⟩:=ds.mono bo.in;have i:=i.mono bo.in;refine am1 G (by k_is) (by k_is) (binds:=[("self", .ref x),("name", .str name tn)]) (fun s X=>jx rfl) (rest:=[]) (ns:=["self", "name"]) rfl (vs:=[some (.ref x),some (.str name tn)]) rfl (gs:=["RangeMap"]) (by decide +kernel) ?_;intro A L h ar hL Z Z S Z Z;ext;refine am S i (ae1 (by decide +kernel)) ag7 (v:=.ref mm) eC rfl ?_;refine bv2 (knd:=sK c) (S.get1 (.head _)) im nm bi ?_;rw[hn];ext;refine BB.f ?_;ext;refine am S i (ae1 (by decide +kernel)) ag7 (v:=.ref dd) dA0 rfl ?_;refine bu8 (knd:=sK c) (S.hs _ _ od1).1 od2 ?_;ext;refine bv3 (knd:=sK c) (S.hs _ _ od1).1 od2 nd bi ?_;rw[hd];ext;refine ba S (ap5 S.good (by7 S.good dv) (by k_is) (by k_is) (by k_is)) ar fun v h S1 k1 q'=>?_;obtain⟨x',e,hx',rn⟩:=q';subst e;obtain⟨dx,es,n,sa,t,va,n1,n2,a1,a2,a3,a4,a5⟩:=rn;have hn1:∀ a o,Nw _ h a o->_<=a:=fun a o x=>S.new hL x.2;have S:=S.takeFs (ents:=[(x',instObj 554 dx),(dx,dictOf es n),(sa,listOf [Value.int 0 t].toArray n1),(va,listOf [dv].toArray n2)]) k1 (by
  intro p hp;simp only[jf,jm,or_false] at hp
  rcases hp with rfl|rfl|rfl|rfl
  ·exact a1
  ·exact a2
  ·exact a4
  ·exact a5)
 have m1:=hn1 _ _ a1;have m2:=hn1 _ _ a2;have m3:=hn1 _ _ a4;have m4:=hn1 _ _ a5;ext;refine am S (i.mono In.app) (ae1 (by decide +kernel)) ag7 (v:=.ref mm) eC rfl ?_;ext;refine aj7 (knd:=sK c) S im bi (z7 hz) ?_;intro o' h io' Z S;ext;refine am S (i.mono In.app) (ae1 (by decide +kernel)) ag7 (v:=.ref mm) eC rfl ?_;ext;refine ac0 (knd:=sK c) (S.get1 (.head _)) io' bi (v:=.ref x') (by rw[aa0,if_pos rfl]) ?_;ext;exact S.keptM (m':=[(mm,o')]) (r:=[]) hL rfl ⟨x',o',rfl,rfl,io',dx,es,n,sa,t,va,n1,n2,⟨S.fixed (.head _),m1⟩,⟨S.fixed (.tail _ (.head _)),m2⟩,a3,⟨S.fixed (.tail _ (.tail _ (.head _))),m3⟩,⟨S.fixed (.tail _ (.tail _ (.tail _ (.head _)))),m4⟩⟩
theorem am5{h:Heap}{x dd mm pp ww rm:Addr}(G:ak c h){kvm:List (Str×Value)}(i:bt (Hs h) x 610 (dL dd mm pp ww))(dm:DI (sK c) (Hs h) mm kvm){name:Str}{tn:Tok}(hn:valueAt kvm name=some (.ref rm)) :
  Ct c 1 (.ref 607) [.ref x,.str name tn] h (fun r h'=>r=.ref rm):=by
 obtain⟨nm,om,om1,om2⟩:=dm.mono Hs.in;have i:=i.mono Hs.in;refine al G (by k_is) (by k_is) (binds:=[("self", .ref x),("name", .str name tn)]) (fun s X=>jx rfl) (rest:=[]) (ns:=["self", "name"]) rfl (vs:=[some (.ref x),some (.str name tn)]) rfl (gs:=["RangeMap"]) (by decide +kernel) ?_;intro A L h ar hL Z Z S Z Z;ext;refine am S i (ae1 (by decide +kernel)) ag7 (v:=.ref mm) eC rfl ?_;refine bv2 (knd:=sK c) (S.hs _ _ om1).1 om2 nm bi ?_;rw[hn];ext;refine BB.t ?_;ext;refine am S i (ae1 (by decide +kernel)) ag7 (v:=.ref mm) eC rfl ?_;ext;refine ac0 (knd:=sK c) (S.hs _ _ om1).1 om2 bi hn ?_;ext;exact⟨S.kept hL,rfl⟩
theorem a64{h:Heap}{x dd mm pp ww rm dx sa va:Addr}{es:List DictEntry}{n n1 n2:Nat}(G:ck c [(dx,dictOf es n)] h){kvm:List (Str×Value)}(i:bt (bo [dx] h) x 610 (dL dd mm pp ww))(dm:DI (sK c) (bo [dx] h) mm kvm){name:Str}{tn:Tok}(hn:valueAt kvm name=some (.ref rm))
  {R:RP} (hR:∀ a o,R a o->bo [dx] h a o) {dv:Value} {sv vv:List Value} {st:List Int} {vals:List PyData} {v:Value} {d:PyData}
  (ix:bo [dx] h rm (instObj 554 dx)) (ie:bN es (dE dv sa va)) (is:bo [dx] h sa (listOf sv.toArray n1)) (ii:IntsAre sv st) (iv:bo [dx] h va (listOf vv.toArray n2)) (iw:aw R vv vals) (id:VI R v d) {f l:Int} {tf tl:Tok} (ok:cG st vals f l d) :
  eL c 8 (.ref 593) [.ref x,.str name tn,.int f tf,.int l tl,v] [(dx,dictOf es n)] h (fun r m' h'=>r=.none/\av fun es' n'=>m'=[(dx,dictOf es' n')]/\a19 h h' R dv (ap1 st vals f l d) (ap0 st vals f l d) es'):=by
 have i:=i.mono bo.in;have dm:=dm.mono bo.in;have ix:=bo.in _ _ ix;have is:=bo.in _ _ is;have iv:=bo.in _ _ iv;refine am1 G (by k_is) (by k_is) (binds:=[("self", .ref x),("name", .str name tn),("first", .int f tf),("last", .int l tl),("value", v)]) (fun s X=>jx rfl) (rest:=[]) (ns:=["self", "name", "first", "last", "value"]) rfl (vs:=[some (.ref x),some (.str name tn),some (.int f tf),some (.int l tl),some v]) rfl (gs:=[]) (by decide +kernel) ?_;intro A L h ar hL Z Z S Z Z;ext;refine bx S i (da _).2.2 (by show(_:Str)∉(["defaults", "maps", "properties", "words"]:List Str); decide +kernel) ?_;ext;refine bq S (am5 S.good (i.mono S.hs) (dm.mono S.hs) hn) ar fun h S Z=>?_;refine aw1 S (S.inst ix (.head _) ie) (a13 _).2.1 (by show(_:Str)∉(["default", "starts", "values"]:List Str); decide +kernel) ?_;ext;have hs:∀ a o,In _ [] a o->bo [dx] h a o:=Fs.hsB (m:=[(dx,dictOf es n)]) (r:=[]) S;refine am9 (m:=[(dx,dictOf es n)]) (r:=[]) S (az2 (Fs.goodM (r:=[]) S) (R:=R) (fun a o r=>hs a o (bo.in a o (hR a o r))) (hs _ _ ix) ie (hs _ _ is) ii (hs _ _ iv) iw id ok) ar (by decide) fun r m' h' e S2 hz q'=>?_;obtain⟨e1,es',n',e2,q⟩:=q';subst e1 e2;ext;obtain⟨sa',va',sv',vv',k1,k2,q1,q2,q3,q4,q5,q6⟩:=q;exact S2.keptM (m':=[(dx,dictOf es' n')]) (r:=[]) hL rfl ⟨rfl,es',n',rfl,sa',va',sv',vv',k1,k2,q1,⟨q2.1,S.new hL q2.2⟩,q3,⟨q4.1,S.new hL q4.2⟩,q5,q6⟩
theorem a65{h:Heap}{x dd mm pp ww:Addr}{o:Obj}(G:ck c [(mm,o)] h){kvm kvs:List (Str×Value)}(i:bt (bo [mm] h) x 610 (dL dd mm pp ww))(im:Obj.IsDictOf (sK c) o kvm)(nm:dT mm)(hz:kvm.length<=1000)(ds:DI (sK c) (bo [mm] h) dd kvs){name:Str}{tn:Tok}(hn:valueAt kvm name=none){dv:Value}(hd:valueAt kvs name=some dv)
  {R:RP} (hR:∀ a o,R a o->bo [mm] h a o) {dvd:PyData} {v:Value} {d:PyData} (idv:VI R dv dvd) (id:VI R v d) {f l:Int} {tf tl:Tok} (ok:cG [0] [dvd] f l d) :
  eL c 8 (.ref 593) [.ref x,.str name tn,.int f tf,.int l tl,v] [(mm,o)] h (fun r m' h'=>r=.none/\dU fun o' x' dx' es' n'=>eH (m'=[(mm,o')]) (Obj.IsDictOf (sK c) o' (stored kvm name (.ref x'))) (Nw h h' x' (instObj 554 dx')) (Nw h h' dx' (dictOf es' n')) (a19 h h' R dv (ap1 [0] [dvd] f l d) (ap0 [0] [dvd] f l d) es')):=by
 have i:=i.mono bo.in;have ds:=ds.mono bo.in;refine am1 G (by k_is) (by k_is) (binds:=[("self", .ref x),("name", .str name tn),("first", .int f tf),("last", .int l tl),("value", v)]) (fun s X=>jx rfl) (rest:=[]) (ns:=["self", "name", "first", "last", "value"]) rfl (vs:=[some (.ref x),some (.str name tn),some (.int f tf),some (.int l tl),some v]) rfl (gs:=[]) (by decide +kernel) ?_;intro A L h ar hL Z Z S Z Z;ext;refine bx S i (da _).2.2 (by show(_:Str)∉(["defaults", "maps", "properties", "words"]:List Str); decide +kernel) ?_;ext;have hs:∀ a o,In _ [] a o->bo [mm] h a o:=Fs.hsB (m:=[(mm,o)]) (r:=[]) S;refine am9 (m:=[(mm,o)]) (r:=[]) S (a66 (Fs.goodM (r:=[]) S) (i.mono hs) im nm hz (ds.mono hs) hn hd) ar (by decide) fun r m' h2 e S2 hz q'=>?_;obtain⟨x',o',e1,e2,q1,q2⟩:=q';subst e1 e2;obtain⟨dx,es,n,sa,t,va,n1,n2,a1,a2,a3,a4,a5⟩:=q2;have g1:=S.new hL a1.2;have g2:=S.new hL a2.2;have olt:∀ {a:Addr} {o1:Obj},Nw h h2 a o1->a≠mm:=fun w=>jJ (js (jw (S.get1 (.head _))) w.2);have S3:=(Fs.ownNew (l':=[(mm,o')]) S2 S rfl a2).addFix (own:=[(x',instObj 554 dx),(sa,listOf [Value.int 0 t].toArray n1),(va,listOf [dv].toArray n2)]) (by
  intro p hp;simp only[jf,jm,or_false] at hp
  rcases hp with rfl|rfl|rfl
  ·exact a1.1
  ·exact a4.1
  ·exact a5.1) (by
  intro p hp;have key:∀ {a:Addr} {o1:Obj},Nw h h2 a o1->o1≠dictOf es n->co _ _ a/\∀ q∈[(dx,dictOf es n),(mm,o')],a≠q.1:=fun{a o1} w ne=>⟨S.fresh w.2,fun q hq=>by
   rcases jf.mp hq with rfl|hq
   ·intro e;have w1:=w.1;rw[show a=dx from e,a2.1] at w1
    cases w1
    exact ne rfl
   ·rw[je.mp hq]; exact olt w⟩
  simp only[jf,jm,or_false] at hp
  rcases hp with rfl|rfl|rfl
  ·exact key a1 (by intro e; cases e)
  ·exact key a4 (by intro e; have:=congrArg Obj.cls e; simp at this)
  ·exact key a5 (by intro e; have:=congrArg Obj.cls e; simp at this))
 rw[jD] at S3;refine aw1 S3 (S3.inst (.inr (.head _)) (.head _) a3) (a13 _).2.1 (by show(_:Str)∉(["default", "starts", "values"]:List Str); decide +kernel) ?_;ext;have hs3:=Fs.hsB (m:=[(dx,dictOf es n)]) (r:=[(mm,o')]) S3;refine am9 (m:=[(dx,dictOf es n)]) (r:=[(mm,o')]) S3 (az2 (Fs.goodM (r:=[(mm,o')]) S3) (R:=R) (fun a o r=>hs3 a o (In.nil _ _ (bo.in a o (hR a o r)))) (hs3 _ _ (.inr (.head _))) a3 (hs3 _ _ (.inr (.tail _ (.head _)))) (.cons 0 t .nil) (hs3 _ _ (.inr (.tail _ (.tail _ (.head _))))) (.cons idv .nil) id ok) ar (by decide) fun r m' h' e S4 hz2 q'=>?_;obtain⟨e1,es',n',e2,q⟩:=q';subst e1 e2;ext;obtain⟨sa',va',sv',vv',k1,k2,q1',q2,q3,q4,q5,q6⟩:=q;refine Fs.keptM (m':=[(mm,o')]) (r:=[(dx,dictOf es' n')]) (m:=[(mm,o)]) (Post:=fun m'=>Value.none=Value.none/\dU fun o' x' dx' es' n'=>eH (m'=[(mm,o')]) (Obj.IsDictOf (sK c) o' (stored kvm name (.ref x'))) (Nw _ h' x' (instObj 554 dx')) (Nw _ h' dx' (dictOf es' n')) (a19 _ h' R dv (ap1 [0] [dvd] f l d) (ap0 [0] [dvd] f l d) es')) (Fs.front1 S4) hL rfl ⟨rfl,o',x',dx,es',n',rfl,q1,⟨S4.fixed (.head _),g1⟩,⟨S4.get1 (.head _),g2⟩,sa',va',sv',vv',k1,k2,q1',⟨q2.1,S3.new hL q2.2⟩,q3,⟨q4.1,S3.new hL q4.2⟩,q5,q6⟩
def Nf(h h':Heap)(a:Addr)(o:Obj):Prop:=h'.get? a=some o/\a≠ag/\h.get? a=none
def Rl(B:RP)(r:ac)(a:Addr)(o:Obj):Prop:=(a,o)∈r\/B a o
theorem Rl.sub{B:RP}{r r':ac}(k:∀ p∈r,p∈r')(a:Addr)(o:Obj)(x:Rl B r a o):Rl B r' a o:=x.imp (k _) fun y=>y
end
section
variable {E:VP} {gs ns:List Str} {A:Around} {env:Env} {V:Heap} {fx:ac} {l l':ac} {vs:LO} {h:Heap}
mutual
theorem Fs.rlB{B:RP}{m r:ac}(S:Fs c gs ns env V fx vs (m++r) h)(hB:∀ a o,B a o->In V fx a o)(a:Addr)(o:Obj)(x:Rl B r a o):bo (m.map (·.1)) h a o:=by
 rcases x with x|x
 ·refine⟨S.own _ (jh _ x),(S.ap _ (jh _ x)).2.1,fun q=>?_⟩;obtain⟨p,hp,e⟩:=jM.mp q;exact S.ord.apart p hp _ x e.symm
 ·exact S.hsB a o (hB a o x)
theorem Fs.rlNf{g:Heap}{r:ac}(S:Fs c gs ns env (g.hide ag) fx vs r h)(a:Addr)(o:Obj)(x:(a,o)∈r\/(a,o)∈fx):Nf g h a o:=by
 have ap:co env (g.hide ag) a:=x.elim (fun m=>S.ap _ m) fun m=>(S.off _ m).1;refine⟨x.elim (S.own _) (S.fix _),ap.2.1,?_⟩;rw[<- Heap.hide_ne g ap.2.1]; exact ap.2.2
theorem Fs.takeBoth{ents:ac}{b:Addr}{o:Obj}{h':Heap}(S:Fs c gs ns env V fx vs l h)(k:bU h h')(x:∀ p∈ents,Nw h h' p.1 p.2/\p.1≠b)(y:Nw h h' b o):Fs c gs ns env V (ents++fx) vs ((b,o)::l) h' :=
 let S':=S.takeFs k fun p hp=>(x p hp).1
 {S' with
  own:=af (y.1) fun p hp=>S'.own p hp
  ord:=⟨fun q hq=>jv (js (jw (S.own q hq)) y.2),S.ord⟩
  ap:=af (S.fresh y.2) fun p hp=>S.ap p hp
  off:=fun p hp=>⟨(S'.off p hp).1,fun q hq=>by
   rcases jf.mp hq with rfl|hq
   ·rcases jg.mp hp with hp|hp
    ·exact(x p hp).2
    ·exact jv (js (jw (S.fix p hp)) y.2)
   ·exact(S'.off p hp).2 q hq⟩ }
theorem Fs.takeNf{h':Heap}{P:(RP)->Prop}(S:Fs c gs ns env V fx vs l h)(k:bU h h')(s:az (Nf h h') P):∃ ents,Fs c gs ns env V (ents++fx) vs l h'/\P (In V (ents++fx)):=by
 obtain⟨ents,a,b⟩:=s;refine⟨ents,{ S.after k with
  fix:=fun p hp=>(jg.mp hp).elim (fun e=>(a p e).1) ((S.after k).fix p)
  off:=fun p hp=>(jg.mp hp).elim (fun e=>⟨⟨fun q=>?_,(a p e).2.1,?_⟩,fun q hq e'=>?_⟩) ((S.after k).off p) },b _ fun p hp=>.inr (ji _ hp)⟩
 ·obtain⟨o,Z,Z,e1,Z⟩:=S.fr.ns;have:=(a p e).2.2;rw[q,e1] at this; cases this
 ·cases e1:V.get? p.1 with
  | none=>rfl
  | some o=>have:=(a p e).2.2; rw[S.keep e1] at this; cases this
 ·have:=(a p e).2.2;rw[e',S.own q hq] at this; cases this
theorem Fs.ownNews{vs':LO}{h':Heap}(S':Fs c gs ns env V fx vs' l' h')(S:Fs c gs ns env V fx vs l h)(he:l'.map (·.1)=l.map (·.1))(ents:ac):(∀ p∈ents,Nw h h' p.1 p.2)->bn ents->Fs c gs ns env V fx vs' (ents++l') h':=by
 induction ents with
 | nil=>exact fun Z Z=>S'
 | cons p r ih =>
  intro x d;have ih:=ih (fun p hp=>x p (.tail _ hp)) d.2;have w:=x p (.head _);exact{ ih with
   own:=af (w.1) fun p hp=>ih.own p hp
   ord:=⟨fun q hq=>(jg.mp hq).elim (d.1 q) fun hq=>by
    obtain⟨z,hz,e'⟩:=af9 he hq;rw[<- e'];exact jv (js (jw (S.own z hz)) w.2),ih.ord⟩
   ap:=af (S.fresh w.2) fun p hp=>ih.ap p hp
   off:=fun p hp=>⟨(ih.off p hp).1,af (jv (js (jw (S.fix p hp)) w.2)) fun q hq=>(ih.off p hp).2 q hq⟩ }
end
end
def eD(R:RP)(x dx:Addr)(dv:Value)(es:List DictEntry)(st:List Int)(vals:List PyData):Prop :=
 eE fun sa va sv vv n1 n2=>eG (R x (instObj 554 dx)) (bN es (dE dv sa va)) (R sa (listOf (List.toArray sv) n1)) (IntsAre sv st) (R va (listOf (List.toArray vv) n2)) (aw R vv vals)
theorem eD.mono{R R':RP}{x dx:Addr}{dv:Value}{es:List DictEntry}{st:List Int}{vals:List PyData}(i:eD R x dx dv es st vals)(k:∀ a o,R a o->R' a o):eD R' x dx dv es st vals:=by
 obtain⟨sa,va,sv,vv,n1,n2,a,b,d,e,f,g⟩:=i;exact⟨sa,va,sv,vv,n1,n2,k _ _ a,b,k _ _ d,e,k _ _ f,g.mono k⟩
section
variable {E:VP} {gs ns:List Str} {A:Around} {env:Env} {V:Heap} {fx:ac} {vs:LO} {h:Heap}
theorem ad2{B:RP}(hB:∀ a o,B a o->In V fx a o){T r:ac}{x dd mm pp ww rm dx:Addr}{mo:Obj}{es:List DictEntry}{n:Nat}{kvm:List (Str×Value)}{name:Str}{tn:Tok}{dv:Value}{st:List Int}{vals:List PyData}{v:Value}{d:PyData}{f l:Int}{tf tl:Tok}{Q:VP}
  (S:Fs c gs ns env V fx vs (T++(dx,dictOf es n)::(mm,mo)::r) h) (i:bt B x 610 (dL dd mm pp ww)) (nm:dT mm) (im:Obj.IsDictOf (sK c) mo kvm) (hn:valueAt kvm name=some (.ref rm)) (rmf:eD (Rl B r) rm dx dv es st vals) (id:VI (Rl B T) v d) (ok:cG st vals f l d) {a:Nat} (ar:Ar A a) (ha:8<=a)
  (k:∀ es' n' r' h',Fs c gs ns env V fx vs ((dx,dictOf es' n')::(mm,mo)::r') h'->eD (Rl B r') rm dx dv es' (ap1 st vals f l d) (ap0 st vals f l d)->Q .none h'):Wp c E A (call (.ref 593) [.ref x,.str name tn,.int f tf,.int l tl,v]) Q h:=by
 obtain⟨sa,va,sv,vv,n1,n2,a1,a2,a3,a4,a5,a6⟩:=rmf;have S:=Fs.front (a:=T) S;have hs0:=Fs.rlB (m:=[(dx,dictOf es n)]) (r:=T++(mm,mo)::r) S hB;have up:∀ a o,Rl B (T++r) a o->Rl B (T++(mm,mo)::r) a o:=Rl.sub fun p hp=>(jg.mp hp).elim (ji _) fun q=>jh _ (.tail _ q);have hs:∀ a o,Rl B (T++r) a o->bo [dx] h a o:=fun a o y=>hs0 a o (up a o y);have ur:∀ a o,Rl B r a o->Rl B (T++r) a o:=Rl.sub fun p hp=>jh _ hp;have uT:∀ a o,Rl B T a o->Rl B (T++r) a o:=Rl.sub fun p hp=>ji _ hp;refine am9 (m:=[(dx,dictOf es n)]) (r:=T++(mm,mo)::r) S (a64 (Fs.goodM (r:=T++(mm,mo)::r) S) (i.mono fun a o y=>hs a o (.inr y)) ⟨nm,mo,hs0 _ _ (.inl (jh _ (.head _))),im⟩ hn (R:=Rl B (T++r)) hs (hs _ _ (ur _ _ a1)) a2 (hs _ _ (ur _ _ a3)) a4 (hs _ _ (ur _ _ a5)) (a6.mono ur) (id.mono uT) ok) ar ha fun v m' h' e S2 hz q'=>?_;obtain⟨e1,es',n',e2,sa',va',sv',vv',k1,k2,q1,q2,q3,q4,q5,q6⟩:=q';subst e1 e2;have S3:=Fs.ownNews (l':=(dx,dictOf es' n')::(T++(mm,mo)::r)) S2 S rfl [(sa',listOf sv'.toArray k1),(va',listOf vv'.toArray k2)] (by
  intro p hp;simp only[jf,jm,or_false] at hp
  rcases hp with rfl|rfl
  ·exact q2
  ·exact q4) ⟨fun q hq=>by rw[je.mp hq]; exact q6.symm,fun q hq=>absurd hq jm,trivial⟩
 have S4:=Fs.front (a:=[(sa',listOf sv'.toArray k1),(va',listOf vv'.toArray k2),(dx,dictOf es' n')]++T) (p:=(mm,mo)) (b:=r) (by simpa using S3);have S5:=Fs.front (a:=[(mm,mo),(sa',listOf sv'.toArray k1),(va',listOf vv'.toArray k2)]) (p:=(dx,dictOf es' n')) (b:=T++r) (by simpa using S4);have u2:∀ a o,Rl B (T++r) a o->Rl B ((sa',listOf sv'.toArray k1)::(va',listOf vv'.toArray k2)::(T++r)) a o:=Rl.sub fun p hp=>.tail _ (.tail _ hp);exact k es' n' ((sa',listOf sv'.toArray k1)::(va',listOf vv'.toArray k2)::(T++r)) h' S5 ⟨sa',va',sv',vv',k1,k2,u2 _ _ (ur _ _ a1),q1,.inl (.head _),q3,.inl (.tail _ (.head _)),q5.mono u2⟩
theorem aj1{B:RP}(hB:∀ a o,B a o->In V fx a o){r:ac}{x dd mm pp ww:Addr}{o:Obj}{kvm kvs:List (Str×Value)}{name:Str}{tn:Tok}{dv:Value}{dvd:PyData}{v:Value}{d:PyData}{f l:Int}{tf tl:Tok}{Q:VP}
  (S:Fs c gs ns env V fx vs ((mm,o)::r) h) (i:bt (Rl B r) x 610 (dL dd mm pp ww)) (im:Obj.IsDictOf (sK c) o kvm) (nm:dT mm) (hz:kvm.length<=1000) (ds:DI (sK c) (Rl B r) dd kvs) (hn:valueAt kvm name=none) (hd:valueAt kvs name=some dv) (idv:VI (Rl B r) dv dvd) (id:VI (Rl B r) v d) (ok:cG [0] [dvd] f l d) {a:Nat} (ar:Ar A a) (ha:8<=a)
  (k:∀ o' x' dx' es' n' r' h',(∀ p∈r,p∈r')->Fs c gs ns env V fx vs ((mm,o')::(dx',dictOf es' n')::r') h'->Obj.IsDictOf (sK c) o' (stored kvm name (.ref x'))->eD (Rl B r') x' dx' dv es' (ap1 [0] [dvd] f l d) (ap0 [0] [dvd] f l d)->Q .none h'):Wp c E A (call (.ref 593) [.ref x,.str name tn,.int f tf,.int l tl,v]) Q h:=by
 have hs:=Fs.rlB (m:=[(mm,o)]) (r:=r) S hB;refine am9 (m:=[(mm,o)]) (r:=r) S (a65 (Fs.goodM (r:=r) S) (i.mono hs) im nm hz (ds.mono hs) hn hd (R:=Rl B r) hs idv id ok) ar ha fun v m' h' e S2 hz q'=>?_;obtain⟨e1,o',x',dx',es',n',e2,io,w1,w2,sa',va',sv',vv',k1,k2,q1,q2,q3,q4,q5,q6⟩:=q';subst e1 e2;have ne:∀ {a b:Addr} {o1 o2:Obj},Nw h h' a o1->Nw h h' b o2->o1≠o2->a≠b:=fun w w' ne e=>by
  have w1:=w.1;rw[e,w'.1] at w1
  cases w1
  exact ne rfl
 have S3:=Fs.ownNews (l':=(mm,o')::r) S2 S rfl [(dx',dictOf es' n'),(x',instObj 554 dx'),(sa',listOf sv'.toArray k1),(va',listOf vv'.toArray k2)] (by
  intro p hp;simp only[jf,jm,or_false] at hp
  rcases hp with rfl|rfl|rfl|rfl
  ·exact w2
  ·exact w1
  ·exact q2
  ·exact q4) (by
  refine⟨fun q hq=>?_,fun q hq=>?_,fun q hq=>?_,fun q hq=>absurd hq jm,trivial⟩
  ·simp only[jf,jm,or_false] at hq
   rcases hq with rfl|rfl|rfl
   ·exact ne w1 w2 (by intro e; have:=congrArg Obj.cls e; simp at this)
   ·exact ne q2 w2 (by intro e; have:=congrArg Obj.cls e; simp at this)
   ·exact ne q4 w2 (by intro e; have:=congrArg Obj.cls e; simp at this)
  ·simp only[jf,jm,or_false] at hq
   rcases hq with rfl|rfl
   ·exact ne q2 w1 (by intro e; have:=congrArg Obj.cls e; simp at this)
   ·exact ne q4 w1 (by intro e; have:=congrArg Obj.cls e; simp at this)
  ·rw[je.mp hq]; exact q6.symm)
 have S4:=Fs.front (a:=[(dx',dictOf es' n'),(x',instObj 554 dx'),(sa',listOf sv'.toArray k1),(va',listOf vv'.toArray k2)]) (p:=(mm,o')) (b:=r) S3;exact k o' x' dx' es' n' _ h' (fun p hp=>.tail _ (.tail _ (.tail _ hp))) S4 io ⟨sa',va',sv',vv',k1,k2,.inl (.head _),q1,.inl (.tail _ (.head _)),q3,.inl (.tail _ (.tail _ (.head _))),q5.mono (Rl.sub fun p hp=>.tail _ (.tail _ (.tail _ hp)))⟩
end
mutual
noncomputable def ah:List Int:=[97,101,769,45,233,46,95,65,223,19968,8205,173,120,110]
noncomputable def dW(s:Str)(t:List PyData):PyData:=.tuple [.str s,.tuple t]
noncomputable abbrev dD:=List Int×List PyData
noncomputable def ab7(p:dD)(f:Int)(d:PyData):dD:=(ap1 p.1 p.2 f f d,ap0 p.1 p.2 f f d)
noncomputable def ch9:dD:=([0],[dW "disallowed" []])
noncomputable def al8(i:Nat):dD:=(ah.take i).foldl (fun p c=>ab7 p c (dW "valid" [])) ch9
noncomputable def cZ(p:dD)(f:Int)(d:PyData):Bool :=
 decide (0<=f)&&decide (f<=1114111)&&decide (p.1.length=p.2.length)&&decide (p.1.length<=1000)&&decide (0<=cU p.1 f)&&decide (cU p.1 f<=p.1.length)&&decide (1<=cV p.1 f)&&decide (cV p.1 f<=p.1.length)&&p.2.all (fun e=>decide (e.depth<=4))&&decide (d.depth<=4)
theorem cG.ofB{p:dD}{f:Int}{d:PyData}(h:cZ p f d=true):cG p.1 p.2 f f d:=by
 unfold cZ at h;simp only[jC,decide_eq_true_eq,List.all_eq_true] at h;obtain⟨⟨⟨⟨⟨⟨⟨⟨⟨a,b⟩,c⟩,d⟩,e⟩,f⟩,g⟩,i⟩,j⟩,k⟩:=h;exact⟨a,Int.le_refl _,b,c,d,e,f,g,i,j,k⟩
theorem bz0:∀ i<14,cZ (al8 i) (ah.getD i 0) (dW "valid" [])=true:=by decide +kernel
theorem ay8(i:Nat)(h:i<14):al8 (i+1)=ab7 (al8 i) (ah.getD i 0) (dW "valid" []):=by
 have e:ah[i]?=some (ah.getD i 0):=an6 h;unfold al8;rw[List.take_add_one,e,List.foldl_append]
 rfl
noncomputable def ce1:dD:=ab7 (al8 14) 95 (dW "disallowed_STD3_valid" [])
noncomputable def ce0:dD:=ab7 ce1 65 (dW "mapped" [.int 97])
noncomputable def cd9:dD:=ab7 ce0 223 (dW "deviation" [.int 115,.int 115])
noncomputable def cd8:dD:=ab7 cd9 8205 (dW "deviation" [])
noncomputable def dJ:dD:=ab7 cd8 173 (dW "ignored" [])
noncomputable def eY:dD:=ab7 ([0],[.none]) 233 (.tuple [.str "", .tuple [.int 101,.int 769]])
noncomputable def a70:dD:=ab7 ([0],[.int 0]) 769 (.int 230)
noncomputable def eX:dD:=ab7 ([0],[.str "Cn"]) 769 (.str "Mn")
theorem ok1:cZ (al8 14) 95 (dW "disallowed_STD3_valid" [])=true:=by decide +kernel
theorem ok2:cZ ce1 65 (dW "mapped" [.int 97])=true:=by decide +kernel
theorem ok3:cZ ce0 223 (dW "deviation" [.int 115,.int 115])=true:=by decide +kernel
theorem ok4:cZ cd9 8205 (dW "deviation" [])=true:=by decide +kernel
theorem ok5:cZ cd8 173 (dW "ignored" [])=true:=by decide +kernel
theorem ok6:cZ ([0],[.none]) 233 (.tuple [.str "", .tuple [.int 101,.int 769]])=true:=by decide +kernel
theorem ok7:cZ ([0],[.int 0]) 769 (.int 230)=true:=by decide +kernel
theorem ok8:cZ ([0],[.str "Cn"]) 769 (.str "Mn")=true:=by decide +kernel
theorem ax1(P:Params):av fun its n=>(Mine.hd.heap_39 P).lookup 615=some { cls:=.type "tuple", data:=.seq (List.toArray its) n }/\IntsAre its ah:=⟨_,_,by k_is,by repeat constructor⟩
def Mb(ents:ac)(a:Addr)(o:Obj):Prop:=(a,o)∈ents
def dq(R:RP)(x:Addr)(dv:Value)(st:List Int)(vals:List PyData):Prop:=∃ vv,RM R x dv st vv/\aw R vv vals
theorem dq.mono{R R':RP}{x:Addr}{dv:Value}{st:List Int}{vals:List PyData}(i:dq R x dv st vals)(k:∀ a o,R a o->R' a o):dq R' x dv st vals:=by obtain⟨vv,a,b⟩:=i; exact⟨vv,a.mono k,b.mono k⟩
theorem dq.of{R:RP}{x dx:Addr}{dv:Value}{es:List DictEntry}{n:Nat}{st:List Int}{vals:List PyData}(i:eD R x dx dv es st vals)(h:R dx (dictOf es n)):dq R x dv st vals:=by
 obtain⟨sa,va,sv,vv,n1,n2,a,b,d,e,f,g⟩:=i;exact⟨vv,⟨sa,va,sv,n1,n2,⟨dx,es,n,a,h,b⟩,d,e,f⟩,g⟩
def aV(_:Cx)(R:RP)(x:Addr):Prop:=ax9 fun dd mm pp ww kvs x1 x2 x3 x4 d1 d3 d4 =>
 An8 (bt R x 610 (dL dd mm pp ww)) (DI (sK c) R dd kvs) (ak1 R kvs) (DI (sK c) R mm [("idna", .ref x1),("dm", .ref x2),("ccc", .ref x3),("gc", .ref x4)]) (dq R x1 d1 dJ.1 dJ.2) (dq R x2 .none eY.1 eY.2) (dq R x3 d3 a70.1 a70.2) (dq R x4 d4 eX.1 eX.2)
theorem aV.mono{R R':RP}{x:Addr}(i:aV c R x)(k:∀ a o,R a o->R' a o):aV c R' x:=by
 obtain⟨dd,mm,pp,ww,kvs,x1,x2,x3,x4,d1,d3,d4,a,b,e,f,g,h,i,j⟩:=i;exact⟨dd,mm,pp,ww,kvs,x1,x2,x3,x4,d1,d3,d4,a.mono k,b.mono k,e.mono k,f.mono k,g.mono k,h.mono k,i.mono k,j.mono k⟩
theorem a87{g:Heap}(G:ak c g):Ct c 9 (.ref 630) [] g (fun r h'=>∃ x,r=.ref x/\aV c (Nf g h') x):=by
 refine al G (by k_is) (by k_is) (binds:=[]) (fun s X=>jx rfl) (rest:=["data", "code"]) (ns:=["data", "code"]) rfl (vs:=[none,none]) rfl (gs:=["Data", "_law_codes"]) (by decide +kernel) ?_;intro A L h ar hL Z Z S Z Z;ext;refine ba S (ap5 S.good (by8 S.good) (by k_is) (by k_is) (by k_is)) ar fun v h S1 k1 q'=>?_;obtain⟨x,e,hx,dn⟩:=q';subst e;obtain⟨dd,mm,pp,ww,kvs,n1,n2,n3,nm,n4⟩:=dn;obtain⟨ents,en,eb⟩:=n1.supp.and (n2.supp.and n3.supp);have S2:=S.takeBoth k1 en n4;rw[jD] at S2;obtain⟨b1,b2,b3⟩:=eb (Mb ents) fun p hp=>hp;have S:=S2;obtain⟨its,nt,ht,ii⟩:=ax1 c.w.params;have ht:=S.gd.X _ _ ht;obtain⟨v0,hv0,iv0⟩:=b3.idna
 iterate 4 walk_at"s"
 ext;refine as6 ar.handled S (.inl ht) fun it h S src=>?_;refine aS (src _ _) S (fun i vs l=>∃ u,vs=[some (.ref x),u]/\((i=0/\l=[(mm,dictOf [] 0)])\/eE fun rm dx es n mo r=>bK (0<i) (l=(dx,dictOf es n)::(mm,mo)::r) (Obj.IsDictOf (sK c) mo [("idna", .ref rm)]) (eD (Rl (Mb ents) r) rm dx v0 es (al8 i).1 (al8 i).2))) ⟨none,rfl,.inl ⟨rfl,rfl⟩⟩ ?_ ?_
 ·rintro Z Z i v vs l h own hi hv ⟨u,rfl,st⟩ S;have hi:i<14:=by have:=ii.length; simp [ah] at this; exact c49 hi this
  obtain⟨tk,e⟩:=au ii (k:=i) (by simpa [ah] using hi);rw[hv] at e
  cases e
  have ok:=cG.ofB (bz0 i hi);have hB:∀ a o,Mb ents a o->In (g.hide ag) (own++ents) a o:=fun a o y=>.inr (jh _ y);ext;refine bx S (b1.mono hB) (da _).1 (by show(_:Str)∉(["defaults", "maps", "properties", "words"]:List Str); decide +kernel) ?_;ext;have idn:∀ {t1 t2:Addr} {tk:Tok} {r:ac},VI (Rl (Mb ents) ((t2,ai0 [Value.str "valid" tk,Value.ref t1])::(t1,ai0 [])::r)) (.ref t2) (dW "valid" []) :=
   .tup (n:=0) (.inl (.head _)) (by simp) (.cons (.str _ _ (by decide +kernel)) (.cons (.tup (vs:=[]) (n:=0) (.inl (.tail _ (.head _))) (by simp) .nil) .nil))
  rcases st with⟨rfl,rfl⟩|⟨rm,dx,es,n,mo,r,h0,rfl,io,rmf⟩
  ·refine aj1 hB (Fs.front2 S) (b1.mono fun a o y=>.inr y) ba3 nm (by simp) (b2.mono fun a o y=>.inr y) rfl hv0 (iv0.mono fun a o y=>.inr y) idn ok ar (by decide) fun o' x' dx' es' n' r' h' sub S io rmf=>?_;ext;refine⟨_,_,⟨_,rfl,.inr ⟨x',dx',es',n',o',_,by decide,rfl,io,?_⟩⟩,Fs.front1 S⟩;rw[ay8 0 hi];exact rmf
  ·refine ad2 (T:=[_,_]) hB S (b1.mono fun a o y=>y) nm io rfl rmf idn ok ar (by decide) fun es' n' r' h' S rmf=>?_;ext;refine⟨_,_,⟨_,rfl,.inr ⟨rm,dx,es',n',mo,_,Nat.succ_pos _,rfl,io,?_⟩⟩,S⟩;rw[ay8 i hi];exact rmf
 ·rintro vs l h ⟨u,rfl,st⟩ S;have e14:its.length=14:=by rw[ii.length]; rfl
  rw[e14] at st
  rcases st with⟨e,_⟩|⟨rm,dx,es,n,mo,r,h0,rfl,io,rmf⟩
  ·cases e
  have hB0:∀ a o,Mb ents a o->In (g.hide ag) ents a o:=fun Z Z y=>.inr y;ext;refine bx S (b1.mono hB0) (da _).1 (by show(_:Str)∉(["defaults", "maps", "properties", "words"]:List Str); decide +kernel) ?_;ext;refine ad2 (T:=[_,_]) hB0 S b1 nm io rfl rmf (.tup (vs:=[_,_]) (n:=0) (.inl (.head _)) (by simp) (.cons (.str _ _ (by decide +kernel)) (.cons (.tup (vs:=[]) (n:=0) (.inl (.tail _ (.head _))) (by simp) .nil) .nil))) (cG.ofB ok1) ar (by decide) fun es n r h S rmf=>?_;ext;refine bx S (b1.mono hB0) (da _).1 (by show(_:Str)∉(["defaults", "maps", "properties", "words"]:List Str); decide +kernel) ?_;ext;refine ad2 (T:=[_,_]) hB0 S b1 nm io rfl rmf (.tup (vs:=[_,_]) (n:=0) (.inl (.head _)) (by simp) (.cons (.str _ _ (by decide +kernel)) (.cons (.tup (vs:=[_]) (n:=0) (.inl (.tail _ (.head _))) (by simp) (.cons (.int _ _) .nil)) .nil))) (cG.ofB ok2) ar (by decide) fun es n r h S rmf=>?_;ext;refine bx S (b1.mono hB0) (da _).1 (by show(_:Str)∉(["defaults", "maps", "properties", "words"]:List Str); decide +kernel) ?_;ext;refine ad2 (T:=[_,_]) hB0 S b1 nm io rfl rmf (.tup (vs:=[_,_]) (n:=0) (.inl (.head _)) (by simp) (.cons (.str _ _ (by decide +kernel)) (.cons (.tup (vs:=[_,_]) (n:=0) (.inl (.tail _ (.head _))) (by simp) (.cons (.int _ _) (.cons (.int _ _) .nil))) .nil))) (cG.ofB ok3) ar (by decide) fun es n r h S rmf=>?_;ext;refine bx S (b1.mono hB0) (da _).1 (by show(_:Str)∉(["defaults", "maps", "properties", "words"]:List Str); decide +kernel) ?_;ext;refine ad2 (T:=[_,_]) hB0 S b1 nm io rfl rmf (.tup (vs:=[_,_]) (n:=0) (.inl (.head _)) (by simp) (.cons (.str _ _ (by decide +kernel)) (.cons (.tup (vs:=[]) (n:=0) (.inl (.tail _ (.head _))) (by simp) .nil) .nil))) (cG.ofB ok4) ar (by decide) fun es n r h S rmf=>?_;ext;refine bx S (b1.mono hB0) (da _).1 (by show(_:Str)∉(["defaults", "maps", "properties", "words"]:List Str); decide +kernel) ?_;ext;refine ad2 (T:=[_,_]) hB0 S b1 nm io rfl rmf (.tup (vs:=[_,_]) (n:=0) (.inl (.head _)) (by simp) (.cons (.str _ _ (by decide +kernel)) (.cons (.tup (vs:=[]) (n:=0) (.inl (.tail _ (.head _))) (by simp) .nil) .nil))) (cG.ofB ok5) ar (by decide) fun es n r h S rmf=>?_;have rv1:dq (Rl (Mb ents) ((dx,dictOf es n)::r)) rm v0 dJ.1 dJ.2:=dq.of (rmf.mono (Rl.sub fun p hp=>.tail _ hp)) (.inl (.head _));ext;refine bx S (b1.mono hB0) (da _).1 (by show(_:Str)∉(["defaults", "maps", "properties", "words"]:List Str); decide +kernel) ?_;ext;refine aj1 hB0 (Fs.front (a:=[_,_,_]) S) (b1.mono fun a o y=>.inr y) io nm (by simp) (b2.mono fun a o y=>.inr y) rfl b3.dm .none (.tup (vs:=[_,_]) (n:=0) (.inl (.head _)) (by simp) (.cons (.str _ _ (by decide +kernel)) (.cons (.tup (vs:=[_,_]) (n:=0) (.inl (.tail _ (.head _))) (by simp) (.cons (.int _ _) (.cons (.int _ _) .nil))) .nil))) (cG.ofB ok6) ar (by decide) fun o2 x2 dx2 es2 n2 r2 h sub S io2 rmf2=>?_;have io2:Obj.IsDictOf (sK c) o2 [("idna", .ref rm),("dm", .ref x2)]:=io2;have rv1:=rv1.mono (Rl.sub (r':=(dx2,dictOf es2 n2)::r2) fun p hp=>.tail _ (sub _ (.tail _ (.tail _ hp))));have rv2:dq (Rl (Mb ents) ((dx2,dictOf es2 n2)::r2)) x2 .none eY.1 eY.2:=dq.of (rmf2.mono (Rl.sub fun p hp=>.tail _ hp)) (.inl (.head _));ext;refine bx S (b1.mono hB0) (da _).1 (by show(_:Str)∉(["defaults", "maps", "properties", "words"]:List Str); decide +kernel) ?_;ext;obtain⟨tc,hdc⟩:=b3.ccc;refine aj1 hB0 S (b1.mono fun a o y=>.inr y) io2 nm (by simp) (b2.mono fun a o y=>.inr y) rfl hdc (.int _ _) (.int _ _) (cG.ofB ok7) ar (by decide) fun o3 x3 dx3 es3 n3 r3 h sub S io3 rmf3=>?_;have io3:Obj.IsDictOf (sK c) o3 [("idna", .ref rm),("dm", .ref x2),("ccc", .ref x3)]:=io3;have rv1:=rv1.mono (Rl.sub (r':=(dx3,dictOf es3 n3)::r3) fun p hp=>.tail _ (sub _ hp));have rv2:=rv2.mono (Rl.sub (r':=(dx3,dictOf es3 n3)::r3) fun p hp=>.tail _ (sub _ hp));have rv3:dq (Rl (Mb ents) ((dx3,dictOf es3 n3)::r3)) x3 _ a70.1 a70.2:=dq.of (rmf3.mono (Rl.sub fun p hp=>.tail _ hp)) (.inl (.head _));ext;refine bx S (b1.mono hB0) (da _).1 (by show(_:Str)∉(["defaults", "maps", "properties", "words"]:List Str); decide +kernel) ?_;ext;obtain⟨tg,hdg⟩:=b3.gc;refine aj1 hB0 S (b1.mono fun a o y=>.inr y) io3 nm (by simp) (b2.mono fun a o y=>.inr y) rfl hdg (.str _ _ (by decide +kernel)) (.str _ _ (by decide +kernel)) (cG.ofB ok8) ar (by decide) fun o4 x4 dx4 es4 n4 r4 h sub S io4 rmf4=>?_;have io4:Obj.IsDictOf (sK c) o4 [("idna", .ref rm),("dm", .ref x2),("ccc", .ref x3),("gc", .ref x4)]:=io4;have rv1:=rv1.mono (Rl.sub (r':=(dx4,dictOf es4 n4)::r4) fun p hp=>.tail _ (sub _ hp));have rv2:=rv2.mono (Rl.sub (r':=(dx4,dictOf es4 n4)::r4) fun p hp=>.tail _ (sub _ hp));have rv3:=rv3.mono (Rl.sub (r':=(dx4,dictOf es4 n4)::r4) fun p hp=>.tail _ (sub _ hp));have rv4:dq (Rl (Mb ents) ((dx4,dictOf es4 n4)::r4)) x4 _ eX.1 eX.2:=dq.of (rmf4.mono (Rl.sub fun p hp=>.tail _ hp)) (.inl (.head _));ext;have nf:∀ a o,Rl (Mb ents) ((dx4,dictOf es4 n4)::r4) a o->Nf g h a o:=fun a o y=>S.rlNf a o (y.imp (.tail _) fun z=>z);have nfB:∀ a o,Mb ents a o->Nf g h a o:=fun a o y=>S.rlNf a o (.inr y);exact⟨S.kept hL,x,rfl,dd,mm,pp,ww,kvs,rm,x2,x3,x4,_,_,_,b1.mono nfB,b2.mono nfB,b3.mono nfB,⟨nm,o4,S.rlNf _ _ (.inl (.head _)),io4⟩,rv1.mono nf,rv2.mono nf,rv3.mono nf,rv4.mono nf⟩
noncomputable def wt(code:Int):Int:=if code=769 then 230 else 0
theorem dk6(a b x:Int)(h0:0<=x)(hb:b=a+1):cI [0,a,b] x=if x<a then 0 else if x=a then 1 else 2:=by
 subst hb
 show((dH [0,a,a+1] x 3 0 3:Nat):Int)-1=_
 have e:dH [0,a,a+1] x 3 0 3=if x<a then 1 else if x=a then 2 else 3:=by
  by_cases h1:x<a
  ·rw[if_pos h1];exact(ai7 (k:=2) (by decide)).trans ((if_neg (show ¬ a<=x from ct2 h1)).trans ((ai7 (k:=1) (by decide)).trans ((if_pos (show 0<=x from h0)).trans (aa8 _ _ _ _ _ (by decide)))))
  ·rw[if_neg h1];refine(ai7 (k:=2) (by decide)).trans ((if_pos (show a<=x from b81 h1)).trans ((ai7 (k:=1) (by decide)).trans ?_))
   by_cases h3:x=a
   ·rw[if_pos h3];exact(if_neg (show ¬ a+1<=x from h3▸co2)).trans (aa8 _ _ _ _ _ (by decide))
   ·rw[if_neg h3];exact(if_pos (show a+1<=x from cz0 h1 h3)).trans (aa8 _ _ _ _ _ (by decide))
 rw[e]
 split
 ·rfl
 ·split<;>rfl
theorem b10:a70=([0,769,770],[.int 0,.int 230,.int 0]):=by kernel_rfl
theorem bj5:eY=([0,233,234],[.none,.tuple [.str "", .tuple [.int 101,.int 769]],.none]):=by kernel_rfl
theorem ce3:eX=([0,769,770],[.str "Cn", .str "Mn", .str "Cn"]):=by kernel_rfl
theorem bc7{R:RP}{vv:List Value}{a b:Int}{x:Int}{p q r:PyData}(h0:0<=x)(hb:b=a+1)(i:aw R vv [p,q,r]):∃ v,bK (0<=cI [0,a,b] x) (cI [0,a,b] x<3) (vv[(cI [0,a,b] x).toNat]?=some v) (VI R v (if x<a then p else if x=a then q else r)):=by
 rw[dk6 a b x h0 hb]
 split
 ·obtain⟨v,e,y⟩:=i.getd (i:=0) rfl;exact⟨v,by decide,by decide,e,y⟩
 ·split
  ·obtain⟨v,e,y⟩:=i.getd (i:=1) rfl;exact⟨v,by decide,by decide,e,y⟩
  ·obtain⟨v,e,y⟩:=i.getd (i:=2) rfl;exact⟨v,by decide,by decide,e,y⟩
end
section
variable {h:Heap} (G:ak c h) {R:RP} (hR:∀ a o,R a o->Hs h a o) {x:Addr} (D:aV c R x) {code:Int} {t tn:Tok}
include G hR D
mutual
theorem ab5(h0:0<=code):Ct c 3 (.ref 600) [.ref x,.str "ccc" tn,.int code t] h (fun r Z=>∃ t,r=.int (wt code) t):=by
 obtain⟨dd,mm,pp,ww,kvs,x1,x2,x3,x4,d1,d3,d4,i,ds,df,dm,r1,r2,⟨vv,r3,y3⟩,r4⟩:=D;rw[b10] at r3 y3;dsimp only at r3 y3;obtain⟨v,a,b,e,y⟩:=bc7 (a:=769) (b:=770) h0 (by decide) y3;have ct:=ag6 G (i.mono hR) (dm.mono hR) (tn:=tn) (name := "ccc") rfl (r3.mono hR) code t (by simp) a e (bn0 b);intro A ar;refine(ct A ar).mono (fun v h ⟨k,q⟩=>⟨k,?_⟩) fun Z Z z=>z;subst q;unfold wt
 split at y
 ·cases y with|int n t=>exact⟨t,by rw[if_neg (b38 (by assumption))]⟩
 ·split at y
  ·cases y with|int n t=>exact⟨t,by rw[if_pos (by assumption)]⟩
  ·cases y with|int n t=>exact⟨t,by rw[if_neg (by assumption)]⟩
theorem bk9(h0:0<=code):Ct c 3 (.ref 600) [.ref x,.str "dm" tn,.int code t] h (fun r Z=>VI R r (if code=233 then .tuple [.str "", .tuple [.int 101,.int 769]] else .none)):=by
 obtain⟨dd,mm,pp,ww,kvs,x1,x2,x3,x4,d1,d3,d4,i,ds,df,dm,r1,⟨vv,r3,y3⟩,r2,r4⟩:=D;rw[bj5] at r3 y3;dsimp only at r3 y3;obtain⟨v,a,b,e,y⟩:=bc7 (a:=233) (b:=234) h0 (by decide) y3;have ct:=ag6 G (i.mono hR) (dm.mono hR) (tn:=tn) (name := "dm") rfl (r3.mono hR) code t (by simp) a e (bn0 b);intro A ar;refine(ct A ar).mono (fun v h ⟨k,q⟩=>⟨k,?_⟩) fun Z Z z=>z;subst q
 split at y
 ·rw[if_neg (cs8 (by assumption))]; exact y
 ·split at y
  ·rw[if_pos (by assumption)]; exact y
  ·rw[if_neg (by assumption)]; exact y
theorem bk7(h0:0<=code):Ct c 3 (.ref 600) [.ref x,.str "gc" tn,.int code t] h (fun r Z=>∃ t,r=.str (if code=769 then "Mn" else "Cn") t):=by
 obtain⟨dd,mm,pp,ww,kvs,x1,x2,x3,x4,d1,d3,d4,i,ds,df,dm,r1,r2,r4,⟨vv,r3,y3⟩⟩:=D;rw[ce3] at r3 y3;dsimp only at r3 y3;obtain⟨v,a,b,e,y⟩:=bc7 (a:=769) (b:=770) h0 (by decide) y3;have ct:=ag6 G (i.mono hR) (dm.mono hR) (tn:=tn) (name := "gc") rfl (r3.mono hR) code t (by simp) a e (bn0 b);intro A ar;refine(ct A ar).mono (fun v h ⟨k,q⟩=>⟨k,?_⟩) fun Z Z z=>z;subst q
 split at y
 ·rw[if_neg (b38 (by assumption))]; cases y with|str _ t _=>exact⟨t,rfl⟩
 ·split at y
  ·rw[if_pos (by assumption)]; cases y with|str _ t _=>exact⟨t,rfl⟩
  ·rw[if_neg (by assumption)]; cases y with|str _ t _=>exact⟨t,rfl⟩
theorem bk8:Ct c 3 (.ref 600) [.ref x,.str "ex" tn,.int code t] h (fun r Z=>r=.bool false):=by
 obtain⟨dd,mm,pp,ww,kvs,x1,x2,x3,x4,d1,d3,d4,i,ds,df,dm,r1,r2,r4,r3⟩:=D;have ct:=bf1 G (i.mono hR) (dm.mono hR) (ds.mono hR) (tn:=tn) (name := "ex") rfl code t;rw[df.ex] at ct;exact ct
end
end
mutual
noncomputable def bb9(code:Int):PyData:=dJ.2.getD (cI dJ.1 code).toNat .none
theorem bz1:∀ i<14,0<=cI dJ.1 (ah.getD i 0)/\cI dJ.1 (ah.getD i 0)<dJ.2.length/\dJ.1.length<1000/\dJ.2.length<1000:=by decide +kernel
theorem ba2{code:Int}(h:code∈ah):∃ i<14,ah.getD i 0=code:=by
 obtain⟨i,hi,e⟩:=List.getElem_of_mem h;exact⟨i,hi,by rw[jk,jj hi]; exact e⟩
theorem a88{h:Heap}(G:ak c h){R:RP}(hR:∀ a o,R a o->Hs h a o){x:Addr}(D:aV c R x){code:Int}{t tn:Tok}(hc:code∈ah):Ct c 3 (.ref 600) [.ref x,.str "idna" tn,.int code t] h (fun r Z=>VI R r (bb9 code)):=by
 obtain⟨dd,mm,pp,ww,kvs,x1,x2,x3,x4,d1,d3,d4,i,ds,df,dm,⟨vv,r3,y3⟩,r1,r2,r4⟩:=D;obtain⟨j,hj,rfl⟩:=ba2 hc;obtain⟨k1,k2,k3,k4⟩:=bz1 j hj;obtain⟨v,e,y⟩:=y3.getd (an6 (l:=dJ.2) (i:=(cI dJ.1 (ah.getD j 0)).toNat) (d:=.none) (dg9 k1 k2));have ct:=ag6 G (i.mono hR) (dm.mono hR) (tn:=tn) (name := "idna") rfl (r3.mono hR) _ t (cz7 k3) k1 e (dc4 k2 k4);intro A ar;exact(ct A ar).mono (fun v h zpa=>by obtain⟨k,q⟩:=zpa; exact⟨k,by rw[q]; exact y⟩) fun Z Z z=>z
theorem ab9{A:Around}{E:VP}{h:Heap}{env:Env}{gs ns:List Str}{V:Heap}{fx:ac}{vs:LO}{l:ac}{x:Addr}{pl:Sem Bool}{Q:Value×List Value->Heap->Prop}(S:Fs c gs ns env V fx vs l h)(D:aV c (In V fx) x)(q:Q (.ref 600,[.ref x]) h):Wp c E A (getMethod (.ref x) (PySem.Str.ofString "get") pl) Q h:=by
 obtain⟨dd,mm,pp,ww,kvs,x1,x2,x3,x4,d1,d3,d4,i,Z⟩:=D;exact bx S i (da _).2.1 (by show(_:Str)∉(["defaults", "maps", "properties", "words"]:List Str); decide +kernel) q
noncomputable def aj3(code:Int):PyData:=if code=233 then .tuple [.int 101,.int 769] else .none
theorem aj8{h:Heap}(G:ak c h){R:RP}(hR:∀ a o,R a o->Hs h a o){x:Addr}(D:aV c R x){code:Int}{t:Tok}(h0:0<=code)(h1:code<44032):Ct c 4 (.ref 129) [.int code t,.ref x,.bool false] h (fun r Z=>VI R r (aj3 code)):=by
 have hR':∀ a o,R a o->In (h.hide ag) [] a o:=fun a o y=>Hs.in a o (hR a o y);have D':=D.mono hR';refine al G (by k_is) (by k_is) (binds:=[("code", .int code t),("data", .ref x),("is_compat", .bool false)]) (fun s X=>jx rfl) (rest:=["parts", "told"]) (ns:=["code", "data", "is_compat", "parts", "told"]) rfl (vs:=[some (.int code t),some (.ref x),some (.bool false),none,none]) rfl (gs:=["hangul_parts"]) (by decide +kernel) ?_;intro A L h ar hL Z Z S Z Z;ext;refine bq S (az4 S.good _ _ h1) ar fun h S Z=>?_;ext;refine ab9 S D' ?_;ext;refine ba S (bk9 S.good (fun a o y=>S.hs a o (hR' a o y)) D h0) ar fun v h S Z y=>?_
 by_cases hc:code=233
 ·rw[if_pos hc] at y;have em:aj3 code=.tuple [.int 101,.int 769]:=by rw[aj3,if_pos hc]
  obtain⟨Z,v1,w,Z,rfl,e,y1,y2⟩:=y.two;obtain⟨Z,rfl⟩:=y1.strD;have he:=S.hs _ _ (hR' _ _ e);ext;refine bI (S.hs _ _ (hR' _ _ e)).1 (by decide) (by decide) (j:=0) rfl rfl ?_;ext;refine a14 ?_;ext;refine BB.neg (by decide +kernel) ?_;ext;refine bI (S.hs _ _ (hR' _ _ e)).1 (by decide) (by decide) (j:=1) rfl rfl ?_;ext;exact⟨S.kept hL,by rw[em]; exact y2⟩
 ·rw[if_neg hc] at y;have em:aj3 code=.none:=by rw[aj3,if_neg hc]
  cases y
  ext;exact⟨S.kept hL,by rw[em]; exact .none⟩
noncomputable def dg(code:Int):List Int:=if code=233 then[101,769] else[code]
end
namespace X15
mutual
def P(h:Heap)(R:RP)(x:Addr)(code:Int)(t:Tok):Prop:=∀ (G:ak c h) (hR:∀ a o,R a o->Hs h a o) (D:aV c R x) (h0:0<=code) (h1:code<44032),Ct c 5 (.ref 136) [.int code t,.ref x,.bool false] h (fun r h'=>∃ a,r=.ref a/\LI (Nw h h') a (dg code))
def Q(w:Heap×(RP)×Addr×Int×Tok):=P w.1 w.2.1 w.2.2.1 w.2.2.2.1 w.2.2.2.2
def w:=@Classical.epsilon _ ⟨(default,fun Z Z=>True,0,0,default)⟩ fun w=>¬ Q w
def h:=w.1
def R:=w.2.1
def x:=w.2.2.1
def code:=w.2.2.2.1
def t:=w.2.2.2.2
theorem m:P h R x code t:=by
 intro G hR D h0 h1;have hR':∀ a o,R a o->In (h.hide ag) [] a o:=fun a o y=>Hs.in a o (hR a o y);refine al G (by k_is) (by k_is) (binds:=[("code", .int code t),("data", .ref x),("is_compat", .bool false)]) (fun s X=>jx rfl) (rest:=["found", "waiting", "open_codes", "here", "parts", "part"]) (ns:=["code", "data", "is_compat", "found", "waiting", "open_codes", "here", "parts", "part"]) rfl (vs:=[some (.int code t),some (.ref x),some (.bool false),none,none,none,none,none,none]) rfl (gs:=["form_mapping", "BadTable"]) (by decide +kernel) ?_;intro A L h ar hL Z Z S Z Z;ext;refine ad S (by decide) ?_;intro fa h hf Z Z S1;have hf:=S.new hL hf;have S:=S1;ext;refine bl (x := "waiting") (y := "open_codes") ?_;ext;refine ad S (bd (by simp)) ?_;intro wa h Z Z Z S;ext;refine ad S (by decide) ?_;intro oa h Z Z Z S;ext;refine bD S ar.handled (S.own _ (.head _)) rfl fun h S=>⟨_,_,rfl,?_⟩;have S:=S.drop;walk_at"s";walk_at"s";walk_at"s";walk_at"s";refine bo9 6 (eK.step ?_);ext;refine ad S (by decide) ?_;intro e0 h Z Z Z S;refine af6 ar (S.get1 (.tail _ (.tail _ (.head _)))) (S.get1 (.head _)) (.cons (.int _ _) .nil) .nil (by simp [PyData.depth,PyData.depthAll]) (by simp [PyData.depth,PyData.depthAll]) ?_;have S:=S.drop;ext;refine BB.f ?_;ext;refine an1 (p:=[]) S (.tail .head) (by simp) ?_;intro Z h S;ext;refine ba S (aj8 S.good (fun a o y=>S.hs a o (hR' a o y)) D h0 h1) ar fun v h S Z y=>?_
 by_cases hc:code=233
 ·have em:aj3 code=.tuple [.int 101,.int 769]:=by rw[aj3,if_pos hc]
  rw[em] at y;obtain⟨pa,pn,ta,tb,rfl,e⟩:=y.ints;have he:=hR' _ _ e;ext;refine bp4 (S.get1 (.head _)) .nil ?_;ext;refine BB.f ?_;ext;refine aj S .head (by simp) ?_;intro Z h S;ext;refine aj S (.tail .head) (by simp) ?_;intro Z h S;ext;refine cc6 S (S.hs _ _ he).1 ?_;intro rt h Z Z S;have S:=S.toFix;refine as6 (its:=[_,_]) ar.handled S (.inr (.head _)) fun it h S src=>?_;refine aS (src _ _) S (fun i vs l=>av fun u k=>vs=[some (.int code t),some (.ref x),some (.bool false),some (.ref fa),some (.ref wa),some (.ref oa),some (.int code t),some (.ref pa),u]/\l=[(oa,listOf ([]++[Value.int code t]).toArray (0+1)),(wa,listOf ([Value.none]++[Value.int 769 tb,Value.int 101 ta].take i).toArray k),(fa,listOf #[] 0)]) ⟨_,_,rfl,rfl⟩ ?_ ?_
  ·rintro Z Z i v vs l h own hi hv ⟨u,k,e1v,e2l⟩ S;refine S.castL e1v e2l ?_;intro Z Z S;ext;refine aj S (.tail .head) (by simp; exact c67) ?_;intro Z h S;ext;have e2:[Value.none]++[Value.int 769 tb,Value.int 101 ta].take i++[v]=[Value.none]++[Value.int 769 tb,Value.int 101 ta].take (i+1):=by rw[List.take_add_one,hv,List.append_assoc]; rfl
   try dsimp +zetaDelta only at S
   rw[e2] at S;exact⟨_,_,⟨_,_,rfl,rfl⟩,S⟩
  rintro Z Z h ⟨u,k,e1v,e2l⟩ S;refine S.castL e1v e2l ?_;intro Z Z S;ext;refine ad S (by decide) ?_;intro e0 h Z Z Z S;refine af6 ar (S.get1 (.tail _ (.tail _ (.head _)))) (S.get1 (.head _)) (.cons .none (.cons (.int _ _) (.cons (.int _ _) .nil))) .nil (by simp [PyData.depth,PyData.depthAll]) (by simp [PyData.depth,PyData.depthAll]) ?_;have S:=S.drop;ext;refine BB.f ?_;ext;refine an1 (p:=[_,_]) S (.tail .head) (by simp) ?_;intro Z h S;ext;refine ba S (aj8 S.good (fun a o y=>S.hs a o ((hR' a o y).nil _ _)) D (by decide) (by decide)) ar fun v h S Z y=>?_
  cases y
  ext;refine aj S (.tail (.tail .head)) (by simp) ?_;intro Z h S;ext;refine ad S (by decide) ?_;intro e0 h Z Z Z S;refine af6 ar (S.get1 (.tail _ (.tail _ (.head _)))) (S.get1 (.head _)) (.cons .none (.cons (.int _ _) .nil)) .nil (by simp [PyData.depth,PyData.depthAll]) (by simp [PyData.depth,PyData.depthAll]) ?_;have S:=S.drop;ext;refine BB.f ?_;ext;refine an1 (p:=[_]) S (.tail .head) (by simp) ?_;intro Z h S;ext;refine ba S (aj8 S.good (fun a o y=>S.hs a o ((hR' a o y).nil _ _)) D (by decide) (by decide)) ar fun v h S Z y=>?_
  cases y
  ext;refine aj S (.tail (.tail .head)) (by simp) ?_;intro Z h S;ext;refine ad S (by decide) ?_;intro e0 h Z Z Z S;refine af6 ar (S.get1 (.tail _ (.tail _ (.head _)))) (S.get1 (.head _)) (.cons .none .nil) .nil (by simp [PyData.depth,PyData.depthAll]) (by simp [PyData.depth,PyData.depthAll]) ?_;have S:=S.drop;ext;refine BB.f ?_;ext;refine an1 (p:=[]) S (.tail .head) (by simp) ?_;intro Z h S;ext;refine an1 (p:=[]) S .head (by simp) ?_;intro Z h S;ext;refine ad S (by decide) ?_;intro e0 h Z Z Z S;refine af6 ar (S.get1 (.tail _ (.tail _ (.head _)))) (S.get1 (.head _)) .nil .nil (by simp [PyData.depth,PyData.depthAll]) (by simp [PyData.depth,PyData.depthAll]) ?_;have S:=S.drop;ext;refine BB.t ?_;ext;exact⟨S.kept hL,fa,rfl,[.int 101 ta,.int 769 tb],_,⟨S.get1 (.tail _ (.tail _ (.head _))),hf⟩,by rw[dg,if_pos hc]; exact .cons _ _ (.cons _ _ .nil)⟩
 ·have em:aj3 code=.none:=by rw[aj3,if_neg hc]
  rw[em] at y
  cases y
  ext;refine aj S (.tail (.tail .head)) (by simp) ?_;intro Z h S;ext;refine ad S (by decide) ?_;intro e0 h Z Z Z S;refine af6 ar (S.get1 (.tail _ (.tail _ (.head _)))) (S.get1 (.head _)) .nil .nil (by simp [PyData.depth,PyData.depthAll]) (by simp [PyData.depth,PyData.depthAll]) ?_;have S:=S.drop;ext;refine BB.t ?_;ext;exact⟨S.kept hL,fa,rfl,[.int code t],_,⟨S.get1 (.tail _ (.tail _ (.head _))),hf⟩,by rw[dg,if_neg hc]; exact .cons _ _ .nil⟩
end
end X15
mutual
theorem ao5{h R x code t}:X15.P h R x code t:=c7 (P:=X15.Q) (a:=X15.w) rfl X15.m (h,R,x,code,t)
def ac1(R:RP)(its:List Value)(n:Nat):Prop:=its.length=n/\∀ v∈its,cP fun p t u k=>v=.ref p/\R p { cls:=.type "tuple", data:=.seq #[.int 230 t,.int 769 u] k }
theorem ac1.perm{R:RP}{its out:List Value}{n:Nat}(r:ac1 R its n)(p:out.Perm its):ac1 R out n:=⟨p.length_eq.trans r.1,fun v hv=>r.2 v (p.mem_iff.mp hv)⟩
theorem bd6{kz:List Int}{its out:List Value}(ko:KskOut false kz its out)(hlen:kz.length=its.length):out.Perm its:=by
 obtain⟨ps,hp,ho,Z⟩:=ko;rw[ho];have:=hp.map Prod.snd
 rwa [List.map_snd_zip (b40 hlen)] at this
theorem at7{h:Heap}(G:ak c h){R:RP}(hR:∀ a o,R a o->Hs h a o){x:Addr}{its:List Value}{k n:Nat}(hx:R x (listOf its.toArray k))(hr:ac1 R its n)(hn:n<=60):Ct c 5 (.ref 148) [.ref x] h (fun r h'=>∃ a,r=.ref a/\LI (Nw h h') a (List.replicate n 769)):=by
 have hR':∀ a o,R a o->In (h.hide ag) [] a o:=fun a o y=>Hs.in a o (hR a o y);refine al G (by k_is) (by k_is) (binds:=[("run", .ref x)]) (fun s X=>jx rfl) (rest:=[]) (ns:=["run"]) rfl (vs:=[some (.ref x)]) rfl (gs:=["sorted"]) (by decide +kernel) ?_;intro A L h ar hL Z Z S Z Z;ext;refine bx3 ?_;ext;refine cb1 ?_;ext;refine cf2 S (by kernel_rfl) rfl (by walk_at"u") fun f c' pm ct fx' h S la=>?_;have hin:∀ a o,R a o->In (Heap.hide _ ag) fx' a o:=fun a o y=>(hR' a o y).nil _ _;refine bx9 (kz:=List.replicate n 230) S (S.at' (hin _ _ hx)) (by rw[List.length_replicate]; exact hr.1.symm) (by have:=hr.1; exact b98 hn this) (fun i v k hv hk h S=>?_) fun r out m h ko S=>?_
 ·obtain⟨p,t,u,k',rfl,e⟩:=hr.2 v (List.mem_of_getElem? hv);rw[List.getElem?_replicate] at hk
  split at hk<;>cases hk
  exact(bq9 (d:=0) S.good (S.get1 (.head _)) (let ⟨o,a,b⟩:=la; ⟨o,S.at' a,b⟩) (S.at' (hin _ _ e)) (Ar.in1 (Ar.in1 (ar.le (d:=4)))) rfl (by kernel_rfl) rfl rfl rfl (by decide)).mono fun r h zpa=>by obtain⟨a,b⟩:=zpa; exact⟨a,t,b⟩
 have hr:=hr.perm (bd6 ko (by rw[List.length_replicate]; exact hr.1.symm));have S:=S.toFix;refine a48 ar.handled S (.inr (.head _)) fun it h S src=>?_;have S0:=S;refine bJ (gs':=[]) (ns':=["weight", "code"]) (src _ _ _) (by have:=hr.1; exact bn2 hn this) S (by walk_at"u") (by walk_at"u") (by kernel_rfl) (fun i acc l=>l=[(f,a47 _ _ _ pm c' ct)]/\IntsAre acc (List.replicate i 769)) ⟨rfl,.nil⟩ ?_ ?_
 ·rintro Z Z C g D i v acc k ov l' h' own sb hi hv ⟨rfl,hacc⟩ hal hov S';obtain⟨u0,u1,rfl⟩:=dX hov;obtain⟨p,t,u,k',rfl,e⟩:=hr.2 v (List.mem_of_getElem? hv);ext;refine cL S' ar.handled (S'.at' (sb.in _ _ (In.cons _ _ (hin _ _ e)))) rfl rfl fun h S'=>?_
  show Wp _ _ _ (assignInOrder [_,_] _) _ _
  ext;rename Fs ..=>S';refine⟨_,_,rfl,⟨rfl,?_⟩,S'⟩;rw[List.replicate_succ'];exact ksk_snoc hacc
 ·rintro D acc k l' h hD ⟨rfl,hacc⟩ hal S;ext;rw[hr.1] at hacc;exact⟨S.kept hL,D,rfl,acc,k,⟨S.own _ (.head _),S0.new hL hD⟩,hacc⟩
def eU(xs:List Int):Prop:=∀ x∈xs,0<=x/\x<44032
theorem ac1.mono{R R':RP}{its:List Value}{n:Nat}(r:ac1 R its n)(k:∀ a o,R a o->R' a o):ac1 R' its n:=⟨r.1,fun v hv=>let ⟨p,t,u,j,e,m⟩:=r.2 v hv; ⟨p,t,u,j,e,k _ _ m⟩⟩
theorem a53{a b:List Value}{x y:List Int}(p:IntsAre a x)(q:IntsAre b y):IntsAre (a++b) (x++y):=by
 induction p with
 | nil=>exact q
 | cons n t _ ih=>exact .cons n t ih
end
namespace X17
mutual
def P(h:Heap)(R:RP)(x tx:Addr)(xs:List Int):Prop:=∀ (G:ak c h) (hR:∀ a o,R a o->Hs h a o) (D:aV c R x) (hx:LI R tx xs) (hT:eU xs) (hn:xs.length<=60),Ct c 6 (.ref 143) [.ref tx,.ref x] h (fun r h'=>∃ a,r=.ref a/\LI (Nw h h') a xs)
def Q(w:Heap×(RP)×Addr×Addr×(List Int)):=P w.1 w.2.1 w.2.2.1 w.2.2.2.1 w.2.2.2.2
def w:=@Classical.epsilon _ ⟨(default,fun Z Z=>True,0,0,[])⟩ fun w=>¬ Q w
def h:=w.1
def R:=w.2.1
def x:=w.2.2.1
def tx:=w.2.2.2.1
def xs:=w.2.2.2.2
theorem m:P h R x tx xs:=by
 intro G hR D hx hT hn;have hR':∀ a o,R a o->In (h.hide ag) [] a o:=fun a o y=>Hs.in a o (hR a o y);refine al G (by k_is) (by k_is) (binds:=[("text", .ref tx),("data", .ref x)]) (fun s X=>jx rfl) (rest:=["found", "run", "code", "weight"]) (ns:=["text", "data", "found", "run", "code", "weight"]) rfl (vs:=[some (.ref tx),some (.ref x),none,none,none,none]) rfl (gs:=["form_sorted"]) (by decide +kernel) ?_;intro A L h ar hL Z Z S Z Z;walk_at"s";refine bl (x := "found") (y := "run") ?_;ext;refine ad S (by decide) ?_;intro fa h hf Z Z S1;have hf:=S.new hL hf;have S:=S1;ext;refine ad S (by decide) ?_;intro ra h hr Z Z S;ext;refine bD S ar.handled (S.own _ (.head _)) rfl fun h S=>⟨_,_,rfl,?_⟩;have S:=S.drop;ext;obtain⟨vs0,n0,ea,hi⟩:=hx;have hlen:vs0.length=xs.length:=hi.length;refine bp ar.handled S (hR' _ _ ea) fun it h S src=>?_;refine aS (src _ _) S (fun i vs l=>ay0 fun ra its n1 rits n2 T n ys o1 o2=>eH (vs=[some (.ref tx),some (.ref x),some (.ref fa),some (.ref ra),o1,o2]) (l=(ra,listOf (List.toArray rits) n2)::(fa,listOf (List.toArray its) n1)::T) (IntsAre its ys) (ac1 (fun a o=>(a,o)∈T) rits n) (xs.take i=ys++List.replicate n 769)) ⟨ra,[],_,[],_,[],0,[],none,none,rfl,rfl,.nil,⟨rfl,fun v hv=>absurd hv jm⟩,rfl⟩ ?_ ?_
 ·rintro Z Z i v vs l h own hii hv ⟨ra,its,n1,rits,n2,T,n,ys,o1,o2,e1v,e2l,q1,q2,q3⟩ S;refine S.castL e1v e2l ?_;intro Z Z S;have hix:i<xs.length:=by exact z0 hlen hii
  obtain⟨t,et⟩:=au hi hix;obtain rfl:=cK hv et;have hm:xs.getD i 0∈xs:=by rw[jk,jj hix]; exact List.getElem_mem _
  have htk:xs.take (i+1)=xs.take i++[xs.getD i 0]:=by rw[List.take_add_one,jj hix,jk,jj hix]; rfl
  generalize xs.getD i 0=code at hm htk et;have hsz:ys.length+n=i:=by
   have:=congrArg List.length q3;simp only[jL,jl,List.length_replicate] at this;exact df1 hlen hii this
  ext;refine ab9 S (D.mono fun a o y=>(hR' a o y).nil _ _) ?_;ext;refine ch S (ab5 S.good (fun a o y=>S.hs a o ((hR' a o y).nil _ _)) D (hT _ hm).1) ar fun tw h S Z=>?_;ext
  by_cases hc:code=769
  ·subst hc;refine BB.t ?_;ext;refine aj S (.tail .head) (by have:=q2.1; exact df0 hn hlen hii hsz this) ?_;intro Z h S;ext;have S:=Fs.front2 (Fs.front2 S);refine⟨_,_,⟨ra,its,n1,_,_,_,n+1,ys,_,_,rfl,rfl,q1,⟨by rw[jl,q2.1]; rfl,fun v hv=>?_⟩,by rw[htk,q3,List.append_assoc,List.replicate_succ']⟩,S⟩
   rcases jg.mp hv with hv|hv
   ·obtain⟨p,t,u,k,e,m⟩:=q2.2 v hv;exact⟨p,t,u,k,e,.tail _ m⟩
   ·rw[je.mp hv];exact⟨_,_,_,_,rfl,.head _⟩
  ·have hw:wt code=0:=by rw[wt,if_neg hc]
   rw[hw];refine BB.f ?_;ext;refine cQ S (at7 S.good (fun a o y=>S.ho y) (.head _) (ac1.mono q2 fun a o m=>.tail _ (.tail _ m)) (dd6 hn hlen hii hsz)) ar fun b h S Z q'=>?_;obtain⟨bs,nb,eb,ib⟩:=q';ext;have S:=Fs.front1 S;refine aa9 S eb.1 (by have:=q1.length; have:=ib.length; simp only[List.length_replicate] at this; exact b97 hn hlen hii hsz (by assumption) this) ?_;intro Z h Z S;ext;refine aj S .head (by have:=q1.length; have:=ib.length; simp only[List.length_replicate] at this; simp only[jl]; exact b97 hn hlen hii hsz (by assumption) this) ?_;intro Z h S;ext;refine ad S (by decide) ?_;intro rb h Z Z Z S;ext;exact⟨_,_,⟨rb,_,_,[],_,_,0,ys++List.replicate n 769++[code],_,_,rfl,rfl,ksk_snoc (a53 q1 ib),⟨rfl,fun v hv=>absurd hv jm⟩,by rw[htk,q3]; simp⟩,S⟩
 ·rintro Z Z h ⟨ra,its,n1,rits,n2,T,n,ys,o1,o2,e1v,e2l,q1,q2,q3⟩ S;refine S.castL e1v e2l ?_;intro Z Z S;rw[hlen,jF] at q3;have hsz:ys.length+n=xs.length:=by rw[q3]; simp
  ext;refine cQ S (at7 S.good (fun a o y=>S.ho y) (.head _) (ac1.mono q2 fun a o m=>.tail _ (.tail _ m)) (c24 hn hsz)) ar fun b h S Z q'=>?_;obtain⟨bs,nb,eb,ib⟩:=q';ext;have S:=Fs.front1 S;refine aa9 S eb.1 (by have:=q1.length; have:=ib.length; simp only[List.length_replicate] at this; exact dd1 hn hsz (by assumption) this) ?_;intro Z h Z S;ext;exact⟨S.kept hL,fa,rfl,_,_,⟨S.own _ (.head _),hf⟩,by rw[q3]; exact a53 q1 ib⟩
end
end X17
mutual
theorem be5{h R x tx xs}:X17.P h R x tx xs:=c7 (P:=X17.Q) (a:=X17.w) rfl X17.m (h,R,x,tx,xs)
noncomputable def cS(xs:List Int):List Int:=xs.flatMap dg
theorem a57(x:Int):(dg x).length<=2:=by unfold dg; split<;>simp
theorem aq4(xs:List Int):(cS xs).length<=2*xs.length:=by
 induction xs with
 | nil=>decide
 | cons x r ih=>rw[cS,List.flatMap_cons,jl,jA]; have:=a57 x; rw[cS] at ih; exact c81 ih this
theorem br7{xs:List Int}(h:eU xs):eU (cS xs):=by
 intro y hy;obtain⟨x,hx,hy⟩:=List.mem_flatMap.mp hy;unfold dg at hy
 split at hy
 ·simp at hy; rcases hy with rfl|rfl<;>decide
 ·rw[je.mp hy]; exact h x hx
theorem bj9(xs:List Int){i:Nat}(hi:i<xs.length):cS (xs.take (i+1))=cS (xs.take i)++dg (xs.getD i 0):=by
 rw[List.take_add_one,jj hi,jk,jj hi,cS,List.flatMap_append]
 simp [cS]
theorem bS{xs:List Int}{i:Nat}(hi:i<xs.length):xs.getD i 0∈xs:=by rw[jk,jj hi]; exact List.getElem_mem _
theorem a07{h:Heap}(G:ak c h){R:RP}(hR:∀ a o,R a o->Hs h a o){x tx:Addr}(D:aV c R x){xs:List Int}(hx:LI R tx xs)(hT:eU xs)(hn:xs.length<=30):Ct c 7 (.ref 156) [.ref tx,.ref x,.bool false] h (fun r h'=>∃ a,r=.ref a/\LI (Nw h h') a (cS xs)):=by
 have hR':∀ a o,R a o->In (h.hide ag) [] a o:=fun a o y=>Hs.in a o (hR a o y);refine al G (by k_is) (by k_is) (binds:=[("text", .ref tx),("data", .ref x),("is_compat", .bool false)]) (fun s X=>bZ X rfl (by k_is) rfl (by walk_at"u")) (rest:=["found", "code"]) (ns:=["text", "data", "is_compat", "found", "code"]) rfl (vs:=[some (.ref tx),some (.ref x),some (.bool false),none,none]) rfl (gs:=["form_expanded", "ordered"]) (by decide +kernel) ?_;intro A L h ar hL Z Z S Z Z;ext;refine ad S (by decide) ?_;intro fa h hf Z Z S1;have hf:=S.new hL hf;have S:=S1;ext;obtain⟨vs0,n0,ea,hi⟩:=id hx;have hlen:vs0.length=xs.length:=hi.length;refine bp ar.handled S (hR' _ _ ea) fun it h S src=>?_;refine aS (src _ _) S (fun i vs l=>b5 fun its n1 o1=>bB (vs=[some (.ref tx),some (.ref x),some (.bool false),some (.ref fa),o1]) (l=[(fa,listOf (List.toArray its) n1)]) (IntsAre its (cS (xs.take i)))) ⟨[],_,none,rfl,rfl,.nil⟩ ?_ ?_
 ·rintro Z Z i v vs l h own hii hv ⟨its,n1,o1,e1v,e2l,q1⟩ S;refine S.castL e1v e2l ?_;intro Z Z S;have hix:i<xs.length:=by exact z0 hlen hii
  obtain⟨t,et⟩:=au hi hix;obtain rfl:=cK hv et;have hm:=bS hix;have htk:=bj9 xs hix;have hl:=aq4 (xs.take i);have:=jL (i:=i) (l:=xs);have hq:=q1.length;generalize xs.getD i 0=code at hm htk et;ext;refine cQ S (ao5 S.good (fun a o y=>S.hs a o ((hR' a o y).nil _ _)) D (hT _ hm).1 (hT _ hm).2) ar fun b h S Z q'=>?_;obtain⟨bs,nb,eb,ib⟩:=q';ext;have hq2:=ib.length;have:=a57 code;refine aa9 S eb.1 (z88 hn hl (by assumption) hq hq2 this) ?_;intro Z h Z S;ext;exact⟨_,_,⟨_,_,_,rfl,rfl,by rw[htk]; exact q1.append ib⟩,S⟩
 ·rintro Z Z h ⟨its,n1,o1,e1v,e2l,q1⟩ S;refine S.castL e1v e2l ?_;intro Z Z S;rw[hlen,jF] at q1;have hl:=aq4 xs;ext;have S:=S.toFix;have up:=fun a=>S.new (a:=a) hL;refine cQ S (be5 S.good (R:=In (Heap.hide _ ag) [(fa,listOf its.toArray n1)]) S.hs (D.mono fun a o y=>(hR' a o y).nil _ _) ⟨its,n1,In.here,q1⟩ (br7 hT) (b87 hn hl)) ar fun b h S k i=>?_;ext;exact⟨S.kept hL,b,rfl,i.mono fun a o y=>⟨y.1,up _ y.2⟩⟩
def cO(R:RP)(v:Value)(a b:Int)(w:Value):Prop:=cP fun p t u k=>v=.ref p/\R p { cls:=.type "tuple", data:=.seq #[.int a t,.int b u,w] k }
theorem cO.mono{R R':RP}{v:Value}{a b:Int}{w:Value}(r:cO R v a b w)(k:∀ a o,R a o->R' a o):cO R' v a b w:=by obtain⟨p,t,u,j,e,m⟩:=r; exact⟨p,t,u,j,e,k _ _ m⟩
noncomputable def bo4(i:Nat):Int:=[0,233,234].getD i 0
noncomputable def bc2(i:Nat):Int:=[232,233,1114111].getD i 0
end
namespace X19
mutual
def P(h:Heap)(x:Addr)(dv:Value)(vv:List Value):Prop:=∀ (G:ak c h) (hv:vv.length=3) (r:RM (Hs h) x dv [0,233,234] vv),Ct c 1 (.ref 565) [.ref x] h (fun r h'=>b5 fun a its n=>bK (r=.ref a) (Nf h h' a (listOf (List.toArray its) n)) (its.length=3) (∀ i,i<3->∃ v,its[i]?=some v/\cO (Nf h h') v (bo4 i) (bc2 i) (vv.getD i .none)))
def Q(w:Heap×Addr×Value×(List Value)):=P w.1 w.2.1 w.2.2.1 w.2.2.2
def w:=@Classical.epsilon _ ⟨(default,0,.none,[])⟩ fun w=>¬ Q w
def h:=w.1
def x:=w.2.1
def dv:=w.2.2.1
def vv:=w.2.2.2
theorem m:P h x dv vv:=by
 intro G hv r;obtain⟨sa,va,sv,n1,n2,i,e1,e2,e3⟩:=r;have i:=i.mono Hs.in;have e1:=Hs.in _ _ e1;have e3:=Hs.in _ _ e3;refine al G (by k_is) (by k_is) (binds:=[("range_map", .ref x)]) (fun s X=>jx rfl) (rest:=["starts", "found", "at", "value", "last"]) (ns:=["range_map", "starts", "found", "at", "value", "last"]) rfl (vs:=[some (.ref x),none,none,none,none,none]) rfl (gs:=["enumerate", "len", "MAX_CODE"]) (by decide +kernel) ?_;intro A L h ar hL Z Z S Z Z;walk_at"s";refine bl (x := "starts") (y := "found") ?_;ext;refine am S i (c8 (by decide +kernel)) dI (v:=.ref sa) eR rfl ?_;ext;refine ad S (by decide) ?_;intro fa h hf Z Z S;ext;refine bD S ar.handled (S.own _ (.head _)) rfl fun h S=>⟨_,_,rfl,?_⟩;have S:=S.drop;ext;refine am S i (c8 (by decide +kernel)) dI (v:=.ref va) eQ rfl ?_;ext;refine al3 S ar.handled e3 fun e h S src=>?_;refine ah4 (src [] 0 ⟨0,0,0,0⟩) ?_;refine aS (src _ _ _) S (fun i vs l=>eE fun its k T o1 o2 o3=>bK (vs=[some (.ref x),some (.ref sa),some (.ref fa),o1,o2,o3]) (l=(fa,listOf (List.toArray its) k)::T) (its.length=i) (∀ j,j<i->∃ v,its[j]?=some v/\cO (fun a o=>(a,o)∈T) v (bo4 j) (bc2 j) (vv.getD j .none))) ⟨[],_,[],none,none,none,rfl,rfl,rfl,fun j hj=>absurd hj (Nat.not_lt_zero _)⟩ ?_ ?_
 ·rintro Z Z i v vs l h own hii ⟨T0,x0,y0,rfl,⟨⟨ti,rfl⟩,hy⟩,ht⟩ ⟨its,k,T,o1,o2,o3,rfl,rfl,q1,q2⟩ S;refine ah7 (items:=[_,_]) S ar.handled ht rfl rfl fun h S=>?_
  show Wp _ _ _ (assignInOrder [_,_] _) _ _
  ext;have e2l:sv.length=3:=e2.length;have hi3:i<3:=by exact ca3 hv hii
  obtain⟨ta,ea⟩:=au e2 (k:=i) hi3;refine c9 (fun v h=>(∃ t,v=.int (bc2 i) t)/\S.now h) ?_ ?_
  ·walk_at"s";refine aJ ?_;ext;refine bQ (S.at' (In.nil _ _ e1)) (c03 e2l) fun Z=>?_;ext;refine BB.mk (fun e=>?_) fun e=>?_
   ·have hi2:i<2:=by have:=of_decide_eq_true e; exact df5 e2l this
    obtain⟨tb,eb⟩:=au e2 (k:=i+1) (show i+1<3 by exact df4 hi2);ext;refine bk (S.at' (In.nil _ _ e1)) (d9) (db9 hi2) (show sv[((i:Int)+1).toNat]?=_ by rw[show((i:Int)+1).toNat=i+1 by exact c41]; exact eb) ?_;ext;refine⟨⟨_,congrArg (Value.int · _) ?_⟩,rfl⟩
    rcases i with _|_|i
    ·rfl
    ·rfl
    ·exact dh5 hi2
   ·have hi2:i=2:=by have:=of_decide_eq_false e; exact dd4 hv hii e2l this
    subst hi2;ext;exact⟨⟨_,rfl⟩,rfl⟩
  ·rintro Z Z ⟨⟨tb,rfl⟩,rfl⟩;ext;refine bk (S.at' (In.nil _ _ e1)) (z9) (c77 hv hii) ea ?_;ext;refine aj S (.tail .head) (c28 hv hii q1) ?_;intro Z h S;ext;have S:=Fs.front1 S;refine⟨_,_,⟨_,_,_,_,_,_,rfl,rfl,by simp [q1],fun j hj=>?_⟩,S⟩
   by_cases hji:j<i
   ·obtain⟨v,a1,a2⟩:=q2 j hji;exact⟨v,by rw[List.getElem?_append_left (c92 q1 hji)]; exact a1,a2.mono fun a o m=>.tail _ m⟩
   ·have:j=i:=by exact c06 hj hji
    subst this;refine⟨_,by rw[List.getElem?_append_right (ct4 q1),q1,Nat.sub_self]; rfl,_,ta,tb,0,rfl,?_⟩;rw[jk (l:=vv),hy];exact .head _
 ·rintro Z Z h ⟨its,k,T,o1,o2,o3,e1v,e2l,q1,q2⟩ S;refine S.castL e1v e2l ?_;intro Z Z S;ext;rw[hv] at q1 q2;refine⟨S.kept hL,fa,its,k,rfl,S.rlNf _ _ (.inl (.head _)),q1,fun j hj=>?_⟩;obtain⟨v,a1,a2⟩:=q2 j hj;exact⟨v,a1,a2.mono fun a o m=>S.rlNf _ _ (.inl (.tail _ m))⟩
end
end X19
mutual
theorem b02{h x dv vv}:X19.P h x dv vv:=c7 (P:=X19.Q) (a:=X19.w) rfl X19.m (h,x,dv,vv)
theorem cO.supp{R:RP}{v:Value}{a b:Int}{w:Value}(r:cO R v a b w):az R fun R=>cO R v a b w:=by obtain⟨p,t,u,j,e,m⟩:=r; exact(az.one m).imp fun Z x=>⟨p,t,u,j,e,x⟩
theorem Fs.takeNm{h:Heap}{env:Env}{gs ns:List Str}{V:Heap}{fx:ac}{vs:LO}{l:ac}{h':Heap}{P:(RP)->Prop}(S:Fs c gs ns env V fx vs l h)(k:bU h h')(s:az (Nf h h') P):∃ ents,Fs c gs ns env V (ents++fx) vs l h'/\P (fun a o=>(a,o)∈ents++fx):=by
 obtain⟨ents,a,b⟩:=s;refine⟨ents,{ S.after k with
  fix:=fun p hp=>(jg.mp hp).elim (fun e=>(a p e).1) ((S.after k).fix p)
  off:=fun p hp=>(jg.mp hp).elim (fun e=>⟨⟨fun q=>?_,(a p e).2.1,?_⟩,fun q hq e'=>?_⟩) ((S.after k).off p) },b _ fun p hp=>ji _ hp⟩
 ·obtain⟨o,Z,Z,e1,Z⟩:=S.fr.ns;have:=(a p e).2.2;rw[q,e1] at this; cases this
 ·cases e1:V.get? p.1 with
  | none=>rfl
  | some o=>have:=(a p e).2.2; rw[S.keep e1] at this; cases this
 ·have:=(a p e).2.2;rw[e',S.own q hq] at this; cases this
theorem cO.suppE{R:RP}{its:List Value}{i:Nat}{a b:Int}{w:Value}(r:∃ v,its[i]?=some v/\cO R v a b w):az R fun R=>∃ v,its[i]?=some v/\cO R v a b w:=by
 obtain⟨v,e,r⟩:=r;exact r.supp.imp fun Z x=>⟨v,e,x⟩
theorem az.all3{R:RP}{P:Nat->(RP)->Prop}(h:∀ i,i<3->az R (P i)):az R fun R=>∀ i,i<3->P i R :=
 ((h 0 (by decide)).and ((h 1 (by decide)).and (h 2 (by decide)))).imp fun Z x i hi=>by
  rcases i with _|_|_|i
  ·exact x.1
  ·exact x.2.1
  ·exact x.2.2
  ·exact absurd hi (Nat.not_lt.mpr (Nat.le_add_left 3 i))
theorem bq5{i:Nat}{d:PyData}(hi:i<3)(e:([.none,.tuple [.str "", .tuple [.int 101,.int 769]],.none]:List PyData)[i]?=some d):d.depth<=3/\PyData.eqv d .none=decide (i≠1):=by
 rcases i with _|_|_|i
 ·rw[<- (Option.some.inj e:_=d)]; decide +kernel
 ·rw[<- (Option.some.inj e:_=d)]; decide +kernel
 ·rw[<- (Option.some.inj e:_=d)]; decide +kernel
 ·exact absurd hi (Nat.not_lt.mpr (Nat.le_add_left 3 i))
theorem bt9{α:Type}{i:Nat}{w:α}(hi:i<3)(h:i≠1):(if i<=1 then[] else[w])=if i+1<=1 then[] else[w]:=by
 rcases i with _|_|i
 ·rfl
 ·exact absurd rfl h
 ·rfl
theorem bk3{h:Heap}(G:ak c h){x:Addr}{vv:List Value}(r:RM (Hs h) x .none [0,233,234] vv)(y:aw (Hs h) vv [.none,.tuple [.str "", .tuple [.int 101,.int 769]],.none]):Ct c 6 (.ref 544) [.ref x] h (fun r h'=>b5 fun a n v=>bB (r=.ref a) (Nf h h' a (listOf (List.toArray [v]) n)) (cO (Nf h h') v 233 233 (vv.getD 1 .none))):=by
 have r':=r.mono Hs.in;have y':=y.mono Hs.in;refine at2 G (by k_is) (by k_is) (binds:=[("self", .ref x)]) (fun s X=>jx rfl) (fun n=>⟨.inr ⟨rfl,rfl⟩,trivial⟩) (by decide +kernel) (ns:=[]) (vs:=[]) (gs:=["range_rows"]) (fun L=>by walk_at"u") (by decide +kernel) ?_;intro A L O cells ar hL hc Z Z S Z Z;obtain⟨o1,rfl,e1⟩:=CellsAre.one (n := "self") (c:=L+1) hc;have e1':o1.data=.cell (some (.ref x)):=e1;clear e1 hc;have S:=S.toFix;ext;have hvl:vv.length=3:=y.length;refine ba S (b02 S.good hvl (r'.mono fun a o z=>S.hs a o (In.nil _ _ z))) ar fun v h Z k q'=>?_;obtain⟨a,its,n,e,nf,hl,rows⟩:=q';subst e;obtain⟨ents,S,nf,rows⟩:=Fs.takeNm (P:=fun R=>R a (listOf its.toArray n)/\∀ i,i<3->∃ v,its[i]?=some v/\cO R v (bo4 i) (bc2 i) (vv.getD i .none)) S k ((az.one nf).and (az.all3 fun i hi=>cO.suppE (rows i hi)));obtain⟨w1,i1,row1⟩:=rows 1 (by decide);refine bp ar.handled S (.inr nf) fun it h S src=>?_;have S0:=S;refine bJ (gs':=["range_are_like"]) (ns':=["row"]) (src _ _) (cs7 hl) S (by walk_at"u") (by walk_at"u") (by kernel_rfl) (fun i acc l=>l=[]/\acc=if i<=1 then[] else[w1]) ⟨rfl,rfl⟩ ?_ ?_
 ·rintro Z Z C g D i v acc k ov l' h' own sb hi hv ⟨rfl,hacc⟩ hal hov S';obtain⟨u0,rfl⟩:=b9 hov;have hi3:i<3:=by exact ca3 hl hi
  obtain⟨v',ev,p,t,u,kk,e1,e⟩:=rows i hi3;obtain rfl:v=.ref p:=(cK hv ev).trans e1;have e':=sb.in (own:=own) _ _ (.inr e);have g1:g.get? (L+1)=some o1:=sb.fx _ (jh _ (.head _));obtain⟨d,y1,y2⟩:=y'.get (i:=i) (v:=vv.getD i .none) (an6 (c68 hvl hl hi));ext;rename Fs _ _ _ (compEnvC _ _ _ _) _ _ _ _ _=>S';refine bI (its:=[_,_,_]) (S'.hs _ _ e').1 (by decide) (by decide) (j:=2) rfl rfl ?_;ext;obtain⟨sa,va,sv,n1,n2,ri,r2,r3,r4⟩:=r';refine am S' ((ri.mono In.nil).mono sb.in) (c8 (by decide +kernel)) dI (v:=.none) rA0 rfl ?_;ext;obtain⟨hd,he⟩:=bq5 hi3 y1;refine bq S' (aw9 3 S'.good ((y2.mono fun a o z=>sb.in _ _ (In.nil _ _ z)).mono S'.hs) (VI.none:VI _ _ _) hd (by decide) (by decide)) ar fun h S' Z=>?_;rw[he];ext;refine BB.dec (fun h1=>?_) fun h1=>?_
  ·ext;rw[bt9 hi3 h1] at hacc;exact⟨_,_,rfl,⟨rfl,hacc⟩,S'⟩
  ·ext;obtain rfl:=Decidable.not_not.mp h1;obtain rfl:=cK i1 hv;exact⟨_,_,rfl,⟨rfl,by rw[hacc]; rfl⟩,S'⟩
 ·rintro D acc k l' h hD ⟨rfl,hacc⟩ hal S;ext;rw[hl] at hacc;subst hacc;exact⟨S.kept hL,D,_,w1,rfl,S.rlNf _ _ (.inl (.head _)),row1.mono fun a o m=>S.rlNf _ _ (.inr m)⟩
theorem be4{h:Heap}(G:ak c h){R:RP}(hR:∀ a o,R a o->Hs h a o){x:Addr}(D:aV c R x){p:Addr}{n:Nat}{t t1 t2:Tok}(hp:R p { cls:=.type "tuple", data:=.seq #[.int 101 t1,.int 769 t2] n }):Ct c 4 (.ref 170) [.int 233 t,.ref p,.ref x] h (fun r Z=>r=.bool true):=by
 have hR':∀ a o,R a o->In (h.hide ag) [] a o:=fun a o y=>Hs.in a o (hR a o y);refine al G (by k_is) (by k_is) (binds:=[("code", .int 233 t),("parts", .ref p),("data", .ref x)]) (fun s X=>jx rfl) (rest:=[]) (ns:=["code", "parts", "data"]) rfl (vs:=[some (.int 233 t),some (.ref p),some (.ref x)]) rfl (gs:=["hangul_parts"]) (by decide +kernel) ?_;intro A L h ar hL Z Z S Z Z;ext;refine ab9 S (D.mono hR') ?_;ext;refine bq S (bk8 S.good (fun a o y=>S.hs a o (hR' a o y)) D) ar fun h S Z=>?_;ext;refine bq S (az4 S.good _ _ (by decide)) ar fun h S Z=>?_;ext;refine ab9 S (D.mono hR') ?_;ext;refine ch S (ab5 S.good (fun a o y=>S.hs a o (hR' a o y)) D (by decide)) ar fun tw h S Z=>?_;walk_at"gc";refine ab9 S (D.mono hR') ?_;ext;refine bI (its:=[_,_]) (S.hs _ _ (hR' _ _ hp)).1 (by decide) (by decide) (j:=0) rfl rfl ?_;ext;refine ch S (ab5 S.good (fun a o y=>S.hs a o (hR' a o y)) D (by decide)) ar fun tw h S Z=>?_;walk_at"gc";exact⟨S.kept hL,rfl⟩
def ab1(_:Cx)(o:Obj)(xs:List (List Int×Addr×Value)):Prop:=o.ExactDict/\av fun es n=>o.data=.dict es n/\es.toList=xs.map (PySem.entryOfKey (tK c))
noncomputable def ae4(p:Addr)(t:Tok):List (List Int×Addr×Value):=[([101,769],p,.int 233 t)]
def ab6(_:Cx)(R1 R2:RP)(d:Addr):Prop:=dT d/\eE fun o p t n t1 t2=>bB (R1 d o) (ab1 c o (ae4 p t)) (R2 p { cls:=.type "tuple", data:=.seq #[.int 101 t1,.int 769 t2] n })
theorem ab6.mono{R1 R2 R1' R2':RP}{d:Addr}(i:ab6 c R1 R2 d)(k1:∀ a o,R1 a o->R1' a o)(k2:∀ a o,R2 a o->R2' a o):ab6 c R1' R2' d:=by obtain⟨a,o,p,t,n,t1,t2,x,y,z⟩:=i; exact⟨a,o,p,t,n,t1,t2,k1 _ _ x,y,k2 _ _ z⟩
theorem ab1.at{h:Heap}{d p:Addr}{o:Obj}{t t1 t2:Tok}{n:Nat}(i:ab1 c o (ae4 p t))(hd:h.get? d=some o)(hp:h.get? p=some { cls:=.type "tuple", data:=.seq #[.int 101 t1,.int 769 t2] n }):h.DictOfH (tK c) d (ae4 p t):=by
 obtain⟨x,es,m,a,b⟩:=i;exact⟨o,es,m,hd,x,a,b,fun q hq=>by rw[je.mp hq]; exact a12 hp,by simp [ae4]⟩
theorem ab1.of{h:Heap}{d:Addr}{o:Obj}{xs:List (List Int×Addr×Value)}(hd:h.get? d=some o)(i:h.DictOfH (tK c) d xs):ab1 c o xs:=by obtain⟨o',es,m,a,x,b,e,Z⟩:=i; exact by rw[hd] at a; cases a; exact⟨x,es,m,b,e⟩
theorem a08{h:Heap}(G:ak c h){R:RP}(hR:∀ a o,R a o->Hs h a o){x:Addr}(D:aV c R x):Ct c 7 (.ref 163) [.ref x] h (fun r h'=>∃ d,r=.ref d/\ab6 c (Nf h h') R d):=by
 have hR':∀ a o,R a o->In (h.hide ag) [] a o:=fun a o y=>Hs.in a o (hR a o y);refine al G (by k_is) (by k_is) (binds:=[("data", .ref x)]) (fun s X=>jx rfl) (rest:=["found", "first", "last", "told", "code"]) (ns:=["data", "found", "first", "last", "told", "code"]) rfl (vs:=[some (.ref x),none,none,none,none,none]) rfl (gs:=["len", "range", "form_is_primary"]) (by decide +kernel) ?_;intro A L h ar hL Z Z S Z Z;ext;refine ah1 S ?_;intro d h Z nm Z S;ext;obtain⟨dd,mm,pp,ww,kvs,x1,x2,x3,x4,d1,d3,d4,i,ds,df,dm,r1,⟨vv,r3,y3⟩,r2,r4⟩:=id D;refine bx S (i.mono hR') (da _).2.2 (by show(_:Str)∉(["defaults", "maps", "properties", "words"]:List Str); decide +kernel) ?_;ext;refine bq S (am5 S.good ((i.mono hR').mono S.hs) ((dm.mono hR').mono S.hs) (name := "dm") rfl) ar fun h S Z=>?_;rw[bj5] at r3 y3;dsimp only at r3 y3;have r3':=r3;obtain⟨sa,va,sv,n1,n2,ri,z2,z3,z4⟩:=r3';refine bx S (ri.mono hR') (a13 _).2.2 (by show(_:Str)∉(["default", "starts", "values"]:List Str); decide +kernel) ?_;ext;refine ba S (bk3 S.good ((r3.mono hR').mono S.hs) ((y3.mono hR').mono S.hs)) ar fun v h Z k q'=>?_;obtain⟨a,n,v1,e,nf,row⟩:=q';subst e;obtain⟨ents,S,nf,row⟩:=Fs.takeNm (P:=fun R=>R a (listOf [v1].toArray n)/\cO R v1 233 233 (vv.getD 1 .none)) S k ((az.one nf).and row.supp);obtain⟨vt,evt,yt⟩:=y3.getd (i:=1) rfl;have evv:vv.getD 1 .none=vt:=by rw[jk,evt]; rfl
 rw[evv] at row;obtain⟨ta,tn,ts,wa,rfl,te,yw⟩:=yt.strW;obtain⟨pa,pn,t1,t2,rfl,pe⟩:=yw.ints;refine a48 ar.handled S (.inr nf) fun it h S src=>?_;have hin:∀ {fx'} a o,R a o->S.inn fx' a o:=fun a o y=>In.nil a o (hR' a o y);refine aS (src _ _ _) S (fun i vs l=>cP fun o1 o2 o3 o4=>bB (vs=[some (.ref x),some (.ref d),o1,o2,o3,o4]) (i=0->l=[(d,dictOf [] 0)]) (i≠0->av fun o t=>l=[(d,o)]/\ab1 c o (ae4 pa t))) ⟨none,none,none,none,rfl,fun Z=>rfl,fun h=>absurd rfl h⟩ ?_ ?_
 ·rintro Z Z i v vs l h own hii hv ⟨o1,o2,o3,o4,rfl,hl,Z⟩ S;have hi:i=0:=by simp at hii; exact hii
  subst hi
  cases hv
  obtain rfl:=hl rfl;obtain⟨p,t,u,kk,rfl,m⟩:=row;refine cL (items:=[_,_,_]) S ar.handled (S.fix _ (jh _ m)) rfl rfl fun h S=>?_
  show Wp _ _ _ (assignInOrder [_,_,_] _) _ _
  ext;refine bI (its:=[_,_]) (S.at' (hin _ _ te)) (by decide) (by decide) (j:=0) rfl rfl ?_;ext;refine a14 ?_;ext;refine BB.neg (by decide +kernel) ?_;ext;refine bI (its:=[_,_]) (S.at' (hin _ _ te)) (by decide) (by decide) (j:=1) rfl rfl ?_;ext;refine as1 (its:=[_,_]) (S.at' (hin _ _ pe)) (by show 2<_; decide) fun Z=>?_;ext;refine BB.neg rfl ?_;ext;refine bp9 S ?_;intro r v h Z Z S;refine ad6 ar.handled S (by decide) (by decide) (by decide) (by decide) fun it h S src=>?_;refine aS (src _ _) S (fun i vs l=>∃ o4,bB (vs=[some (.ref x),some (.ref d),some (.int 233 t),some (.int 233 u),some (.ref ta),o4]) (i=0->l=[(d,dictOf [] 0)]) (i≠0->av fun o t=>l=[(d,o)]/\ab1 c o (ae4 pa t))) ⟨o4,rfl,fun Z=>rfl,fun h=>absurd rfl h⟩ ?_ ?_
  ·rintro Z Z i v vs l h own hii ⟨tc,rfl⟩ ⟨o4,rfl,hl,Z⟩ S;have hi:i=0:=by
    have:((233:Int)+1-233).toNat=1:=by decide
    lia
   subst hi;obtain rfl:=hl rfl;ext;refine bI (its:=[_,_]) (S.at' (hin _ _ te)) (by decide) (by decide) (j:=1) rfl rfl ?_;ext;refine bq S (be4 S.good (fun a o y=>S.hs a o (hin a o y)) D pe) ar fun h S Z=>?_;ext;refine bI (its:=[_,_]) (S.at' (hin _ _ te)) (by decide) (by decide) (j:=1) rfl rfl ?_;ext;have hd0:∀ h:Heap,h.get? d=some (dictOf [] 0)->h.DictOfH (tK c) d []:=fun h e=>⟨_,#[],0,e,⟨rfl,rfl,rfl⟩,rfl,rfl,fun q hq=>absurd hq jm,List.nodup_nil⟩;refine cb3 ar (a12 (S.at' (hin _ _ pe))) nm (hd0 _ (S.own _ (.head _))) ?_;ext;refine BB.neg rfl ?_;ext;refine bI (its:=[_,_]) (S.at' (hin _ _ te)) (by decide) (by decide) (j:=1) rfl rfl ?_;ext;refine cb2 ar S rfl (a12 (S.at' (hin _ _ pe))) (hd0 _ (S.own _ (.head _))) (by decide) ?_;intro o' h hd Z S;ext;exact⟨_,_,⟨_,rfl,fun h=>absurd h (by decide),fun Z=>⟨o',_,rfl,ab1.of (S.own _ (.head _)) hd⟩⟩,S⟩
  ·rintro Z Z h ⟨o4,rfl,Z,hl⟩ S;obtain⟨o',t',rfl,po⟩:=hl (by decide);ext;exact⟨_,_,⟨_,_,_,_,rfl,fun h=>absurd h (by decide),fun Z=>⟨o',_,rfl,po⟩⟩,S⟩
 ·rintro Z Z h ⟨o1,o2,o3,o4,rfl,Z,hl⟩ S;obtain⟨o',t',rfl,po⟩:=hl (by simp);ext;exact⟨S.kept hL,d,rfl,nm,o',pa,t',_,t1,t2,S.rlNf _ _ (.inl (.head _)),po,pe⟩
noncomputable def ar2(d sd:Addr):List (Str×Value):=[("pairs", .ref d),("seconds", .ref sd)]
theorem cA0{d sd:Addr}:(("pairs", .ref d):Str×Value)∈ar2 d sd:=.head _
theorem cA1{d sd:Addr}:(("seconds", .ref sd):Str×Value)∈ar2 d sd:=.tail _ (.head _)
theorem bf4{d sd}:((ar2 d sd).map (·.1)).Nodup:=by show(["pairs", "seconds"]:List Str).Nodup; decide +kernel
theorem dn1(P:Params):(["pairs", "seconds"]:List Str).all (dM (Mine.hd.heap_39 P) 201)=true:=by kernel_rfl
theorem a18{name:Str}(h:name∈(["pairs", "seconds"]:List Str)):dM (Mine.hd.heap_39 c.w.params) 201 name=true:=List.all_eq_true.mp (dn1 c.w.params) name h
theorem bv4{name:Str}(h:name∈(["pairs", "seconds"]:List Str)):ax4 (Mine.hd.heap_39 c.w.params) 201 name :=
 ⟨by k_is,by k_is,(af (P:=fun n=>takerIn (Mine.hd.heap_39 c.w.params) 201 n=some none) (by k_is) (af (P:=fun n=>takerIn (Mine.hd.heap_39 c.w.params) 201 n=some none) (by k_is) b7)) name h,by k_is⟩
theorem bv5(P:Params):dN (Mine.hd.heap_39 P) 201 "pair" 191/\dN (Mine.hd.heap_39 P) 201 "is_second" 198:=⟨⟨by k_is,by k_is,by k_is⟩,⟨by k_is,by k_is,by k_is⟩⟩
def cg(_:Cx)(R1 R2:RP)(x:Addr):Prop:=av fun d sd=>bB (bt R1 x 201 (ar2 d sd)) (ab6 c R1 R2 d) (DI (iK c) R1 sd [(769,.bool true)])
theorem cg.mono{R1 R2 R1' R2':RP}{x:Addr}(i:cg c R1 R2 x)(k1:∀ a o,R1 a o->R1' a o)(k2:∀ a o,R2 a o->R2' a o):cg c R1' R2' x:=by obtain⟨d,sd,a,b,e⟩:=i; exact⟨d,sd,a.mono k1,b.mono k1 k2,e.mono k1⟩
theorem ab6.supp{R1 R2:RP}{d:Addr}(i:ab6 c R1 R2 d):az R1 fun R=>ab6 c R R2 d:=by obtain⟨a,o,p,t,n,t1,t2,x,y,z⟩:=i; exact(az.one x).imp fun Z x=>⟨a,o,p,t,n,t1,t2,x,y,z⟩
theorem cg.supp{R1 R2:RP}{x:Addr}(i:cg c R1 R2 x):az R1 fun R=>cg c R R2 x:=by obtain⟨d,sd,a,b,e⟩:=i; exact(a.supp.and (b.supp.and e.supp)).imp fun Z x=>⟨d,sd,x.1,x.2.1,x.2.2⟩
theorem bj0{h:Heap}(G:ak c h){R:RP}(hR:∀ a o,R a o->Hs h a o){dx:Addr}(D:aV c R dx):ah9 c 8 184 201 [.ref dx] h (fun x h'=>cg c (Nf h h') R x):=by
 have hR':∀ a o,R a o->In (h.hide ag) [] a o:=fun a o y=>Hs.in a o (hR a o y);intro A x ix O ar hlt hsz K1 hx hdx;refine as7 G ar hlt hsz K1 hx hdx (by k_is) (by k_is) (binds:=[("self", .ref x),("data", .ref dx)])
  (fun s X=>jx rfl) (rest:=["one", "other"]) (ns:=["self", "data", "one", "other"]) rfl (vs:=[some (.ref x),some (.ref dx),none,none]) rfl (gs:=["primary_composites"]) (by decide +kernel) ?_
 intro A L h ar hL Z Z S Z Z;ext;refine cQ S (a08 S.good (fun a o y=>S.hs a o (hR' a o y)) D) ar fun d h Z k ps=>?_;obtain⟨ents,S,ps⟩:=Fs.takeNm (P:=fun R1=>ab6 c R1 R d) S k ps.supp;ext;refine aE (lf:=fun o'=>[(x,instObj 201 ix),(ix,o')]) S (S.own _ (.head _)) .nil (bv4 (by decide +kernel)) (fun Z=>.tail .head) (by decide) fun es n h E S=>?_;ext;refine ah1 S ?_;intro sd h Z nm Z S;ext;refine aE (lf:=fun o'=>[(sd,dictOf [] 0),(x,instObj 201 ix),(ix,o')]) S (S.own _ (.tail _ (.head _))) E (bv4 (by decide +kernel)) (fun Z=>.tail (.tail .head)) (by with_unfolding_all exact Nat.le_of_ble_eq_true rfl) fun es n h E S=>?_;have E:bN es (ar2 d sd):=E;ext;refine cJ S (x:=x) (C:=201) (at':=ar2 d sd) ⟨ix,es,n,S.isl (.tail _ (.head _)),S.isl (.tail _ (.tail _ (.head _))),E⟩ (a18 (by decide +kernel)) bf4 (v:=.ref d) cA0 rfl ?_;obtain⟨nmd,o,p,t,pn,t1,t2,m,po,pr⟩:=ps;obtain⟨ox,es',m',od,oe⟩:=id po;refine br0 ar.handled S (.inr m) ox od nmd fun it h S src=>?_;have hin:∀ {fx'} a o,R a o->S.inn fx' a o:=fun a o y=>In.nil a o (hR' a o y);have esz:es'.size=1:=by rw[<- Array.length_toList,oe]; rfl
 refine aS (src _ _ _) S (fun i vs l=>b5 fun o1 o2 so=>bB (vs=[some (.ref x),some (.ref dx),o1,o2]) (l=[(sd,so),(x,instObj 201 ix),(ix,dictOf es n)]) (Obj.IsDictOf (iK c) so (if i=0 then[] else[(769,.bool true)]))) ⟨none,none,_,rfl,rfl,?_⟩ ?_ ?_
 ·exact⟨#[],0,⟨rfl,rfl,rfl⟩,rfl,fun Z h=>absurd h (by simp),.nil,List.nodup_nil⟩
 ·rintro Z Z i v vs l h own hii ⟨e,ev,rfl⟩ ⟨o1,o2,so,rfl,rfl,io⟩ S;have hi:i=0:=by exact cw4 esz hii
  subst hi;have ek:e.key=.ref p:=by
   rw[<- Array.getElem?_toList,oe] at ev
   cases ev
   rfl
  rw[ek];refine cL (items:=[_,_]) S ar.handled (S.at' (hin _ _ pr)) rfl rfl fun h S=>?_
  show Wp _ _ _ (assignInOrder [_,_] _) _ _
  ext;refine cJ S (x:=x) (C:=201) (at':=ar2 d sd) ⟨ix,es,n,S.isl (.tail _ (.head _)),S.isl (.tail _ (.tail _ (.head _))),E⟩ (a18 (by decide +kernel)) bf4 (v:=.ref sd) cA1 rfl ?_;ext;refine aj7 S io a16 (by decide) ?_;intro so' h io' Z S;ext;exact⟨_,_,⟨_,_,so',rfl,rfl,io'⟩,S⟩
 ·rintro Z Z h ⟨o1,o2,so,e1v,e2l,io⟩ S;refine S.castL e1v e2l ?_;intro Z Z S;rw[if_neg (cp3 esz)] at io;ext;have nf:∀ a o,((a,o)∈ents++[]\/(a,o)∈[(sd,so),(x,instObj 201 ix),(ix,dictOf es n)])->Nf _ h a o:=fun a o y=>S.rlNf a o y.symm;exact⟨rfl,S.kept hL,d,sd,⟨ix,es,n,nf _ _ (.inr (.tail _ (.head _))),nf _ _ (.inr (.tail _ (.tail _ (.head _)))),E⟩,⟨nmd,o,p,t,pn,t1,t2,nf _ _ (.inl m),po,pr⟩,nm,so,nf _ _ (.inr (.head _)),io⟩
def Cd(x:Int):Prop:=0<=x/\x<44032/\(x<4352\/4700<=x)
theorem b04{h:Heap}(G:ak c h){R:RP}(hR:∀ a o,R a o->Hs h a o){x:Addr}(I:cg c R R x){a b:Int}{ta tb:Tok}(ha:Cd a)(hb:Cd b):Ct c 3 (.ref 191) [.ref x,.int a ta,.int b tb] h (fun r Z=>if a=101/\b=769 then ∃ t,r=.int 233 t else r=.none):=by
 have hR':∀ a o,R a o->In (h.hide ag) [] a o:=fun a o y=>Hs.in a o (hR a o y);obtain⟨d,sd,i,⟨nm,o,p,t,pn,t1,t2,m,po,pr⟩,sec⟩:=I.mono hR' hR';refine al G (by k_is) (by k_is) (binds:=[("self", .ref x),("one", .int a ta),("other", .int b tb)]) (fun s X=>jx rfl) (rest:=["found"]) (ns:=["self", "one", "other", "found"]) rfl (vs:=[some (.ref x),some (.int a ta),some (.int b tb),none]) rfl (gs:=["hangul_pair"]) (by decide +kernel) ?_;intro A L h ar hL Z Z S Z Z;ext;refine bq S (bs6 S.good a b _ _ (by have:=ha.2.2; exact dd2 this) ha.2.1) ar fun h S Z=>?_;ext;refine aJ ?_;ext;refine am S i (a18 (by decide +kernel)) bf4 (v:=.ref d) cA0 rfl ?_;ext;have D:=po.at (S.hs _ _ m).1 (S.hs _ _ pr).1;refine bw2 D ?_;ext;have D:=po.at (S.hs _ _ m).1 (S.hs _ _ pr).1;refine bw3 ar (a12 (S.get1 (.head _))) nm D ?_;ext;refine⟨S.kept hL,?_⟩
 split
 ·rename_i hc
  obtain⟨rfl,rfl⟩:=hc;exact⟨t,rfl⟩
 ·rename_i hc
  have:atKey (ae4 p t) [a,b]=none:=by
   unfold atKey ae4;rw[List.find?_cons_of_neg,List.find?_nil]
   ·rfl
   ·intro q;have q:=of_decide_eq_true q;simp only[List.cons.injEq,and_true] at q;exact hc ⟨q.1.symm,q.2.symm⟩
  rw[this]
  rfl
theorem bk1{h:Heap}(G:ak c h){R:RP}(hR:∀ a o,R a o->Hs h a o){x:Addr}(I:cg c R R x){a:Int}{ta:Tok}(ha:Cd a):Ct c 2 (.ref 198) [.ref x,.int a ta] h (fun r Z=>r=.bool (decide (a=769))):=by
 have hR':∀ a o,R a o->In (h.hide ag) [] a o:=fun a o y=>Hs.in a o (hR a o y);obtain⟨d,sd,i,Z,nm,o,m,io⟩:=I.mono hR' hR';refine al G (by k_is) (by k_is) (binds:=[("self", .ref x),("code", .int a ta)]) (fun s X=>jx rfl) (rest:=["is_vowel"]) (ns:=["self", "code", "is_vowel"]) rfl (vs:=[some (.ref x),some (.int a ta),none]) rfl (gs:=["VOWEL_FIRST", "VOWELS", "TAIL_NONE", "TAILS"]) (by decide +kernel) ?_;intro A L h ar hL Z Z S Z Z;have:=ha.2.2;refine br (fun h=>S.like [some (.ref x),some (.int a ta),some (.bool false)] [] h) ?_ ?_
 ·ext;refine BB.dec (fun h1=>?_) (fun h1=>?_)
  ·ext
   try dsimp +zetaDelta only at S
   rw[show decide (a<4449+21)=false from jy (c66 this h1)] at S;exact⟨rfl,S⟩
  ·ext
   try dsimp +zetaDelta only at S
   rw[jy h1] at S;exact⟨rfl,S⟩
 ·intro h S;ext;refine am S i (a18 (by decide +kernel)) bf4 (v:=.ref sd) cA1 rfl ?_;refine br8 (S.hs _ _ m).1 io nm a16 ?_;have hv:(valueAt [((769:Int),Value.bool true)] a).isSome=decide (a=769):=by
   unfold valueAt
   by_cases h:a=769
   ·subst h; rfl
   ·rw[List.find?_cons_of_neg (by simpa using fun e=>h e.symm),jy h]; rfl
  rw[hv];ext;refine BB.dec (fun h1=>?_) (fun h1=>?_)
  ·ext;rw[jz h1];exact⟨S.kept hL,rfl⟩
  ·ext;refine BB.dec (fun h2=>?_) (fun h2=>?_)
   ·ext;rw[jy h1,show decide (a<4519+28)=false from jy (c83 this h2)];exact⟨S.kept hL,rfl⟩
   ·ext;rw[jy h1,jy h2];exact⟨S.kept hL,rfl⟩
end
section
variable {E:VP} {gs ns:List Str} {A:Around} {env:Env} {V:Heap} {fx:ac} {l:ac} {vs:LO} {h:Heap} {R2:RP} {x:Addr} {pl:Sem Bool} {Q:Value×List Value->Heap->Prop}
theorem cd2(S:Fs c gs ns env V fx vs l h)(I:cg c (In V fx) R2 x)(q:Q (.ref 191,[.ref x]) h):Wp c E A (getMethod (.ref x) (PySem.Str.ofString "pair") pl) Q h:=by
 obtain⟨d,sd,i,Z⟩:=I;exact bx S i (bv5 _).1 (by show(_:Str)∉(["pairs", "seconds"]:List Str); decide +kernel) q
theorem bq0(S:Fs c gs ns env V fx vs l h)(I:cg c (In V fx) R2 x)(q:Q (.ref 198,[.ref x]) h):Wp c E A (getMethod (.ref x) (PySem.Str.ofString "is_second") pl) Q h:=by
 obtain⟨d,sd,i,Z⟩:=I;exact bx S i (bv5 _).2 (by show(_:Str)∉(["pairs", "seconds"]:List Str); decide +kernel) q
end
mutual
noncomputable def bw(F:List Int)(x:Int):List Int:=if F.getLast?=some 101/\x=769 then F.dropLast++[233] else F++[x]
noncomputable def db(ys:List Int):List Int:=ys.foldl bw []
theorem am6(ys:List Int){i:Nat}(hi:i<ys.length):db (ys.take (i+1))=bw (db (ys.take i)) (ys.getD i 0):=by
 rw[db,List.take_add_one,jj hi,jk,jj hi,List.foldl_append]
 rfl
def dC(xs:List Int):Prop:=∀ x∈xs,Cd x
theorem bl3{F:List Int}{x:Int}(h:dC F)(hx:Cd x):dC (bw F x):=by
 unfold bw
 split
 ·intro y hy
  rcases jg.mp hy with hy|hy
  ·exact h y (List.dropLast_subset _ hy)
  ·rw[je.mp hy]; exact⟨by decide,by decide,.inl (by decide)⟩
 ·intro y hy
  rcases jg.mp hy with hy|hy
  ·exact h y hy
  ·rw[je.mp hy]; exact hx
theorem aq7{ys:List Int}(h:dC ys):∀ i,dC (db (ys.take i))
 | 0=>fun y hy=>absurd hy (by simp [db])
 | i+1=>by
  by_cases hi:i<ys.length
  ·rw[am6 ys hi];exact bl3 (aq7 h i) (h _ (bS hi))
  ·rw[List.take_of_length_le (b51 hi),<- List.take_of_length_le (l:=ys) (i:=i) (bm8 hi)];exact aq7 h i
theorem az6(F:List Int)(x:Int):(bw F x).length<=F.length+1:=by
 unfold bw
 split
 ·rw[jl,List.length_dropLast]; exact Nat.succ_le_succ (Nat.sub_le _ 1)
 ·exact jB jl
theorem aq8(ys:List Int):∀ i,(db (ys.take i)).length<=i
 | 0=>by simp [db]
 | i+1=>by
  by_cases hi:i<ys.length
  ·rw[am6 ys hi];have:=az6 (db (ys.take i)) (ys.getD i 0);have:=aq8 ys i;exact c52 (by assumption) this
  ·rw[List.take_of_length_le (b51 hi),<- List.take_of_length_le (l:=ys) (i:=i) (bm8 hi)];have:=aq8 ys i;exact eO this
theorem a51{x:Int}{t:Tok}{vs:List Value}{xs:List Int}(i:IntsAre vs xs):xs≠[]->IntsAre (vs.set (vs.length-1) (.int x t)) (xs.dropLast++[x]):=by
 induction i with
 | nil=>exact fun h=>absurd rfl h
 | cons n u r ih =>
  intro Z
  cases r with
  | nil=>exact .cons x t .nil
  | cons m w r=>exact .cons n u (ih (by simp))
theorem ab0{F:List Int}{x:Int}(h:¬ (F.getLast?=some 101/\x=769)):bw F x=F++[x]:=if_neg h
theorem ao8(x:Int):(x=769/\wt x=230)\/(x≠769/\wt x=0):=by
 by_cases h:x=769
 ·exact .inl ⟨h,if_pos h⟩
 ·exact .inr ⟨h,if_neg h⟩
def bm0(F:List Int)(s m:Int):Prop:=(s=(F.length:Int)-1/\m=-1)\/(m=230/\-1<=s/\s<(F.length:Int)-1/\F.getLast?=some 769)
end
namespace X25
mutual
def P(h:Heap)(R:RP)(x tx cp:Addr)(xs:List Int):Prop:=∀ (G:ak c h) (hR:∀ a o,R a o->Hs h a o) (D:aV c R x) (hx:LI R tx xs) (hT:dC xs) (hn:xs.length<=60) (I:cg c R R cp),Ct c 4 (.ref 213) [.ref tx,.ref x,.ref cp] h (fun r h'=>∃ a,r=.ref a/\LI (Nw h h') a (db xs))
def Q(w:Heap×(RP)×Addr×Addr×Addr×(List Int)):=P w.1 w.2.1 w.2.2.1 w.2.2.2.1 w.2.2.2.2.1 w.2.2.2.2.2
def w:=@Classical.epsilon _ ⟨(default,fun Z Z=>True,0,0,0,[])⟩ fun w=>¬ Q w
def h:=w.1
def R:=w.2.1
def x:=w.2.2.1
def tx:=w.2.2.2.1
def cp:=w.2.2.2.2.1
def xs:=w.2.2.2.2.2
theorem m:P h R x tx cp xs:=by
 intro G hR D hx hT hn I;have hR':∀ a o,R a o->In (h.hide ag) [] a o:=fun a o y=>Hs.in a o (hR a o y);refine al G (by k_is) (by k_is) (binds:=[("text", .ref tx),("data", .ref x),("composer", .ref cp)]) (fun s X=>bZ X rfl (by k_is) rfl (by walk_at"u")) (rest:=["found", "starter", "most", "code", "weight", "pair"]) (ns:=["text", "data", "composer", "found", "starter", "most", "code", "weight", "pair"]) rfl (vs:=[some (.ref tx),some (.ref x),some (.ref cp),none,none,none,none,none,none]) rfl (gs:=["Composer", "len", "max"]) (by decide +kernel) ?_;intro A L h ar hL Z Z S Z Z;ext;refine aJ ?_;ext;refine am8 (x := "found") (y := "starter") (z := "most") ?_;ext;refine ad S (by decide) ?_;intro fa h hf Z Z S1;have hf:=S.new hL hf;have S:=S1;ext;refine bD S ar.handled (S.own _ (.head _)) rfl fun h S=>⟨_,_,_,rfl,?_⟩;have S:=S.drop;ext;obtain⟨vs0,n0,ea,hi⟩:=id hx;have hlen:vs0.length=xs.length:=hi.length;have hin:∀ {fx'} a o,R a o->S.inn fx' a o:=fun a o y=>In.nil a o (hR' a o y);refine bp ar.handled S (hR' _ _ ea) fun it h S src=>?_;refine aS (src _ _) S (fun i vs l=>e6 fun its n1 s ts m tm o1 o2 o3=>bK (vs=[some (.ref tx),some (.ref x),some (.ref cp),some (.ref fa),some (.int s ts),some (.int m tm),o1,o2,o3]) (l=[(fa,listOf (List.toArray its) n1)]) (IntsAre its (db (xs.take i))) (bm0 (db (xs.take i)) s m)) ⟨[],_,_,_,_,_,none,none,none,rfl,rfl,.nil,.inl ⟨rfl,rfl⟩⟩ ?_ ?_
 ·rintro Z Z i v vs l h own hii hv ⟨its,n1,s,ts,m,tm,o1,o2,o3,e1v,e2l,q1,q2⟩ S;refine S.castL e1v e2l ?_;intro Z Z S;have hix:i<xs.length:=by exact z0 hlen hii
  obtain⟨t,et⟩:=au hi hix;obtain rfl:=cK hv et;have hm:=bS hix;have htk:=am6 xs hix;have hFl:=aq8 xs i;have hFt:=aq7 hT i;generalize xs.getD i 0=code at hm htk et;generalize db (xs.take i)=F at htk hFl hFt q1 q2;have hq:=q1.length;ext;refine ab9 S (D.mono hin) ?_;ext;refine ch S (ab5 S.good (fun a o y=>S.hs a o (hin a o y)) D (hT _ hm).1) ar fun tw h S Z=>?_;walk_at"s";walk_at"s";have hcode:Cd code:=hT _ hm;refine cc2 (fun h=>bw F code=F++[code]/\∃ o,S.like [some (.ref tx),some (.ref x),some (.ref cp),some (.ref fa),some (.int s ts),some (.int m tm),some (.int code t),some (.int (wt code) tw),o] [(fa,listOf its.toArray n1)] h)
   (fun h=>b5 fun o its' n'=>bB (S.like [some (.ref tx),some (.ref x),some (.ref cp),some (.ref fa),some (.int s ts),some (.int m tm),some (.int code t),some (.int (wt code) tw),o] [(fa,listOf (List.toArray its') n')] h) (IntsAre its' (bw F code)) (bm0 (bw F code) s m)) ?_ ?_ ?_
  ·ext;refine BB.dec (fun h1=>?_) (fun h1=>?_)
   ·ext;refine bQ (S.own _ (.head _)) (b95 hn hlen hii hFl hq) fun Z=>?_;ext;refine BB.dec (fun h2=>?_) (fun h2=>?_)
    ·ext;obtain⟨j,rfl⟩:=Int.eq_ofNat_of_zero_le h1;have hF:0<F.length:=by exact db3 hq h2
     have hj:j=F.length-1:=by exact z98 hq h2
     have hm':m=-1:=by
      rcases q2 with q2|q2
      ·exact q2.2
      ·exact absurd (by rw[<- hq]; exact h2) (Int.ne_of_lt q2.2.2.1)
     have hFl:F.getLast?=some (F.getD j 0):=by
      rw[List.getLast?_eq_getElem?,jk,<- hj,jj (bm5 hq h2)]
      rfl
     obtain⟨tl,el⟩:=au q1 (k:=j) (bm5 hq h2);have hd:Cd (F.getD j 0):=hFt _ (bS (bm5 hq h2));refine cd2 S (I.mono (R2':=R) hin fun Z Z y=>y) ?_;ext;refine bk (S.own _ (.head _)) h1 (di5 hn hlen hii (by assumption) hj) el ?_;ext;refine ba S (b04 S.good (fun a o y=>S.hs a o (hin a o y)) I hd hcode) ar fun v h S Z e=>?_
     by_cases hc:F.getD j 0=101/\code=769
     ·rw[if_pos hc] at e;obtain⟨tp,rfl⟩:=e;ext;refine bi1 S (db4 h2) (dc0 hn hlen hii (by assumption) h2 hj) ?_;intro n' h Z S;ext;refine .inr ⟨rfl,_,_,_,S,?_,?_⟩
      ·rw[bw,if_pos ⟨by rw[hFl,hc.1],hc.2⟩,hj,<- hq];exact a51 q1 (List.ne_nil_of_length_pos hF)
      ·rw[bw,if_pos ⟨by rw[hFl,hc.1],hc.2⟩];exact .inl ⟨by rw[jl,List.length_dropLast,jE]; exact cx6 hj,hm'⟩
     ·rw[if_neg hc] at e;subst e;ext;exact .inl ⟨rfl,ab0 (by rw[hFl]; exact fun q=>hc ⟨Option.some.inj q.1,q.2⟩),_,S⟩
    ·have hB:m=230/\F.getLast?=some 769:=by
      rcases q2 with q2|q2
      ·exact absurd (by rw[hq]; exact q2.1) h2
      ·exact⟨q2.1,q2.2.2.2⟩
     ext;refine BB.neg (jy (by rcases ao8 code with q|q<;>(rw[q.2,hB.1]; decide))) ?_;ext;exact .inl ⟨rfl,ab0 (by rw[hB.2]; exact fun q=>absurd q.1 (by decide)),_,S⟩
   ·ext;refine .inl ⟨rfl,ab0 ?_,_,S⟩
    rcases q2 with q2|q2
    ·have:F=[]:=List.eq_nil_of_length_eq_zero (c93 h1 q2);subst this;exact fun q=>absurd q.1 (by decide)
    ·rw[q2.2.2.2]; exact fun q=>absurd q.1 (by decide)
  ·rintro h ⟨hcs,o,S⟩;ext
   rcases ao8 code with⟨hk,hw⟩|⟨hk,hw⟩
   ·rw[hw];refine BB.f ?_;ext;refine bc8 S ar.handled fun t h S=>?_;ext;refine aj S .head (z83 hn hlen hii hFl hq) ?_;intro Z h S;ext;rw[htk,hcs];refine⟨_,_,⟨_,_,_,_,_,_,_,_,_,rfl,rfl,q1.append (.cons _ _ .nil),.inr ?_⟩,S⟩;subst hk;rw[jl,List.getLast?_append];refine⟨?_,?_,?_,rfl⟩
    ·rcases q2 with q2|q2
     ·rw[q2.2]; rfl
     ·rw[q2.1]; rfl
    ·rcases q2 with q2|q2
     ·rw[q2.1]; exact Int.sub_le_sub_right (Int.natCast_nonneg _) 1
     ·exact q2.2.1
    ·have hl1:(F.length:Int)-1<((F.length+1:Nat):Int)-1:=Int.sub_lt_sub_right (Int.ofNat_lt.mpr (Nat.lt_succ_self _)) 1
     rcases q2 with q2|q2
     ·rw[q2.1]; exact hl1
     ·exact Int.lt_trans q2.2.2.1 hl1
   ·rw[hw];refine BB.t ?_;walk_at"s";refine bl (x := "starter") (y := "most") ?_;ext;refine bQ (S.own _ (.head _)) (b95 hn hlen hii hFl hq) fun Z=>?_;ext;refine bD S ar.handled (S.own _ (.head _)) rfl fun h S=>⟨_,_,rfl,?_⟩;have S:=S.drop;ext;refine aj S .head (z83 hn hlen hii hFl hq) ?_;intro Z h S;ext;rw[htk,hcs];exact⟨_,_,⟨_,_,_,_,_,_,_,_,_,rfl,rfl,q1.append (.cons _ _ .nil),.inl ⟨by rw[jl,hq]; simp,rfl⟩⟩,S⟩
  ·rintro h ⟨o,its',n',S,i1,i2⟩;ext;rw[htk];exact⟨_,_,⟨its',n',s,ts,m,tm,_,_,_,rfl,rfl,i1,i2⟩,S⟩
 ·rintro Z Z h ⟨its,n1,s,ts,m,tm,o1,o2,o3,e1v,e2l,q1,q2⟩ S;refine S.castL e1v e2l ?_;intro Z Z S;rw[hlen,jF] at q1;ext;exact⟨S.kept hL,fa,rfl,its,n1,⟨S.own _ (.head _),hf⟩,q1⟩
end
end X25
mutual
theorem a91{h R x tx cp xs}:X25.P h R x tx cp xs:=c7 (P:=X25.Q) (a:=X25.w) rfl X25.m (h,R,x,tx,cp,xs)
theorem dC.txt{xs:List Int}(h:dC xs):eU xs:=fun x hx=>⟨(h x hx).1,(h x hx).2.1⟩
theorem dC.dec{xs:List Int}(h:dC xs):dC (cS xs):=by
 intro y hy;obtain⟨x,hx,hy⟩:=List.mem_flatMap.mp hy;unfold dg at hy
 split at hy
 ·simp at hy; rcases hy with rfl|rfl
  ·exact⟨by decide,by decide,.inl (by decide)⟩
  ·exact⟨by decide,by decide,.inl (by decide)⟩
 ·rw[je.mp hy]; exact h x hx
theorem az5{h:Heap}(G:ak c h){R:RP}(hR:∀ a o,R a o->Hs h a o){x tx cp:Addr}(D:aV c R x){xs:List Int}(hx:LI R tx xs)(hT:dC xs)(hn:xs.length<=30)(I:cg c R R cp){tw:Tok}:Ct c 8 (.ref 221) [.ref tx,.ref x,.str "nfc" tw,.ref cp] h (fun r h'=>∃ a,r=.ref a/\LI (Nw h h') a (db (cS xs))):=by
 have hR':∀ a o,R a o->In (h.hide ag) [] a o:=fun a o y=>Hs.in a o (hR a o y);refine al G (by k_is) (by k_is) (binds:=[("text", .ref tx),("data", .ref x),("word", .str "nfc" tw),("composer", .ref cp)]) (fun s X=>bZ X rfl (by k_is) rfl (by walk_at"u")) (rest:=["found"]) (ns:=["text", "data", "word", "composer", "found"]) rfl (vs:=[some (.ref tx),some (.ref x),some (.str "nfc" tw),some (.ref cp),none]) rfl (gs:=["decomposed", "composed"]) (by decide +kernel) ?_;intro A L h ar hL Z Z S Z Z;ext;refine as3 (S.get1 (.head _)) (.cons _ _ (.cons _ _ .nil)) ?_;rw[show(["nfkd", "nfkc"]:List Str).any (· == "nfc")=false by decide +kernel];have S:=S.drop;ext;refine cQ S (a07 S.good (fun a o y=>S.hs a o (hR' a o y)) D hx hT.txt hn) ar fun a h Z k q'=>?_;obtain⟨vs1,n1,nw,i1⟩:=q';have S:=S.takeF k nw;ext;refine aJ ?_;ext;refine as3 (S.get1 (.head _)) (.cons _ _ (.cons _ _ .nil)) ?_;rw[show(["nfd", "nfkd"]:List Str).any (· == "nfc")=false by decide +kernel];have S:=S.drop;ext;have up:=fun a=>S.new (a:=a) hL;have hin:∀ {fx'} a o,R a o->S.inn fx' a o:=fun a o y=>In.nil a o (hR' a o y);have hl:=aq4 xs;refine cQ S (a91 S.good S.hs (D.mono hin) ⟨vs1,n1,In.here,i1⟩ hT.dec (b87 hn hl) (I.mono hin hin)) ar fun b h S k i=>?_;ext;exact⟨S.kept hL,b,rfl,i.mono fun a o y=>⟨y.1,up _ y.2⟩⟩
theorem b08(x:Int):db (cS [x])=[x]:=by
 by_cases h:x=233
 ·subst h; decide
 ·have:cS [x]=[x]:=by simp [cS,dg,h]
  rw[this]
  rfl
theorem br2(x:Int):(dg x).getD 0 0=if x=233 then 101 else x:=by unfold dg; split<;>rfl
end
namespace X27
mutual
def P(h:Heap)(R:RP)(x cp:Addr)(t tw:Tok):Prop:=∀ (G:ak c h) (hR:∀ a o,R a o->Hs h a o) (D:aV c R x) {code:Int} (hcd:Cd code) (I:cg c R R cp),Ct c 9 (.ref 228) [.int code t,.ref x,.str "nfc" tw,.ref cp] h (fun r Z=>∃ t,r=.str (if code=769 then "maybe" else "yes") t)
def Q(w:Heap×(RP)×Addr×Addr×Tok×Tok):=P w.1 w.2.1 w.2.2.1 w.2.2.2.1 w.2.2.2.2.1 w.2.2.2.2.2
def w:=@Classical.epsilon _ ⟨(default,fun Z Z=>True,0,0,default,default)⟩ fun w=>¬ Q w
def h:=w.1
def R:=w.2.1
def x:=w.2.2.1
def cp:=w.2.2.2.1
def t:=w.2.2.2.2.1
def tw:=w.2.2.2.2.2
theorem m:P h R x cp t tw:=by
 intro G hR D code hcd I;have hR':∀ a o,R a o->In (h.hide ag) [] a o:=fun a o y=>Hs.in a o (hR a o y);refine al G (by k_is) (by k_is) (binds:=[("code", .int code t),("data", .ref x),("word", .str "nfc" tw),("composer", .ref cp)]) (fun s X=>jx rfl) (rest:=["first"]) (ns:=["code", "data", "word", "composer", "first"]) rfl (vs:=[some (.int code t),some (.ref x),some (.str "nfc" tw),some (.ref cp),none]) rfl (gs:=["form_of", "form_expanded"]) (by decide +kernel) ?_;intro A L h ar hL Z Z S Z Z;have hin:∀ {fx'} a o,R a o->S.inn fx' a o:=fun a o y=>In.nil a o (hR' a o y);ext;refine ad S (bd (by simp)) ?_;intro la h hle k Z S;have S:=S.toFix;ext;refine cQ S (az5 S.good S.hs (D.mono hin) ⟨_,_,In.here,.cons _ _ .nil⟩ (fun y hy=>by rw[je.mp hy]; exact hcd) (by simp) (I.mono hin hin)) ar fun a h Z k q'=>?_;obtain⟨vs1,n1,nw,i1⟩:=q';rw[b08] at i1;have S:=S.takeF k nw;ext;refine ad S (bd (by simp)) ?_;intro la2 h hle k Z S;refine dy ar (S.at' In.here) (S.own _ (.head _)) i1 (.cons _ _ .nil) ?_;rw[jz rfl];have S:=S.drop;ext;refine as3 (S.get1 (.head _)) (.cons _ _ (.cons _ _ .nil)) ?_;rw[show(["nfd", "nfkd"]:List Str).any (· == "nfc")=false by decide +kernel];have S:=S.drop;ext;refine ad7 ?_;rw[jy (by decide)];ext;refine cQ S (ao5 S.good (fun a o y=>S.hs a o (hin a o y)) D hcd.1 hcd.2.1) ar fun b h S k q'=>?_;obtain⟨bs,nb,eb,ib⟩:=q';ext;obtain⟨tb,ebb⟩:=au ib (k:=0) (by unfold dg; split<;>simp);refine bk eb.1 (by decide) (by decide) ebb ?_;rw[br2];ext;refine aJ ?_;ext;refine bq0 S (I.mono (R2':=R) hin fun Z Z y=>y) ?_;ext;refine bq S (bk1 S.good (fun a o y=>S.hs a o (hin a o y)) I (by split; exact⟨by decide,by decide,.inl (by decide)⟩; exact hcd)) ar fun h S Z=>?_;rw[show decide ((if code=233 then 101 else code)=769)=decide (code=769) by split<;>(try subst code)<;>rfl];ext;refine BB.dec (fun h1=>?_) fun h1=>?_
 ·ext;exact⟨S.kept hL,_,by rw[if_pos h1]⟩
 ·ext;exact⟨S.kept hL,_,by rw[if_neg h1]⟩
end
end X27
mutual
theorem br9{h R x cp t tw}:X27.P h R x cp t tw:=c7 (P:=X27.Q) (a:=X27.w) rfl X27.m (h,R,x,cp,t,tw)
theorem bk4{h:Heap}(G:ak c h){R:RP}(hR:∀ a o,R a o->Hs h a o){x tx cp:Addr}(D:aV c R x){xs:List Int}(hx:LI R tx xs)(hT:dC xs)(hn:xs.length<=1000)(I:cg c R R cp){tw:Tok}:Ct c 10 (.ref 236) [.ref tx,.ref x,.str "nfc" tw,.ref cp] h (fun r Z=>∃ t,r=.str (if 769∈xs then "maybe" else "yes") t):=by
 have hR':∀ a o,R a o->In (h.hide ag) [] a o:=fun a o y=>Hs.in a o (hR a o y);refine al G (by k_is) (by k_is) (binds:=[("text", .ref tx),("data", .ref x),("word", .str "nfc" tw),("composer", .ref cp)]) (fun s X=>bZ X rfl (by k_is) rfl (by walk_at"u")) (rest:=["found", "ahead", "code", "weight", "told"]) (ns:=["text", "data", "word", "composer", "found", "ahead", "code", "weight", "told"]) rfl (vs:=[some (.ref tx),some (.ref x),some (.str "nfc" tw),some (.ref cp),none,none,none,none,none]) rfl (gs:=["Composer", "form_quick"]) (by decide +kernel) ?_;intro A L h ar hL Z Z S Z Z;have hin:∀ {fx'} a o,R a o->S.inn fx' a o:=fun a o y=>In.nil a o (hR' a o y);ext;refine aJ ?_;ext;refine cL (items:=[_,_]) S ar.handled (S.own _ (.head _)) rfl rfl fun h S=>?_
 show Wp _ _ _ (assignInOrder [_,_] _) _ _
 have S:=S.drop;ext;obtain⟨vs0,n0,ea,hi⟩:=id hx;have hlen:vs0.length=xs.length:=hi.length;refine bp ar.handled S (hin _ _ ea) fun it h S src=>?_;refine aS (src _ _) S (fun i vs l=>eE fun tf y ty o1 o2 o3=>bB (y=0\/y=230) (vs=[some (.ref tx),some (.ref x),some (.str "nfc" tw),some (.ref cp),some (.str (if 769∈xs.take i then "maybe" else "yes") tf),some (.int y ty),o1,o2,o3]) (l=[])) ⟨_,0,_,none,none,none,.inl rfl,rfl,rfl⟩ ?_ ?_
 ·rintro Z Z i v vs l h own hii hv ⟨tf,y,ty,o1,o2,o3,hy,e1v,e2l⟩ S;refine S.castL e1v e2l ?_;intro Z Z S;have hix:i<xs.length:=by exact z0 hlen hii
  obtain⟨t,et⟩:=au hi hix;obtain rfl:=cK hv et;have hm:=bS hix;have htk:xs.take (i+1)=xs.take i++[xs.getD i 0]:=by rw[List.take_add_one,jj hix,jk,jj hix]; rfl
  generalize xs.getD i 0=code at hm htk et;ext;refine ab9 S (D.mono hin) ?_;ext;refine ch S (ab5 S.good (fun a o y=>S.hs a o (hin a o y)) D (hT _ hm).1) ar fun tw h S Z=>?_;ext;refine ch S (br9 S.good (fun a o y=>S.hs a o (hin a o y)) D (hT _ hm) I) ar fun tq h S Z=>?_
  by_cases hc:code=769
  ·subst hc;rw[if_pos rfl]
   try dsimp +zetaDelta only at S
   rw[show wt 769=230 from rfl] at S;ext;refine ad7 ?_;rw[jy (by decide)];ext;refine BB.pos (by decide) ?_;ext;refine BB.neg (jy (cu6 hy)) ?_;ext;refine ad7 ?_;rw[jz rfl];ext;exact⟨_,_,⟨_,230,_,_,_,_,.inr rfl,by rw[htk,if_pos (jh _ (.head _))],rfl⟩,S⟩
  ·rw[if_neg hc]
   try dsimp +zetaDelta only at S
   rw[show wt code=0 from if_neg hc] at S;ext;refine ad7 ?_;rw[jy (by decide)];ext;refine BB.neg (by decide) ?_;ext;refine ad7 ?_;rw[jy (by decide)];ext;have hne:(769∈xs.take (i+1))=(769∈xs.take i):=by
    rw[htk,jg,je];exact propext ⟨fun q=>q.elim id fun q=>absurd q.symm hc,.inl⟩
   refine⟨_,_,⟨tf,0,tw,some (.int code t),some (.int 0 tw),some (.str (PySem.Str.ofString "yes") tq),.inl rfl,?_,rfl⟩,S⟩
   simp +zetaDelta only [hne]
 ·rintro Z Z h ⟨tf,y,ty,o1,o2,o3,hy,e1v,e2l⟩ S;refine S.castL e1v e2l ?_;intro Z Z S
  try dsimp +zetaDelta only at S
  rw[hlen,jF] at S;ext;exact⟨S.kept hL,tf,rfl⟩
noncomputable def de:Option Int->List Int->Bool
 | _,[]=>false
 | p,x::r=>(p==some 101&&x==769) || de (some x) r
theorem bj2(r:List Int):∀ F:List Int,(r.foldl bw F).length<=F.length+r.length:=by
 induction r with
 | nil=>exact fun F=>Nat.le_refl _
 | cons x r ih =>
  intro F;rw[List.foldl_cons,jA];have:=ih (bw F x);have:=az6 F x;exact z91 (by assumption) this
theorem ce9(r:List Int):∀ F:List Int,de F.getLast? r=false->r.foldl bw F=F++r:=by
 induction r with
 | nil=>exact fun F Z=>(jD F).symm
 | cons x r ih =>
  intro F h;obtain⟨h1,h2⟩:=(Bool.or_eq_false_iff.mp h);have hc:bw F x=F++[x]:=ab0 fun zpa=>by obtain⟨a,b⟩:=zpa; rw[a,b] at h1; exact absurd h1 (by decide)
  rw[List.foldl_cons,hc,ih (F++[x]) (by rw[List.getLast?_append]; exact h2),List.append_assoc]
  rfl
theorem b14(r:List Int):∀ F:List Int,de F.getLast? r=true->(r.foldl bw F).length<F.length+r.length:=by
 induction r with
 | nil=>exact fun F h=>absurd h Bool.false_ne_true
 | cons x r ih =>
  intro F h;rw[List.foldl_cons,jA]
  by_cases hc:F.getLast?=some 101/\x=769
  ·have e:(bw F x).length=F.length:=by
    rw[bw,if_pos hc,jl,List.length_dropLast,jE];have:F≠[]:=fun q=>by rw[q] at hc; exact absurd hc.1 (by decide)
    have:=List.length_pos_iff.mpr this;exact dg1 this
   have:=bj2 r (bw F x);exact db2 e this
  ·have h2:de (some x) r=true:=((Bool.or_eq_true _ _).mp h).resolve_left fun q=>hc ((jC _ _).mp q |>.imp beq_iff_eq.mp beq_iff_eq.mp);have:=ih (F++[x]) (by rw[List.getLast?_append]; exact h2);rw[ab0 hc];rw[jl,jE] at this;exact c91 this
theorem b09(xs:List Int):∀ F,(cS xs).foldl bw F=xs.foldl bw F:=by
 induction xs with
 | nil=>intro F; rfl
 | cons x r ih =>
  intro F;rw[cS,List.flatMap_cons,List.foldl_append,List.foldl_cons];have:(dg x).foldl bw F=bw F x:=by
   unfold dg
   split
   ·rename_i h
    subst h
    show bw (bw F 101) 769=bw F 233
    rw[ab0 (F:=F) (x:=101) (by simp),ab0 (F:=F) (x:=233) (by simp),bw,if_pos (by simp),List.dropLast_concat]
   ·rfl
  rw[this];exact ih _
theorem az8(xs:List Int):(db (cS xs)=xs)↔de none xs=false:=by
 rw[db,b09]
 constructor
 ·intro h
  cases e:de none xs with
  | false=>rfl
  | true =>
   have:=b14 xs [] e;rw[h] at this;simp at this
 ·intro h;exact ce9 xs [] h
theorem bt8{xs:List Int}(h:769∉xs):∀ p,de p xs=false:=by
 induction xs with
 | nil=>intro p; rfl
 | cons x r ih =>
  intro p;have:x≠769:=fun e=>h (e▸.head _)
  show((p==some 101&&x==769) || de (some x) r)=false
  rw[beq_eq_false_iff_ne.mpr this,Bool.and_false,Bool.false_or];exact ih (fun q=>h (.tail _ q)) _
theorem bk5{h:Heap}(G:ak c h){R:RP}(hR:∀ a o,R a o->Hs h a o){x tx:Addr}(D:aV c R x){xs:List Int}(hx:LI R tx xs)(hT:dC xs)(hn:xs.length<=30){tw:Tok}:Ct c 11 (.ref 244) [.ref tx,.ref x,.str "nfc" tw] h (fun r Z=>r=.bool (!de none xs)):=by
 have hR':∀ a o,R a o->In (h.hide ag) [] a o:=fun a o y=>Hs.in a o (hR a o y);refine al G (by k_is) (by k_is) (binds:=[("text", .ref tx),("data", .ref x),("word", .str "nfc" tw),("composer", .none)]) (fun s X=>bZ X rfl (by k_is) rfl (by walk_at"u")) (rest:=["told"]) (ns:=["text", "data", "word", "composer", "told"]) rfl (vs:=[some (.ref tx),some (.ref x),some (.str "nfc" tw),some .none,none]) rfl (gs:=["Composer", "quick_check", "form_of", "list"]) (by decide +kernel) ?_;intro A L h ar hL Z Z S Z Z;have hin:∀ {fx'} a o,R a o->S.inn fx' a o:=fun a o y=>In.nil a o (hR' a o y);ext;refine aJ ?_;ext;refine ba S (ap5 S.good (bj0 S.good (fun a o y=>S.hs a o (hin a o y)) D) (by k_is) (by k_is) (by k_is)) ar fun v h Z k q'=>?_;obtain⟨cp,e,Z,I⟩:=q';subst e;obtain⟨ents,S,I⟩:=Fs.takeNm (P:=fun R1=>cg c R1 R cp) S k I.supp;ext;have I':=I.mono (R1':=S.inn (ents++[])) (R2':=S.inn (ents++[])) (fun a o y=>Or.inr y) hin;refine ch S (bk4 S.good S.hs (D.mono hin) (hx.mono hin) hT (bb3 hn) I') ar fun t h S Z=>?_;ext;refine ad7 ?_
 by_cases h9:769∈xs
 ·rw[if_pos h9,jy (by decide)];ext;refine ad7 ?_;rw[jz (by rw[if_pos h9])];ext;refine cQ S (az5 S.good S.hs (D.mono hin) (hx.mono hin) hT hn I') ar fun a h Z k q'=>?_;obtain⟨vs1,n1,nw,i1⟩:=q';have S:=S.takeF k nw;ext;obtain⟨vs0,n0,ea,hi⟩:=id hx;refine af7 S (S.at' (hin _ _ ea)) (by have:=hi.length; exact z6 hn this) ?_;intro r m h Z Z S;refine cE ar (S.at' In.here) (S.own _ (.head _)) i1 hi ?_;ext;refine⟨S.kept hL,congrArg Value.bool ?_⟩
  cases e:de none xs with
  | false=>exact jz ((az8 xs).mpr e)
  | true=>exact jy fun q=>by rw[(az8 xs).mp q] at e; cases e
 ·rw[if_neg h9,jz rfl];ext;refine⟨S.kept hL,?_⟩;rw[bt8 h9]
  rfl
noncomputable def du(code:Int)(ol:Bool):Str:=if code=95 then(if ol then "disallowed" else "valid") else if code=65 then "mapped" else if code=223 then "deviation" else if code=8205 then "deviation" else if code=173 then "ignored" else "valid"
noncomputable def ai1(code:Int):Str:=if code=95 then "disallowed_STD3_valid" else if code=65 then "mapped" else if code=223 then "deviation" else if code=8205 then "deviation" else if code=173 then "ignored" else "valid"
noncomputable def cd7(s:Str):PyData->Bool
 | .str x=>decide (x=s)
 | _=>false
noncomputable def ch8(s:Str):List PyData->Bool
 | x::r=>cd7 s x&&r.length==1
 | []=>false
noncomputable def cd6(s:Str):PyData->Bool
 | .tuple l=>ch8 s l
 | _=>false
theorem bw7:∀ i<14,cd6 (ai1 (ah.getD i 0)) (bb9 (ah.getD i 0))=true:=by decide +kernel
theorem bo1{code:Int}(h:code∈ah):∃ d,bb9 code=.tuple [.str (ai1 code),d]:=by
 obtain⟨i,hi,rfl⟩:=ba2 h;have:=bw7 i hi
 revert this
 generalize bb9 (ah.getD i 0)=d;intro e
 cases d<;>try exact Bool.noConfusion e
 rename_i l
 cases l with
 | nil=>exact Bool.noConfusion e
 | cons x r =>
  obtain⟨e1,e2⟩:=(jC _ _).mp e;obtain⟨y,rfl⟩:=b9 (beq_iff_eq.mp e2)
  cases x<;>try exact Bool.noConfusion e1
  exact⟨_,by rw[of_decide_eq_true e1]⟩
end
namespace X29
mutual
def P(h:Heap)(R:RP)(x:Addr)(code:Int)(t:Tok):Prop:=∀ (G:ak c h) (hR:∀ a o,R a o->Hs h a o) (D:aV c R x) (hc:code∈ah) (ol:Bool),Ct c 4 (.ref 414) [.int code t,.ref x,.bool ol] h (fun r h'=>cP fun a t' w n=>r=.ref a/\h'.get? a=some { cls:=.type "tuple", data:=.seq #[.str (du code ol) t',w] n })
def Q(w:Heap×(RP)×Addr×Int×Tok):=P w.1 w.2.1 w.2.2.1 w.2.2.2.1 w.2.2.2.2
def w:=@Classical.epsilon _ ⟨(default,fun Z Z=>True,0,0,default)⟩ fun w=>¬ Q w
def h:=w.1
def R:=w.2.1
def x:=w.2.2.1
def code:=w.2.2.2.1
def t:=w.2.2.2.2
theorem m:P h R x code t:=by
 intro G hR D hc ol;have hR':∀ a o,R a o->In (h.hide ag) [] a o:=fun a o y=>Hs.in a o (hR a o y);refine al G (by k_is) (by k_is) (binds:=[("code", .int code t),("data", .ref x),("only_letters", .bool ol)]) (fun s X=>jx rfl) (rest:=["status", "told"]) (ns:=["code", "data", "only_letters", "status", "told"]) rfl (vs:=[some (.int code t),some (.ref x),some (.bool ol),none,none]) rfl (gs:=[]) (by decide +kernel) ?_;intro A L h ar hL Z Z S Z Z;ext;refine ab9 S (D.mono hR') ?_;ext;refine ba S (a88 S.good (fun a o y=>S.hs a o (hR' a o y)) D hc) ar fun v h S Z y=>?_;obtain⟨d,ed⟩:=bo1 hc;rw[ed] at y;obtain⟨pa,pn,ts,w2,rfl,e,Z⟩:=y.strW;refine cL (items:=[_,_]) S ar.handled (S.at' (hR' _ _ e)) rfl rfl fun h S=>?_
 show Wp _ _ _ (assignInOrder [_,_] _) _ _
 ext;refine ad7 ?_
 by_cases h95:code=95
 ·rw[ai1,if_pos h95,jz rfl];ext;refine aJ ?_;ext;refine BB.mk (fun e=>?_) fun e=>?_
  ·subst e;ext;exact⟨S.kept hL,_,_,_,_,rfl,by rw[S.own _ (.head _),du,if_pos h95]; rfl⟩
  ·subst e;ext;exact⟨S.kept hL,_,_,_,_,rfl,by rw[S.own _ (.head _),du,if_pos h95]; rfl⟩
 ·have e1:ai1 code=du code ol:=by rw[ai1,du,if_neg h95,if_neg h95]
  rw[jy (by rw[ai1,if_neg h95]; split<;>(try decide); split<;>(try decide); split<;>(try decide); split<;>decide)];ext;refine ad7 ?_;rw[jy (by rw[ai1,if_neg h95]; split<;>(try decide); split<;>(try decide); split<;>(try decide); split<;>decide)];ext;exact⟨S.kept hL,_,_,_,_,rfl,by rw[S.own _ (.head _),e1]⟩
end
end X29
mutual
theorem bk0{h R x code t}:X29.P h R x code t:=c7 (P:=X29.Q) (a:=X29.w) rfl X29.m (h,R,x,code,t)
noncomputable def ar1(tr ol hy jo:Bool):List (Str×Value):=[("is_transitional", .bool tr),("only_letters", .bool ol),("hyphens", .bool hy),("joiners", .bool jo),("directions", .bool true),("contexts", .bool false),("lengths", .bool true)]
theorem fA0{tr ol hy jo:Bool}:(("is_transitional", .bool tr):Str×Value)∈ar1 tr ol hy jo:=.head _
theorem fA1{tr ol hy jo:Bool}:(("only_letters", .bool ol):Str×Value)∈ar1 tr ol hy jo:=.tail _ (.head _)
theorem fA2{tr ol hy jo:Bool}:(("hyphens", .bool hy):Str×Value)∈ar1 tr ol hy jo:=.tail _ (.tail _ (.head _))
theorem fA3{tr ol hy jo:Bool}:(("joiners", .bool jo):Str×Value)∈ar1 tr ol hy jo:=.tail _ (.tail _ (.tail _ (.head _)))
theorem fA5{tr ol hy jo:Bool}:(("contexts", .bool false):Str×Value)∈ar1 tr ol hy jo:=.tail _ (.tail _ (.tail _ (.tail _ (.tail _ (.head _)))))
noncomputable abbrev aw4:List Str:=["is_transitional", "only_letters", "hyphens", "joiners", "directions", "contexts", "lengths"]
theorem a56{tr ol hy jo}:((ar1 tr ol hy jo).map (·.1)).Nodup:=by show aw4.Nodup; decide +kernel
theorem dm5(P:Params):aw4.all (dM (Mine.hd.heap_39 P) 396)=true:=by kernel_rfl
theorem as8{name:Str}(h:name∈aw4):dM (Mine.hd.heap_39 c.w.params) 396 name=true:=List.all_eq_true.mp (dm5 c.w.params) name h
abbrev b8(R:RP)(x:Addr)(tr ol hy jo:Bool):Prop:=bt R x 396 (ar1 tr ol hy jo)
end
section
variable {E:VP} {Q:VP} {gs ns:List Str} {A:Around} {env:Env} {V:Heap} {fx:ac} {l:ac} {vs:LO} {h:Heap} {x:Addr} {tr ol hy jo ex:Bool}
mutual
theorem dm6(S:Fs c gs ns env V fx vs l h)(i:b8 (In V fx) x tr ol hy jo)(q:Q (.bool tr) h):Wp c E A (getAttr (.ref x) (PySem.Str.ofString "is_transitional") ex) Q h:=am S i (as8 (by decide +kernel)) a56 (v:=.bool tr) fA0 rfl q
theorem ce4(S:Fs c gs ns env V fx vs l h)(i:b8 (In V fx) x tr ol hy jo)(q:Q (.bool ol) h):Wp c E A (getAttr (.ref x) (PySem.Str.ofString "only_letters") ex) Q h:=am S i (as8 (by decide +kernel)) a56 (v:=.bool ol) fA1 rfl q
theorem dm8(S:Fs c gs ns env V fx vs l h)(i:b8 (In V fx) x tr ol hy jo)(q:Q (.bool hy) h):Wp c E A (getAttr (.ref x) (PySem.Str.ofString "hyphens") ex) Q h:=am S i (as8 (by decide +kernel)) a56 (v:=.bool hy) fA2 rfl q
theorem dm7(S:Fs c gs ns env V fx vs l h)(i:b8 (In V fx) x tr ol hy jo)(q:Q (.bool jo) h):Wp c E A (getAttr (.ref x) (PySem.Str.ofString "joiners") ex) Q h:=am S i (as8 (by decide +kernel)) a56 (v:=.bool jo) fA3 rfl q
theorem dm9(S:Fs c gs ns env V fx vs l h)(i:b8 (In V fx) x tr ol hy jo)(q:Q (.bool false) h):Wp c E A (getAttr (.ref x) (PySem.Str.ofString "contexts") ex) Q h:=am S i (as8 (by decide +kernel)) a56 (v:=.bool false) fA5 rfl q
end
end
mutual
def LS(R:RP)(a:Addr)(ws:List Str):Prop:=av fun vs n=>R a (listOf (List.toArray vs) n)/\StrsAre vs ws
theorem LS.mono{R R':RP}{a:Addr}{xs:List Str}(i:LS R a xs)(k:∀ a o,R a o->R' a o):LS R' a xs:=by obtain⟨vs,n,e,h⟩:=i; exact⟨vs,n,k _ _ e,h⟩
noncomputable def b6(tr ol enc:Bool)(code:Int):Bool:=if code=223\/code=8205 then enc || !tr else !(decide (code=65) || decide (code=173))&&!(ol&&(decide (code=46) || decide (code=95)))
theorem by4(tr ol enc:Bool){code:Int}(h:code∈ah):(!((du code ol != "valid")&&!((du code ol == "deviation")&&(enc || !tr)))&&!(ol&&decide (code<=127)&&!al0 code))=b6 tr ol enc code:=by
 revert code
 revert tr ol enc
 decide +kernel
end
namespace X30
mutual
def P(g:Heap)(R:RP)(x tx fl:Addr)(xs:List Int):Prop:=∀ (G:ak c g) (hR:∀ a o,R a o->Hs g a o) {tr ol hy jo enc:Bool} (D:aV c R x) (hx:LI R tx xs) (hT:∀ x∈xs,x∈ah) (hn:xs.length<=1000) (F:b8 R fl tr ol hy jo),Ct c 5 (.ref 457) [.ref tx,.ref x,.ref fl,.bool enc] g (fun r h'=>∃ a,r=.ref a/\LS (Nw g h') a (if xs.all (b6 tr ol enc) then[] else["disallowed"]))
def Q(w:Heap×(RP)×Addr×Addr×Addr×(List Int)):=P w.1 w.2.1 w.2.2.1 w.2.2.2.1 w.2.2.2.2.1 w.2.2.2.2.2
def w:=@Classical.epsilon _ ⟨(default,fun Z Z=>True,0,0,0,[])⟩ fun w=>¬ Q w
def g:=w.1
def R:=w.2.1
def x:=w.2.2.1
def tx:=w.2.2.2.1
def fl:=w.2.2.2.2.1
def xs:=w.2.2.2.2.2
theorem m:P g R x tx fl xs:=by
 intro G hR tr ol hy jo enc D hx hT hn F;have hR':∀ a o,R a o->In (g.hide ag) [] a o:=fun a o y=>Hs.in a o (hR a o y);refine al G (by k_is) (by k_is) (binds:=[("label", .ref tx),("data", .ref x),("flags", .ref fl),("is_encoded", .bool enc)]) (fun s X=>jx rfl) (rest:=["code", "status", "may_deviate"]) (ns:=["label", "data", "flags", "is_encoded", "code", "status", "may_deviate"]) rfl (vs:=[some (.ref tx),some (.ref x),some (.ref fl),some (.bool enc),none,none,none]) rfl (gs:=["idna_status", "idna_is_plain"]) (by decide +kernel) ?_;intro A L h ar hL Z Z S Z Z;have hin:∀ {fx'} a o,R a o->S.inn fx' a o:=fun a o y=>In.nil a o (hR' a o y);obtain⟨vs0,n0,ea,hi⟩:=id hx;have hlen:vs0.length=xs.length:=hi.length;ext;refine bp ar.handled S (hin _ _ ea) fun it h S src=>?_;refine aS (src _ _) S (fun i vs l=>b5 fun o1 o2 o3=>bB (vs=[some (.ref tx),some (.ref x),some (.ref fl),some (.bool enc),o1,o2,o3]) (l=[]) ((xs.take i).all (b6 tr ol enc)=true)) ⟨none,none,none,rfl,rfl,rfl⟩ ?_ ?_
 ·rintro Z Z i v vs l h own hii hv ⟨o1,o2,o3,e1v,e2l,hall⟩ S;refine S.castL e1v e2l ?_;intro Z Z S;have hix:i<xs.length:=by exact z0 hlen hii
  obtain⟨t,et⟩:=au hi hix;obtain rfl:=cK hv et;have hm:=bS hix;have htk:xs.take (i+1)=xs.take i++[xs.getD i 0]:=by rw[List.take_add_one,jj hix,jk,jj hix]; rfl
  generalize xs.getD i 0=code at hm htk et;have hl:=by4 tr ol enc (hT _ hm);ext;refine ce4 S (F.mono hin) ?_;ext;refine ba S (bk0 S.good (fun a o y=>S.hs a o (hin a o y)) D (hT _ hm) ol) ar fun v h S Z q'=>?_;obtain⟨a,ts,w,n,e,ea'⟩:=q';subst e;ext;refine bI (its:=[_,_]) ea' (by decide) (by decide) (j:=0) rfl rfl ?_;walk_at"s";walk_at"s";refine br (fun h=>S.like [some (.ref tx),some (.ref x),some (.ref fl),some (.bool enc),some (.int code t),some (.str (du code ol) ts),some (.bool (enc || !tr))] [] h) ?_ ?_
  ·ext;refine BB.mk (fun e=>?_) fun e=>?_
   ·subst e;ext;exact⟨rfl,S⟩
   ·subst e;ext;refine dm6 S (F.mono hin) ?_;ext;exact⟨rfl,S⟩
  intro h S;unfold Fs.like at S;have hlet:∀ {b},b6 tr ol enc code=b->(xs.take (i+1)).all (b6 tr ol enc)=b:=fun{b} e=>by rw[htk,List.all_append,hall]; simp [e]
  have dis:∀ {t:Tok} {Q:VP},(∀ a h',g.objs.size<=a->S.lk [(a,listOf #[.str "disallowed" t] 0)] h'->Q (.ref a) h')->Wp c (fun Z Z=>False) A (newList [.str "disallowed" t]) Q h:=fun{_ _} k=>ad S (bd (by simp)) fun a h' hn Z S'=>k a h' (S.new hL hn) S';refine cc1 (fun h'=>S.now h'/\((du code ol != "valid")&&!((du code ol == "deviation")&&(enc || !tr)))=false) (fun v h'=>b6 tr ol enc code=false/\av fun a t=>bB (v=.ref a) (g.objs.size<=a) (S.lk [(a,listOf #[.str "disallowed" t] 0)] h')) ?_ ?_ ?_
  ·ext;refine a14 ?_;ext;refine BB.mk (fun e1=>?_) fun e1=>?_
   ·ext;refine ad7 ?_;ext;refine BB.mk (fun e2=>?_) fun e2=>?_
    ·ext;refine BB.mk (fun e3=>?_) fun e3=>?_
     ·ext;exact .inl ⟨rfl,rfl,by rw[beq_iff_eq.mpr (of_decide_eq_true e2),e3]; simp⟩
     ·ext;refine dis fun a h' hn S'=>?_;ext;exact .inr ⟨_,rfl,by rw[<- hl,e1,beq_iff_eq.mpr (of_decide_eq_true e2),e3]; simp,a,_,rfl,hn,S'⟩
    ·ext;refine dis fun a h' hn S'=>?_;ext;exact .inr ⟨_,rfl,by rw[<- hl,e1,beq_eq_false_iff_ne.mpr (of_decide_eq_false e2)]; simp,a,_,rfl,hn,S'⟩
   ·ext;exact .inl ⟨rfl,rfl,by rw[e1]; simp⟩
  ·rintro Z ⟨rfl,e1⟩;rw[e1] at hl;have nxt:∀ {h'},S.like [some (.ref tx),some (.ref x),some (.ref fl),some (.bool enc),some (.int code t),some (.str (du code ol) ts),some (.bool (enc || !tr))] [] h'->b6 tr ol enc code=true->av fun vs l=>(b5 fun o1 o2 o3=>bB (vs=[some (.ref tx),some (.ref x),some (.ref fl),some (.bool enc),o1,o2,o3]) (l=[]) ((xs.take (i+1)).all (b6 tr ol enc)=true))/\S.frm (own++[]) vs l h':=fun{_} S' e=>⟨_,_,⟨_,_,_,rfl,rfl,hlet e⟩,S'⟩;ext;refine ce4 S (F.mono hin) ?_;ext;refine BB.mk (fun e2=>?_) fun e2=>?_
   ·ext;refine BB.mk (fun e3=>?_) fun e3=>?_
    ·ext;refine bq S (bs0 S.good code t) ar fun h S' Z=>?_;ext;refine BB.mk (fun e4=>?_) fun e4=>?_
     ·ext;exact nxt S' (by rw[<- hl,e2,e3,e4]; rfl)
     ·ext;refine ad S' (bd (by simp)) ?_;intro a h' hn Z Z S'';ext;refine⟨S''.kept hL,a,rfl,[_],_,⟨S''.own _ (.head _),S'.new hL hn⟩,?_⟩;have:xs.all (b6 tr ol enc)=false:=by rw[List.all_eq_false]; exact⟨code,hm,by rw[<- hl,e2,e3,e4]; simp⟩
      rw[this];exact .cons _ _ .nil
    ·ext;exact nxt S (by rw[<- hl,e2,e3]; rfl)
   ·ext;exact nxt S (by rw[<- hl,e2]; rfl)
  ·rintro v h' ⟨e1,a,t,rfl,hn,S'⟩;ext;refine⟨S'.kept hL,a,rfl,[_],_,⟨S'.own _ (.head _),hn⟩,?_⟩;have:xs.all (b6 tr ol enc)=false:=by rw[List.all_eq_false]; exact⟨code,hm,by rw[e1]; simp⟩
   rw[this];exact .cons _ _ .nil
 ·rintro Z Z h ⟨o1,o2,o3,e1v,e2l,hall⟩ S;refine S.castL e1v e2l ?_;intro Z Z S;rw[hlen,jF] at hall;ext;refine ad S (by decide) ?_;intro a h hn Z Z S';ext;exact⟨S'.kept hL,a,rfl,[],_,⟨S'.own _ (.head _),S.new hL hn⟩,by rw[if_pos hall]; exact .nil⟩
end
end X30
mutual
theorem a67{g R x tx fl xs}:X30.P g R x tx fl xs:=c7 (P:=X30.Q) (a:=X30.w) rfl X30.m (g,R,x,tx,fl,xs)
noncomputable def aF:List Int:=[120,110,45,45]
noncomputable def ae6(xs:List Int):Bool:=decide (bY xs none (some 1)=[45]) || decide (bY xs (some (-1)) none=[45])
noncomputable def bP(xs:List Int)(hy:Bool):List Str:=if hy then(if ae6 xs || decide (bY xs (some 2) (some 4)=[45,45]) then["hyphens"] else[]) else if bY xs none (some 4)=aF then["prefix"] else[]
theorem aa6(P:Params):av fun its n=>(Mine.hd.heap_39 P).lookup 375=some (listOf (List.toArray its) n)/\IntsAre its aF:=⟨_,_,by k_is,by repeat constructor⟩
end
namespace X31
mutual
def P(g:Heap)(tx:Addr)(xs:List Int):Prop:=∀ (G:ak c g) (hx:LI (Hs g) tx xs) (hn:xs.length<=1000) (hy:Bool),Ct c 3 (.ref 450) [.ref tx,.bool hy] g (fun r h'=>∃ a,r=.ref a/\LS (Nw g h') a (bP xs hy))
def Q(w:Heap×Addr×(List Int)):=P w.1 w.2.1 w.2.2
def w:=@Classical.epsilon _ ⟨(default,0,[])⟩ fun w=>¬ Q w
def g:=w.1
def tx:=w.2.1
def xs:=w.2.2
theorem m:P g tx xs:=by
 intro G hx hn hy;obtain⟨vs0,n0,ea,hi⟩:=hx.mono Hs.in;refine al G (by k_is) (by k_is) (binds:=[("label", .ref tx),("asks_hyphens", .bool hy)]) (fun s X=>jx rfl) (rest:=["is_bound"]) (ns:=["label", "asks_hyphens", "is_bound"]) rfl (vs:=[some (.ref tx),some (.bool hy),none]) rfl (gs:=["PREFIX", "HYPHEN_idna"]) (by decide +kernel) ?_;intro A L h ar hL Z Z S Z Z;have hlen:vs0.length=xs.length:=hi.length;ext;refine BB.mk (fun e=>?_) fun e=>?_
 ·subst e;refine br (fun h=>S.like [some (.ref tx),some (.bool true),some (.bool (ae6 xs))] [] h) ?_ ?_
  ·ext;refine aQ S (S.at' ea) .none (.int _ _) (eI hn hlen) ?_;intro r1 h Z Z S;ext;refine ad S (bd (by simp)) ?_;intro r2 h Z Z Z S;refine cE ar (S.own _ (.tail _ (.head _))) (S.own _ (.head _)) (bf hi _ _) (.cons _ _ .nil) ?_;have S:=S.drop.drop;ext;refine BB.mk (fun e1=>?_) fun e1=>?_
   ·rw[e1];ext;exact⟨rfl,by unfold Fs.like; rw[ae6,e1,Bool.true_or]; exact S⟩
   ·ext;refine aQ S (S.at' ea) (.int _ _) .none (eI hn hlen) ?_;intro r1 h Z Z S;ext;refine ad S (bd (by simp)) ?_;intro r2 h Z Z Z S;refine cE ar (S.own _ (.tail _ (.head _))) (S.own _ (.head _)) (bf hi _ _) (.cons _ _ .nil) ?_;have S:=S.drop.drop;ext;exact⟨rfl,by unfold Fs.like; rw[ae6,e1,Bool.false_or]; exact S⟩
  ·intro h S;unfold Fs.like at S;ext;refine aJ ?_;ext;refine BB.mk (fun e1=>?_) fun e1=>?_
   ·ext;refine ad S (bd (by simp)) ?_;intro a h hn Z Z S';ext;exact⟨S'.kept hL,a,rfl,[_],_,⟨S'.own _ (.head _),S.new hL hn⟩,by rw[bP,if_pos rfl,if_pos (by rw[e1,Bool.true_or])]; exact .cons _ _ .nil⟩
   ·ext;refine aQ S (S.at' ea) (.int _ _) (.int _ _) (eI hn hlen) ?_;intro r1 h Z Z S;ext;refine ad S (bd (by simp)) ?_;intro r2 h Z Z Z S;refine cE ar (S.own _ (.tail _ (.head _))) (S.own _ (.head _)) (bf hi _ _) (.cons _ _ (.cons _ _ .nil)) ?_;have S:=S.drop.drop;ext;refine BB.mk (fun e2=>?_) fun e2=>?_
    ·ext;refine ad S (bd (by simp)) ?_;intro a h hn Z Z S';ext;exact⟨S'.kept hL,a,rfl,[_],_,⟨S'.own _ (.head _),S.new hL hn⟩,by rw[bP,if_pos rfl,if_pos (by rw[e1,e2]; rfl)]; exact .cons _ _ .nil⟩
    ·ext;refine ad S (by decide) ?_;intro a h hn Z Z S';ext;exact⟨S'.kept hL,a,rfl,[],_,⟨S'.own _ (.head _),S.new hL hn⟩,by rw[bP,if_pos rfl,if_neg (by rw[e1,e2]; decide)]; exact .nil⟩
 ·subst e;ext;refine aJ ?_;ext;refine aQ S (S.at' ea) .none (.int _ _) (eI hn hlen) ?_;intro r1 h Z Z S;ext;obtain⟨pits,pn,pl,pi⟩:=aa6 c.w.params;refine cE ar (S.own _ (.head _)) (S.kin _ _ pl) (bf hi _ _) pi ?_;have S:=S.drop;ext;refine BB.mk (fun e2=>?_) fun e2=>?_
  ·ext;refine ad S (bd (by simp)) ?_;intro a h hn Z Z S';ext;exact⟨S'.kept hL,a,rfl,[_],_,⟨S'.own _ (.head _),S.new hL hn⟩,by rw[bP,if_neg (by decide),if_pos (of_decide_eq_true e2)]; exact .cons _ _ .nil⟩
  ·ext;refine ad S (by decide) ?_;intro a h hn Z Z S';ext;exact⟨S'.kept hL,a,rfl,[],_,⟨S'.own _ (.head _),S.new hL hn⟩,by rw[bP,if_neg (by decide),if_neg (of_decide_eq_false e2)]; exact .nil⟩
end
end X31
mutual
theorem be9{g tx xs}:X31.P g tx xs:=c7 (P:=X31.Q) (a:=X31.w) rfl X31.m (g,tx,xs)
theorem be6{g:Heap}(G:ak c g){R:RP}(hR:∀ a o,R a o->Hs g a o){x tx:Addr}(D:aV c R x){xs:List Int}(hx:LI R tx xs)(hT:eU xs){i:Nat}{t:Tok}(hi:i<xs.length)(h8:xs.getD i 0=8205)(hn:xs.length<=1000):Ct c 4 (.ref 433) [.ref tx,.int i t,.ref x] g (fun r h'=>r=.bool false):=by
 have hR':∀ a o,R a o->In (g.hide ag) [] a o:=fun a o y=>Hs.in a o (hR a o y);obtain⟨vs0,n0,ea,his⟩:=hx;refine al G (by k_is) (by k_is) (binds:=[("label", .ref tx),("at", .int i t),("data", .ref x)]) (fun s X=>jx rfl) (rest:=[]) (ns:=["label", "at", "data"]) rfl (vs:=[some (.ref tx),some (.int i t),some (.ref x)]) rfl (gs:=["VIRAMA", "JOINER", "idna_joins"]) (by decide +kernel) ?_;intro A L h ar hL Z Z S Z Z;refine br (fun h=>S.like [some (.ref tx),some (.int i t),some (.ref x)] [] h) ?_ ?_
 ·ext;refine BB.dec (fun h1=>?_) fun h1=>?_
  ·ext;refine ab9 S (D.mono hR') ?_;ext;obtain⟨tb,eb⟩:=au his (k:=i-1) (z44 hi);refine bk (S.at' (hR' _ _ ea)) (cu0 h1) (c85 hi hn) (show vs0[((i:Int)-1).toNat]?=_ by rw[show((i:Int)-1).toNat=i-1 by exact z59]; exact eb) ?_;ext;refine ch S (ab5 S.good (fun a o y=>S.hs a o (hR' a o y)) D (hT _ (bS (z44 hi))).1) ar fun tw h S Z=>?_;ext;refine BB.neg (jy (by rcases ao8 (xs.getD (i-1) 0) with q|q<;>lia)) ?_;ext;exact⟨rfl,S⟩
  ·ext;exact⟨rfl,S⟩
 ·intro h S;unfold Fs.like at S;ext;obtain⟨tb,eb⟩:=au his (k:=i) hi;refine bk (S.at' (hR' _ _ ea)) (z9) (c69 hi hn) eb ?_;ext;refine BB.pos (jz h8) ?_;ext;exact⟨S.kept hL,rfl⟩
theorem bH{xs:List Int}{i:Nat}(hi:i<xs.length):xs.take (i+1)=xs.take i++[xs.getD i 0]:=by rw[List.take_add_one,jj hi,jk,jj hi]; rfl
theorem ac3{g:Heap}(G:ak c g){tx:Addr}{xs:List Int}(hx:LI (Hs g) tx xs)(hn:xs.length<=100000):Ct c 3 (.ref 419) [.ref tx] g (fun r h'=>r=.bool (!xs.any fun x=>decide (127<x))):=by
 obtain⟨vs0,n0,ea,hi⟩:=hx.mono Hs.in;refine al G (by k_is) (by k_is) (binds:=[("label", .ref tx)]) (fun s X=>jx rfl) (rest:=[]) (ns:=["label"]) rfl (vs:=[some (.ref tx)]) rfl (gs:=["any"]) (by decide +kernel) ?_;intro A L h ar hL Z Z S Z Z;have hlen:vs0.length=xs.length:=hi.length;ext;refine bp ar.handled S ea fun it h S src=>?_;refine bJ (gs':=[]) (ns':=["code"]) (src _ _) (cv1 hn hlen) S (by walk_at"u") (by walk_at"u") (by kernel_rfl) (fun i acc l=>l=[]/\acc=((xs.take i).map fun x=>decide (127<x)).map Value.bool) ⟨rfl,rfl⟩ ?_ ?_
 ·rintro Z Z C g D i v acc k ov l' h' own sb hii hv ⟨rfl,hacc⟩ hal hov S';obtain⟨u0,rfl⟩:=b9 hov;have hix:i<xs.length:=by exact z0 hlen hii
  obtain⟨t,et⟩:=au hi hix;obtain rfl:=cK hv et;ext;rename Fs ..=>S';exact⟨_,_,rfl,⟨rfl,by rw[hacc,bH hix,List.map_append,List.map_append]; rfl⟩,S'⟩
 ·rintro D acc k l' h hD ⟨rfl,hacc⟩ hal S;ext
  try dsimp +zetaDelta only at S
  rw[hacc,hlen,jF] at S;refine cg1 S ar.handled (S.own _ (.head _)) fun h S=>?_;ext;exact⟨S.kept hL,by show _=Value.bool _; rw[List.any_map]; rfl⟩
noncomputable def w1(xs:List Int):List Str:=if de none xs then["form"] else[]
noncomputable def w3(xs:List Int):List Str:=if xs.any (·==46) then["dot"] else[]
noncomputable def w4(xs:List Int):List Str:=if xs.head?=some 769 then["mark"] else[]
noncomputable def w5(xs:List Int)(tr ol enc:Bool):List Str:=if xs.all (b6 tr ol enc) then[] else["disallowed"]
noncomputable def w6(xs:List Int)(jo:Bool):List Str:=(xs.filter fun x=>decide (x=8205)&&jo).map fun Z => "joiner"
noncomputable def cH(xs:List Int)(tr ol hy jo enc:Bool):List Str:=w1 xs++bP xs hy++w3 xs++w4 xs++w5 xs tr ol enc++w6 xs jo
theorem bd5{x:Int}(h:x∈ah):Cd x:=by
 revert x
 unfold Cd
 decide +kernel
theorem aL{a b:List Value}{x y:List Str}(p:StrsAre a x)(q:StrsAre b y):StrsAre (a++b) (x++y):=by
 induction p with
 | nil=>exact q
 | cons n t _ ih=>exact .cons n t ih
theorem by2(P:Params):av fun its n=>(Mine.hd.heap_39 P).lookup 376=some { cls:=.type "tuple", data:=.seq (List.toArray its) n }/\StrsAre its ["Mn", "Mc", "Me"]:=⟨_,_,by k_is,by repeat constructor⟩
end
namespace X32
mutual
def P(g:Heap)(R:RP)(x tx fl:Addr):Prop:=∀ (G:ak c g) (hR:∀ a o,R a o->Hs g a o) {tr ol hy jo enc:Bool} (D:aV c R x) {xs:List Int} (hx:LI R tx xs) (hT:∀ x∈xs,x∈ah) (hn:xs.length<=30) (F:b8 R fl tr ol hy jo),Ct c 12 (.ref 464) [.ref tx,.ref x,.ref fl,.bool enc] g (fun r h'=>∃ a,r=.ref a/\LS (Nw g h') a (cH xs tr ol hy jo enc))
def Q(w:Heap×(RP)×Addr×Addr×Addr):=P w.1 w.2.1 w.2.2.1 w.2.2.2.1 w.2.2.2.2
def w:=@Classical.epsilon _ ⟨(default,fun Z Z=>True,0,0,0)⟩ fun w=>¬ Q w
def g:=w.1
def R:=w.2.1
def x:=w.2.2.1
def tx:=w.2.2.2.1
def fl:=w.2.2.2.2
theorem m:P g R x tx fl:=by
 intro G hR tr ol hy jo enc D xs hx hT hn F;have hR':∀ a o,R a o->In (g.hide ag) [] a o:=fun a o y=>Hs.in a o (hR a o y);have hC:dC xs:=fun x hx=>bd5 (hT x hx);refine al G (by k_is) (by k_is) (binds:=[("label", .ref tx),("data", .ref x),("flags", .ref fl),("is_encoded", .bool enc)]) (fun s X=>jx rfl) (rest:=["words", "at", "code"]) (ns:=["label", "data", "flags", "is_encoded", "words", "at", "code"]) rfl (vs:=[some (.ref tx),some (.ref x),some (.ref fl),some (.bool enc),none,none,none]) rfl (gs:=["is_form", "idna_hyphen_words", "STOP", "MARKS", "idna_code_words", "enumerate", "JOINER", "NON_JOINER", "idna_may_join"]) (by decide +kernel) ?_;intro A L h ar hL Z Z S Z Z;have hin:∀ {fx'} a o,R a o->S.inn fx' a o:=fun a o y=>In.nil a o (hR' a o y);obtain⟨vs0,n0,ea,hi⟩:=id hx;have hlen:vs0.length=xs.length:=hi.length;walk_at"s";walk_at"s";walk_at"s";walk_at"s";refine ad S (by decide) ?_;intro wa h hw Z Z S1;have hw:=S.new hL hw;have S:=S1;walk_at"s";walk_at"s";have S0:=S;refine br (fun h=>av fun its n=>StrsAre its (w1 xs)/\S0.lk [(wa,listOf (List.toArray its) n)] h) ?_ ?_
 ·ext;refine bq S (bk5 S.good (fun a o y=>S.hs a o (hin a o y)) D hx hC hn) ar fun h S Z=>?_;ext;refine BB.mk (fun e=>?_) fun e=>?_
  ·ext;refine aj S .head (by decide) ?_;intro Z h S;ext;exact⟨rfl,_,_,by rw[w1,if_pos (by simpa using e)]; exact .cons _ _ .nil,S⟩
  ·ext;exact⟨rfl,[],_,by rw[w1,if_neg (by simpa using e)]; exact .nil,S⟩
 rintro h ⟨its,n,st,S⟩;unfold Fs.lk at S;have b9:(w1 xs).length<=1:=by unfold w1; split<;>simp
 have dX:(bP xs hy).length<=1:=by unfold bP; split<;>split<;>simp
 have ap6:(w3 xs).length<=1:=by unfold w3; split<;>simp
 have len4:(w4 xs).length<=1:=by unfold w4; split<;>simp
 have len5:(w5 xs tr ol enc).length<=1:=by unfold w5; split<;>simp
 -- the hyphens
 refine br (fun h=>av fun its n=>StrsAre its (w1 xs++bP xs hy)/\S0.lk [(wa,listOf (List.toArray its) n)] h) ?_ ?_
 ·ext;refine dm8 S (F.mono hin) ?_;ext;refine cQ S (be9 S.good ((hx.mono hin).mono S.hs) (bb3 hn) hy) ar fun a h S Z q'=>?_;obtain⟨ws,wn,ew,iw⟩:=q';ext;refine aa9 S ew.1 (by have:=st.length; have:=iw.length; exact c79 b9 dX (by assumption) this) ?_;intro Z h Z S;ext;exact⟨rfl,_,_,aL st iw,S⟩
 rintro h ⟨its,n,st,S⟩;unfold Fs.lk at S
 -- the stop
 refine br (fun h=>av fun its n=>StrsAre its (w1 xs++bP xs hy++w3 xs)/\S0.lk [(wa,listOf (List.toArray its) n)] h) ?_ ?_
 ·ext;refine bp4 (S.at' (hin _ _ ea)) hi ?_;ext;have:=st.length;rw[jl] at this;refine BB.mk (fun e=>?_) fun e=>?_
  ·ext;refine aj S .head (c25 b9 dX this) ?_;intro Z h S;ext;exact⟨rfl,_,_,by rw[w3,if_pos e]; exact aL st (.cons _ _ .nil),S⟩
  ·ext;exact⟨rfl,its,_,by rw[w3,if_neg (by rw[e]; decide),jD]; exact st,S⟩
 rintro h ⟨its,n,st,S⟩;unfold Fs.lk at S;have:=st.length;simp only[jl] at this
 -- a mark ahead
 refine br (fun h=>av fun its n=>StrsAre its (w1 xs++bP xs hy++w3 xs++w4 xs)/\S0.lk [(wa,listOf (List.toArray its) n)] h) ?_ ?_
 ·ext;refine ad S (by decide) ?_;intro e0 h Z Z Z S;refine dy ar (S.at' (hin _ _ ea)) (S.own _ (.head _)) hi .nil ?_;have S:=S.drop;ext;refine BB.mk (fun e=>?_) fun e=>?_
  ·have hne:xs=[]:=of_decide_eq_true e;ext;exact⟨rfl,its,_,by rw[w4,hne]; simpa [hne] using st,S⟩
  ·have hne:xs≠[]:=of_decide_eq_false e;ext;refine ab9 S (D.mono hin) ?_;ext;have hl0:0<xs.length:=List.length_pos_iff.mpr hne;obtain⟨tb,eb⟩:=au hi (k:=0) hl0;have h0:xs.head?=some (xs.getD 0 0):=by
    cases xs with
    | nil=>exact absurd rfl hne
    | cons y r=>rfl
   have hc0:=hC _ (bS hl0);refine bk (S.at' (hin _ _ ea)) (by decide) (by decide) eb ?_;ext;refine ch S (bk7 S.good (fun a o y=>S.hs a o (hin a o y)) D hc0.1) ar fun tg h S Z=>?_;ext;obtain⟨mits,mn,ml,mi⟩:=by2 c.w.params;refine as3 (S.kin _ _ ml) mi ?_
   by_cases h9:xs.getD 0 0=769
   ·rw[if_pos h9,show(["Mn", "Mc", "Me"]:List Str).any (· == "Mn")=true by decide +kernel];ext;refine aj S .head (dc6 b9 dX ap6 this) ?_;intro Z h S;ext;exact⟨rfl,_,_,by rw[w4,if_pos (by rw[h0,h9])]; exact aL st (.cons _ _ .nil),S⟩
   ·rw[if_neg h9,show(["Mn", "Mc", "Me"]:List Str).any (· == "Cn")=false by decide +kernel];ext;exact⟨rfl,its,_,by rw[w4,if_neg (by rw[h0]; exact fun q=>h9 (Option.some.inj q)),jD]; exact st,S⟩
 rintro h ⟨its,n,st,S⟩;unfold Fs.lk at S;have:=st.length;simp only[jl] at this
 -- single codes
 refine br (fun h=>av fun its n=>StrsAre its (w1 xs++bP xs hy++w3 xs++w4 xs++w5 xs tr ol enc)/\S0.lk [(wa,listOf (List.toArray its) n)] h) ?_ ?_
 ·ext;refine cQ S (a67 S.good (fun a o y=>S.hs a o (hin a o y)) D hx hT (bb3 hn) F) ar fun a h S Z q'=>?_;obtain⟨ws,wn,ew,iw⟩:=q';ext;have hw5:ws.length<=1:=by have:=iw.length; rw[this]; exact len5
  refine aa9 S ew.1 (dh3 b9 dX ap6 len4 this hw5) ?_;intro Z h Z S;ext;exact⟨rfl,_,_,aL st iw,S⟩
 rintro h ⟨its,n,st,S⟩;unfold Fs.lk at S;have:=st.length;simp only[jl] at this
 -- joiners
 ext;refine al3 S ar.handled (hin _ _ ea) fun e h S src=>?_;refine ah4 (src [] 0 ⟨0,0,0,0⟩) ?_;refine aS (src _ _ _) S (fun i vs l=>cP fun its k o1 o2=>bB (vs=[some (.ref tx),some (.ref x),some (.ref fl),some (.bool enc),some (.ref wa),o1,o2]) (l=[(wa,listOf (List.toArray its) k)]) (StrsAre its (w1 xs++bP xs hy++w3 xs++w4 xs++w5 xs tr ol enc++w6 (xs.take i) jo))) ⟨its,n,none,none,rfl,rfl,by simpa [w6] using st⟩ ?_ ?_
 ·rintro Z Z i v vs l h own hii ⟨T0,x0,y0,rfl,⟨⟨ti,rfl⟩,hy'⟩,ht⟩ ⟨its,k,o1,o2,rfl,rfl,st⟩ S;have hix:i<xs.length:=by exact z0 hlen hii
  obtain⟨t,et⟩:=au hi hix;rw[et] at hy'
  cases hy'
  refine ah7 (items:=[_,_]) S ar.handled ht rfl rfl fun h S=>?_
  show Wp _ _ _ (assignInOrder [_,_] _) _ _
  walk_at"st";have S1:=S;have:=st.length;simp only[jl] at this;have hw6:(w6 (xs.take i) jo).length<=30:=by
   rw[w6,List.length_map];exact jr (List.length_filter_le _ _) (by rw[jL]; exact dg4 hn)
  have hs6:w6 (xs.take (i+1)) jo=w6 (xs.take i) jo++(if decide (xs.getD i 0=8205)&&jo then["joiner"] else[]:List Str):=by
   rw[bH hix,w6,jN,List.map_append]
   congr 1
   generalize xs.getD i 0=y;rw[jG,jP]
   split<;>rfl
  refine br (fun h=>av fun its n=>StrsAre its (w1 xs++bP xs hy++w3 xs++w4 xs++w5 xs tr ol enc++w6 (xs.take (i+1)) jo)/\S1.lk [(wa,listOf (List.toArray its) n)] h) ?_ ?_
  ·rw[hs6];ext;refine dm7 S (F.mono hin) ?_;ext;refine BB.mk (fun e1=>?_) fun e1=>?_
   ·ext;refine bc9 (S.own _ (.head _)) (.cons _ _ (.cons _ _ .nil)) ?_;have S:=S.drop
    by_cases h8:xs.getD i 0=8205
    ·rw[show([8205,8204]:List Int).any (·==xs.getD i 0)=true by rw[h8]; decide];ext;refine bq S (be6 S.good (fun a o y=>S.hs a o (hin a o y)) D hx hC.txt hix h8 (bb3 hn)) ar fun h S Z=>?_;ext;refine aj S .head (dj1 b9 dX ap6 len4 len5 this hw6) ?_;intro Z h S;ext;exact⟨rfl,_,_,by rw[if_pos (by rw[h8,e1]; decide),<- List.append_assoc]; exact aL st (.cons _ _ .nil),S⟩
    ·have h4:xs.getD i 0≠8204:=fun q=>by
      have:=hT _ (bS hix);rw[q] at this;exact absurd this (by decide)
     rw[show([8205,8204]:List Int).any (·==xs.getD i 0)=false by simp; exact⟨fun q=>h8 q.symm,fun q=>h4 q.symm⟩];ext;exact⟨rfl,its,k,by rw[if_neg (by rw[jy h8,Bool.false_and]; decide),jD]; exact st,S⟩
   ·ext;exact⟨rfl,its,k,by rw[if_neg (by rw[e1,Bool.and_false]; decide),jD]; exact st,S⟩
  rintro h ⟨its,n,st,S⟩;unfold Fs.lk at S;ext;refine dm9 S (F.mono hin) ?_;ext;exact⟨_,_,⟨its,n,_,_,rfl,rfl,st⟩,S⟩
 ·rintro Z Z h ⟨its,k,o1,o2,e1v,e2l,st⟩ S;refine S.castL e1v e2l ?_;intro Z Z S;rw[hlen,jF] at st;ext;exact⟨S.kept hL,wa,rfl,its,k,⟨S.own _ (.head _),hw⟩,st⟩
end
end X32
mutual
theorem ak3{g R x tx fl}:X32.P g R x tx fl:=c7 (P:=X32.Q) (a:=X32.w) rfl X32.m (g,R,x,tx,fl)
noncomputable def cW(ks:List Int):Nat->Nat
 | 0=>0
 | n+1=>if ks.getD (n+1) 0=45 then n+1 else cW ks n
noncomputable def aY(ks:List Int):List Int×Nat:=if cW ks (ks.length-1)=0 then([],0) else(ks.take (cW ks (ks.length-1)),cW ks (ks.length-1)+1)
theorem a61{g:Heap}(G:ak c g){b:Array UInt8}{t:Tok}{ks:List Int}(hk:KBw.bInts b=ks)(hn:ks.length<=1000):Ct c 1 (.ref 351) [.bytes b t] g (fun r h'=>dU fun a b' t' u n=>bB (r=.ref a) (h'.get? a=some { cls:=.type "tuple", data:=.seq #[.bytes b' t',.int (aY ks).2 u] n }) (KBw.bInts b'=(aY ks).1)):=by
 refine al G (by k_is) (by k_is) (binds:=[("octets", .bytes b t)]) (fun s X=>jx rfl) (rest:=["at"]) (ns:=["octets", "at"]) rfl (vs:=[some (.bytes b t),none]) rfl (gs:=["len", "HYPHEN_punycode"]) (by decide +kernel) ?_;intro A L h ar hL Z Z S Z Z;ext;refine ab8 hk (z7 hn) fun Z=>?_;walk_at"st";refine br (fun h=>av fun x u=>S.like [some (.bytes b t),some (.int x u)] [] h/\(x=cW ks (ks.length-1)\/(ks=[]/\x=-1))) ?_ ?_
 ·walk_at"s";refine aa2 (fun n h=>av fun x u=>S.like [some (.bytes b t),some (.int x u)] [] h/\((x=(n:Int)/\n<ks.length/\cW ks n=cW ks (ks.length-1))\/(ks=[]/\x=-1))) (ks.length-1) ⟨_,_,S,?_⟩ ?_
  ·rcases Nat.eq_zero_or_pos ks.length with h0|h0
   ·exact .inr ⟨List.eq_nil_of_length_eq_zero h0,by exact cs2 h0⟩
   ·exact .inl ⟨by exact dh9 h0,by exact z24 h0,rfl⟩
  ·rintro Z Z n h ⟨x,u,S,hx⟩;unfold Fs.like at S;ext;refine BB.dec (fun h1=>?_) fun h1=>?_
   ·rcases hx with⟨rfl,h2,h3⟩|⟨_,rfl⟩
    ·ext;refine af1 hk (z7 hn) (z9) (eP h2) fun Z=>?_;ext;have e:cW ks n=if ks.getD n 0=45 then n else cW ks (n-1):=by
      cases n with
      | zero=>exact cq3 h1
      | succ m=>rfl
     refine BB.mk (fun h4=>?_) fun h4=>?_
     ·ext;refine⟨n-1,by exact df7 h1,_,_,S,.inl ⟨by exact dg0 h1,by exact z44 h2,?_⟩⟩;rw[<- h3,e,if_neg (by simpa using h4)]
     ·ext;refine⟨rfl,_,_,S,.inl ?_⟩;rw[<- h3,e,if_pos (by simpa using h4)]
    ·exact absurd h1 (by decide)
   ·ext;refine⟨rfl,_,_,S,?_⟩
    rcases hx with⟨rfl,h2,h3⟩|hx
    ·have:n=0:=by exact b77 h1
     subst this;exact .inl (by rw[<- h3]; rfl)
    ·exact .inr hx
 ·rintro h ⟨x,u,S,hx⟩;unfold Fs.like at S;ext;refine BB.dec (fun h1=>?_) fun h1=>?_
  ·ext;refine bx4 fun Z=>?_;ext;have e:aY ks=([],0):=by
    unfold aY
    rcases hx with rfl|⟨rfl,_⟩
    ·rw[if_pos (cq5 h1)]
    ·rfl
   exact⟨S.kept hL,_,_,_,_,_,rfl,by rw[S.own _ (.head _),e]; rfl,by rw[e]; rfl⟩
  ·rcases hx with rfl|⟨_,rfl⟩
   ·ext;refine cc7 S hk (z7 hn) (z9) fun b' t' hb'=>?_;have S:=S.drop;ext;have e:aY ks=(ks.take (cW ks (ks.length-1)),cW ks (ks.length-1)+1):=if_neg (cu5 h1);exact⟨S.kept hL,_,_,_,_,_,rfl,by rw[S.own _ (.head _),e]; rfl,by rw[e]; exact hb'⟩
   ·exact absurd (by decide) h1
structure PS where
 out:List Int
 delta:Int
 bias:Int
 many:Nat
noncomputable def cC(n:Int)(b0:Nat)(st:PS)(x:Int):PS:=if x<n then{ st with delta:=st.delta+1 } else if x=n then⟨st.out++bL st.delta st.bias,0,cX st.delta (st.many+1) (decide (st.many=b0)),st.many+1⟩ else st
noncomputable def bg(text:List Int)(n:Int)(b0:Nat)(st:PS):PS:=text.foldl (cC n b0) st
noncomputable def bb6(text:List Int)(b0:Nat)(last n:Int)(st:PS):PS :=
 let r:=bg text n b0 { st with delta:=st.delta+(n-last)*(st.many+1) }
 {r with delta:=r.delta+1 }
noncomputable def eJ(text:List Int)(b0:Nat):List Int->Int->PS->PS
 | [],_,st=>st
 | n::r,last,st=>eJ text b0 r (n+1) (bb6 text b0 last n st)
noncomputable def ae(text:List Int):List Int:=text.filter fun x=>decide (x<128)
noncomputable def bX(text:List Int):PS:=⟨ae text++(if ae text=[] then[] else[45]),0,72,(ae text).length⟩
noncomputable def aH(text:List Int)(code:Int):List Int:=text.filter fun x=>decide (code<=x)
noncomputable def ei:Nat->List Int->Int->List Int
 | 0,_,_=>[]
 | f+1,text,code=>match (aH text code).min? with
  | none=>[]
  | some m=>m::ei f text (m+1)
noncomputable def dP(text:List Int)(code:Int):List Int:=ei text.length text code
noncomputable def aR(text:List Int):List Int:=(eJ text (ae text).length (dP text 128) 128 (bX text)).out
theorem cd1{xs:List Int}{m:Int}(hm:m∈xs)(h:∀ x∈xs,m<=x):xs.min?=some m:=List.min?_eq_some_iff.mpr ⟨hm,h⟩
theorem bE{text:List Int}{code x:Int}:x∈aH text code↔x∈text/\code<=x:=by rw[aH,List.mem_filter,decide_eq_true_eq]
theorem aj6{text:List Int}{code m:Int}(h:m∈aH text code):(aH text (m+1)).length<(aH text code).length:=by
 obtain⟨h1,h2⟩:=bE.mp h;have e:aH text (m+1)=(aH text code).filter fun x=>decide (m+1<=x):=by
  unfold aH;rw[List.filter_filter];refine List.filter_congr fun x Z=>?_
  by_cases q:m+1<=x
  ·simp [q]; exact cy0 h2 q
  ·simp [q]
 rw[e];refine List.length_filter_lt_length_iff_exists.mpr ⟨m,h,by simp; exact co5⟩
theorem ah2{f:Nat}{text:List Int}{code:Int}(h:aH text code=[]):ei f text code=[]:=by
 cases f with
 | zero=>rfl
 | succ f =>
  show(match (aH text code).min? with|none=>[]|some m=>m::ei f text (m+1))=_
  rw[h]
  rfl
theorem bd2{f:Nat}{text:List Int}{code m:Int}(h:(aH text code).min?=some m):ei (f+1) text code=m::ei f text (m+1):=by
 show(match (aH text code).min? with|none=>[]|some m=>m::ei f text (m+1))=_
 rw[h]
theorem bp5(f:Nat):∀ (g:Nat) (text:List Int) (code:Int),(aH text code).length<=f->(aH text code).length<=g->ei f text code=ei g text code:=by
 induction f with
 | zero =>
  intro g text code h Z;have e:aH text code=[]:=List.eq_nil_of_length_eq_zero (Nat.le_zero.mp h);rw[ah2 e,ah2 e]
 | succ f ih =>
  intro g text code h1 h2
  cases e:(aH text code).min? with
  | none =>
   have e:=List.min?_eq_none_iff.mp e;rw[ah2 e,ah2 e]
  | some m =>
   have:=aj6 (List.min?_eq_some_iff.mp e).1
   cases g with
   | zero=>exact absurd (js this h2) (Nat.not_lt_zero _)
   | succ g=>rw[bd2 e,bd2 e,ih g text (m+1) (b96 h1 this) (b96 h2 this)]
theorem an2{text:List Int}{code:Int}(h:aH text code=[]):dP text code=[]:=ah2 h
theorem ap4{text:List Int}{code m:Int}(hm:m∈aH text code)(h:∀ x∈aH text code,m<=x):dP text code=m::dP text (m+1):=by
 have hl:(aH text code).length<=text.length:=List.length_filter_le _ _;have h1:=aj6 hm;unfold dP
 cases e:text.length with
 | zero=>rw[e] at hl; exact absurd (js h1 hl) (Nat.not_lt_zero _)
 | succ n=>rw[bd2 (cd1 hm h),bp5 n (n+1) text (m+1) (c58 hl h1 e) (da7 hl h1 e)]
theorem a39(k:Nat):∀ {text:List Int} {code:Int},(aH text code).length<=k->(∀ {x:Int},x∈dP text code↔x∈text/\code<=x)/\(dP text code).Pairwise (·<·):=by
 induction k with
 | zero =>
  intro text code hk;have e:aH text code=[]:=List.eq_nil_of_length_eq_zero (Nat.le_zero.mp hk);rw[an2 e];exact⟨fun{x}=>by rw[<- bE,e],.nil⟩
 | succ k ih =>
  intro text code hk
  cases e:(aH text code).min? with
  | none =>
   have e:=List.min?_eq_none_iff.mp e;rw[an2 e];exact⟨fun{x}=>by rw[<- bE,e],.nil⟩
  | some m =>
   obtain⟨hm,hle⟩:=List.min?_eq_some_iff.mp e;have hlt:=aj6 hm;obtain⟨i1,i2⟩:=ih (text:=text) (code:=m+1) (da0 hlt hk);rw[ap4 hm hle];refine⟨fun{x}=>?_,.cons (fun x hx=>?_) i2⟩
   ·rw[jf,i1];refine⟨fun h=>h.elim (fun h=>h▸bE.mp hm) fun h=>⟨h.1,?_⟩,fun h=>?_⟩
    ·have:=(bE.mp hm).2;exact cw2 h.2 this
    ·have:=hle x (bE.mpr h)
     by_cases q:m<x
     ·exact .inr ⟨h.1,by exact bn1 q⟩
     ·exact .inl (cw9 this q)
   ·have:=(i1.mp hx).2;exact b83 this
theorem an3(k:Nat){text:List Int}{code x:Int}(h:(aH text code).length<=k):x∈dP text code↔x∈text/\code<=x:=(a39 k h).1
theorem aj0(k:Nat){text:List Int}{code:Int}(h:(aH text code).length<=k):(dP text code).Pairwise (·<·):=(a39 k h).2
theorem ae7(n:Int)(b0:Nat)(text:List Int):∀ st:PS,(bg text n b0 st).many=st.many+text.count n:=by
 induction text with
 | nil=>exact fun Z=>rfl
 | cons x r ih =>
  intro st;refine(ih (cC n b0 st x)).trans ?_;rw[List.count_cons];unfold cC
  by_cases h1:x<n
  ·rw[if_pos h1,if_neg (show ¬ (x==n)=true from fun q=>absurd h1 (by rw[beq_iff_eq.mp q]; exact Int.lt_irrefl _))]
   rfl
  ·rw[if_neg h1]
   by_cases h2:x=n
   ·rw[if_pos h2,if_pos (beq_iff_eq.mpr h2)]; exact b47
   ·rw[if_neg h2,if_neg (show ¬ (x==n)=true from fun q=>h2 (beq_iff_eq.mp q))]; rfl
noncomputable def af0(text:List Int)(code:Int):Nat:=(text.filter fun x=>decide (x<code)).length
theorem aq9(text:List Int)(code:Int):af0 text code<=text.length:=List.length_filter_le _ _
theorem au0{text:List Int}{code:Int}:af0 text code<text.length↔aH text code≠[]:=by
 unfold af0;rw[List.length_filter_lt_length_iff_exists]
 constructor
 ·rintro⟨x,hx,h⟩ e;have:x∈aH text code:=bE.mpr ⟨hx,by simpa using h⟩;rw[e] at this;exact absurd this jm
 ·intro h;obtain⟨x,hx⟩:=List.exists_mem_of_ne_nil _ h;obtain⟨a,b⟩:=bE.mp hx;exact⟨x,a,by simpa using b⟩
theorem at9{text:List Int}{code m:Int}(hm:m∈aH text code)(hle:∀ x∈aH text code,m<=x):af0 text (m+1)=af0 text code+text.count m:=by
 unfold af0;have hc:=(bE.mp hm).2;have key:∀ l:List Int,(∀ x∈l,code<=x->m<=x)->(l.filter fun x=>decide (x<m+1)).length=(l.filter fun x=>decide (x<code)).length+l.count m:=by
  intro l
  induction l with
  | nil=>intro Z; rfl
  | cons x r ih =>
   intro h;have ih:=ih fun y hy=>h y (.tail _ hy);have hx:=h x (.head _);rw[jG,jG,List.count_cons]
   by_cases h1:x<code
   ·rw[if_pos (show decide (x<m+1)=true by simp; exact c27 hc h1),if_pos (show decide (x<code)=true by simpa using h1)];have:¬ x=m:=by exact cw7 hc h1
    simp only[jA,beq_iff_eq,this,if_false];exact dg6 ih
   ·have h2:=hx (b81 h1);rw[if_neg (show ¬ (decide (x<code))=true by simpa using h1)]
    by_cases h3:x=m
    ·rw[if_pos (show decide (x<m+1)=true by simp; exact cv8 h3)];simp only[jA,beq_iff_eq,h3,if_true];exact dg5 ih
    ·rw[if_neg (show ¬ decide (x<m+1)=true by simp; exact c75 h2 h3)];simp only[beq_iff_eq,h3,if_false]
     omega
 exact key text fun x hx h=>hle x (bE.mpr ⟨hx,h⟩)
theorem bs9{g:Heap}(G:ak c g){tx:Addr}{xs:List Int}(hx:LI (Hs g) tx xs)(hT:∀ x∈xs,bG x=true)(hn:xs.length<=1000):Ct c 3 (.ref 324) [.ref tx] g (fun r h'=>r=.none):=by
 obtain⟨vs0,n0,ea,hi⟩:=hx.mono Hs.in;refine al G (by k_is) (by k_is) (binds:=[("text", .ref tx)]) (fun s X=>jx rfl) (rest:=["code"]) (ns:=["text", "code"]) rfl (vs:=[some (.ref tx),none]) rfl (gs:=["is_scalar", "BadLabel"]) (by decide +kernel) ?_;intro A L h ar hL Z Z S Z Z;have hlen:vs0.length=xs.length:=hi.length;ext;refine bp ar.handled S ea fun it h S src=>?_;refine aS (src _ _) S (fun i vs l=>∃ o1,vs=[some (.ref tx),o1]/\l=[]) ⟨none,rfl,rfl⟩ ?_ ?_
 ·rintro Z Z i v vs l h own hii hv ⟨o1,e1v,e2l⟩ S;refine S.castL e1v e2l ?_;intro Z Z S;have hix:i<xs.length:=by exact z0 hlen hii
  obtain⟨t,et⟩:=au hi hix;obtain rfl:=cK hv et;ext;refine bq S (ag0 S.good _ _) ar fun h S Z=>?_;rw[hT _ (bS hix)];ext;exact⟨_,_,⟨_,rfl,rfl⟩,S⟩
 ·rintro Z Z h ⟨o1,e1v,e2l⟩ S;refine S.castL e1v e2l ?_;intro Z Z S;ext;exact⟨S.kept hL,rfl⟩
theorem be0{xs:List Int}{code:Int}{i:Nat}(hi:i<xs.length):aH (xs.take (i+1)) code=aH (xs.take i) code++(if code<=xs.getD i 0 then[xs.getD i 0] else[]):=by
 rw[bH hi,aH,jN]
 congr 1
 generalize xs.getD i 0=y;rw[jG,jP]
 by_cases h:code<=y
 ·rw[if_pos (jz h),if_pos h]
 ·rw[if_neg (by simpa using h),if_neg h]
theorem bs3{g:Heap}(G:ak c g){tx:Addr}{xs:List Int}(hx:LI (Hs g) tx xs){code:Int}{t:Tok}(hne:aH xs code≠[])(hn:xs.length<=1000):Ct c 3 (.ref 329) [.ref tx,.int code t] g (fun r h'=>av fun m t=>bB (r=.int m t) (m∈aH xs code) (∀ x∈aH xs code,m<=x)):=by
 obtain⟨vs0,n0,ea,hi⟩:=hx.mono Hs.in;refine at2 G (by k_is) (by k_is) (binds:=[("text", .ref tx),("code", .int code t)]) (fun s X=>jx rfl) (fun n=>⟨.inl rfl,.inr ⟨rfl,rfl⟩,trivial⟩) (by decide +kernel) (ns:=["text"]) (vs:=[some (.ref tx)]) (gs:=["min"]) (fun L=>by walk_at"u") (by decide +kernel) ?_;intro A L O cells ar hL hc Z Z S Z Z;obtain⟨o1,rfl,e1⟩:=CellsAre.one (n := "code") (c:=L+1) hc;have e1':o1.data=.cell (some (.int code t)):=e1;clear e1 hc;have S:=S.toFix;have hlen:vs0.length=xs.length:=hi.length;ext;refine bp ar.handled S (In.nil _ _ ea) fun it h S src=>?_;refine bJ (gs':=[]) (ns':=["one"]) (src _ _) (eI hn hlen) S (by walk_at"u") (by walk_at"u") (by kernel_rfl) (fun i acc l=>l=[]/\IntsAre acc (aH (xs.take i) code)) ⟨rfl,.nil⟩ ?_ ?_
 ·rintro Z Z C g D i v acc k ov l' h' own sb hii hv ⟨rfl,hacc⟩ hal hov S';obtain⟨u0,rfl⟩:=b9 hov;have hix:i<xs.length:=by exact z0 hlen hii
  obtain⟨tv,et⟩:=au hi hix;obtain rfl:=cK hv et;have g1:g.get? (L+1)=some o1:=sb.fx _ (.head _);have hf:=be0 (code:=code) hix;ext;rename Fs ..=>S';refine BB.dec (fun h1=>?_) fun h1=>?_
  ·ext;rw[if_pos h1] at hf;exact⟨_,_,rfl,⟨rfl,by rw[hf]; exact hacc.append (.cons _ _ .nil)⟩,S'⟩
  ·rw[if_neg h1,jD] at hf;ext;exact⟨_,_,rfl,⟨rfl,by rw[hf]; exact hacc⟩,S'⟩
 ·rintro D acc k l' h hD ⟨rfl,hacc⟩ hal S;rw[hlen,jF] at hacc;ext;refine cc8 S ar.handled (S.own _ (.head _)) hacc (List.length_pos_iff.mpr hne) fun m t h hm hle S=>?_;ext;exact⟨S.kept hL,m,t,rfl,hm,hle⟩
theorem bh7{f:Nat}{v b p:Int}(h:¬ v<ao p b):cR (f+1) v b p=cM (ao p b+(v-ao p b) % (36-ao p b))::cR f ((v-ao p b)/(36-ao p b)) b (p+1):=if_neg h
theorem a36{f:Nat}{v b p:Int}(h:v<ao p b):cR (f+1) v b p=[cM v]:=if_pos h
theorem bz2{q l v P R:Int}(h1:q<=(v-l)/2)(h2:R=2*P)(h3:v<R)(h4:1<=l):q<P:=Int.lt_of_le_of_lt h1 (Int.ediv_lt_of_lt_mul (by decide) (Int.lt_trans (Int.sub_lt_self v (Int.lt_of_lt_of_le (by decide) h4)) (Int.mul_comm 2 P▸h2▸h3)))
theorem a35(b:Int)(k:Nat):∀ (v p:Int),0<=v->v<2 ^ k->∀ f,(cR f v b p).length<=k+1:=by
 induction k with
 | zero =>
  intro v p h0 hv f
  cases f with
  | zero=>exact Nat.zero_le _
  | succ f =>
   by_cases h1:v<ao p b
   ·rw[a36 h1]; exact Nat.le_refl _
   ·have ht:=ac5 p b;rw[Int.pow_zero] at hv;exact df3 h1 ht hv
 | succ k ih =>
  intro v p h0 hv f
  cases f with
  | zero=>exact Nat.zero_le _
  | succ f =>
   by_cases h1:v<ao p b
   ·rw[a36 h1]; exact Nat.succ_le_succ (Nat.zero_le _)
   ·have ht:=ac5 p b;have hle:=aa7 ht.1 ht.2 h1;have h2:(v-ao p b)/(36-ao p b)<=(v-ao p b)/2:=by
     rw[Int.le_ediv_iff_mul_le (by decide)];have:=Int.ediv_mul_le (v-ao p b) (b:=36-ao p b) (z8 ht);have h6:=Int.mul_le_mul_of_nonneg_left (show(2:Int)<=36-ao p b by exact z66 ht) hle.1;exact z10 this h6
    have h3:(2:Int) ^ (k+1)=2*2 ^ k:=by rw[Int.pow_succ]; exact co6
    rw[bh7 h1,jA];have:=ih ((v-ao p b)/(36-ao p b)) (p+1) hle.1 (bz2 h2 h3 hv ht.1) f;exact z94 this
def ad9(x:Int):Prop:=(97<=x/\x<=122)\/(48<=x/\x<=57)
theorem bj3{v:Int}(h0:0<=v)(h1:v<36):ad9 (cM v):=by
 unfold cM ad9
 split
 ·rename_i h
  exact .inr ⟨Int.le_sub_right_of_add_le (Int.add_le_add_left h 48),Int.sub_right_le_of_le_add (Int.add_le_add_left (Int.le_of_lt_add_one (show v<35+1 from h1)) 48)⟩
 ·rename_i h
  exact .inl ⟨Int.le_add_of_nonneg_right h0,Int.add_le_add_left (Int.le_of_lt_add_one (show v<25+1 from Int.not_le.mp h)) 97⟩
theorem dl1{a b n:Nat}(h1:a<=60)(h2:b=a)(h3:(n:Int)<b):((n:Int)+1).natAbs<2 ^ 64:=ju (jr (Int.ofNat_lt.mp h3) (h2▸h1)) (by decide)
theorem bg9(n:Nat){m:Nat}(h:m<=1):n+m<=61+41*n:=jr (jB (Nat.add_comm n m)) (Nat.add_le_add (jr h (by decide)) (Nat.le_mul_of_pos_left n (by decide)))
theorem a98(b:Int)(f:Nat):∀ (v p:Int),0<=v->∀ x∈cR f v b p,ad9 x:=by
 induction f with
 | zero=>exact fun v p h0 x hx=>absurd hx jm
 | succ f ih =>
  intro v p h0 x hx;have ht:=ac5 p b
  by_cases h1:v<ao p b
  ·rw[a36 h1] at hx;rw[je.mp hx]; exact bj3 h0 (z96 ht h1)
  ·rw[bh7 h1] at hx
   rcases jf.mp hx with e|hx
   ·rw[e];have:=Int.emod_nonneg (v-ao p b) (show 36-ao p b≠0 by exact z8 ht);have:=Int.emod_lt_of_pos (v-ao p b) (show 0<36-ao p b by exact ca7 ht);exact bj3 (z72 ht (by assumption)) (z79 this)
   ·exact ih _ _ (aa7 ht.1 ht.2 h1).1 x hx
noncomputable abbrev bM (st:PS) (code m:Int):PS:=⟨st.out,st.delta+(m-code)*(st.many+1),st.bias,st.many⟩
theorem ar9(xs:List Int)(n:Int)(b0:Nat)(st:PS){i:Nat}(hi:i<xs.length):bg (xs.take (i+1)) n b0 st=cC n b0 (bg (xs.take i) n b0 st) (xs.getD i 0):=by
 rw[bg,bH hi,List.foldl_append]
 rfl
end
namespace X36
mutual
def P(g:Heap)(tx:Addr)(xs:List Int):Prop:=∀ (G:ak c g) (hx:LI (Hs g) tx xs) (hT:∀ x∈xs,0<=x/\x<44032) (hn:xs.length<=60),Ct c 6 (.ref 344) [.ref tx] g (fun r h'=>av fun b t=>r=.bytes b t/\KBw.bInts b=aR xs)
def Q(w:Heap×Addr×(List Int)):=P w.1 w.2.1 w.2.2
def w:=@Classical.epsilon _ ⟨(default,0,[])⟩ fun w=>¬ Q w
def g:=w.1
def tx:=w.2.1
def xs:=w.2.2
theorem m:P g tx xs:=by
 intro G hx hT hn;have hx0:=hx;obtain⟨vs0,n0,ea,hi⟩:=hx.mono Hs.in;refine al G (by k_is) (by k_is) (binds:=[("text", .ref tx),("numbers", .none),("capitals", .none)]) (fun s X=>bZ X rfl (by k_is) rfl (by walk_at"u")) (rest:=["wished", "found", "place", "code", "many_basic", "done", "delta", "bias", "least", "one"]) (ns:=["text", "numbers", "capitals", "wished", "found", "place", "code", "many_basic", "done", "delta", "bias", "least", "one"]) rfl (vs:=[some (.ref tx),some .none,some .none,none,none,none,none,none,none,none,none,none,none]) rfl (gs:=["puny_check", "PunyNumbers", "len", "enumerate", "puny_basic", "puny_cased", "HYPHEN_punycode", "puny_least_from", "puny_number", "bytes"]) (by decide +kernel) ?_;intro A L h ar hL Z Z S Z Z;have hlen:vs0.length=xs.length:=hi.length;ext;refine ba S (bs9 S.good (hx0.mono fun a o y=>S.hs a o (Hs.in a o y)) (fun x hx=>by have:=hT x hx; unfold bG ah5 an4; simp; exact z22 this) (b58 hn)) ar fun v h S Z e=>?_;ext;refine aJ ?_;ext;refine ba S (ap5 S.good (ap7 S.good) (by k_is) (by k_is) (by k_is)) ar fun v h Z k q'=>?_;obtain⟨nx,e,Z,I⟩:=q';subst e;obtain⟨ents,S,I⟩:=S.takeSupp k hL I.supp;have I:bt (In (g.hide ag) (ents++[])) nx 276 bR:=I.mono fun a o y=>y.1;ext;refine aJ ?_;ext;refine ad S (bd (by simp)) ?_;intro la h Z Z Z S;ext;refine bQ (S.at' (In.nil _ _ ea)) (ca4 hn hlen) fun Z=>?_;refine bu5 S (S.own _ (.head _)) (bn2 hn hlen) ?_;intro wa h Z Z S;have S:=(Fs.front1 S).drop.toFix;have I:bt (In (g.hide ag) ((wa,listOf (List.replicate vs0.length Value.none).toArray 0)::(ents++[]))) nx 276 bR:=I.mono In.cons;ext;refine ad S (by decide) ?_;intro fa h Z Z Z S;ext;refine al3 S ar.handled (In.nil _ _ ea) fun e h S src=>?_;refine ah4 (src [] 0 ⟨0,0,0,0⟩) ?_;refine aS (src _ _ _) S (fun i vs l=>cP fun its k o1 o2=>bB (vs=[some (.ref tx),some (.ref nx),some .none,some (.ref wa),some (.ref fa),o1,o2,none,none,none,none,none,none]) (l=[(fa,listOf (List.toArray its) k)]) (IntsAre its (ae (xs.take i)))) ⟨[],_,none,none,rfl,rfl,.nil⟩ ?_ ?_
 ·rintro Z Z i v vs l h own hii ⟨T0,x0,y0,rfl,⟨⟨ti,rfl⟩,hy⟩,ht⟩ ⟨its,k,o1,o2,rfl,rfl,q1⟩ S;have hix:i<xs.length:=by exact z0 hlen hii
  obtain⟨t,et⟩:=au hi hix;rw[et] at hy
  cases hy
  have hq:=q1.length;have hl:=List.length_filter_le (fun x=>decide (x<128)) (xs.take i);have hl2:=jL (i:=i) (l:=xs);have hpl:ae (xs.take (i+1))=ae (xs.take i)++(if xs.getD i 0<128 then[xs.getD i 0] else[]):=by
   rw[bH hix,ae,jN]
   congr 1
   generalize xs.getD i 0=y;rw[jG,jP]
   by_cases h:y<128
   ·rw[if_pos (jz h),if_pos h]
   ·rw[if_neg (by simpa using h),if_neg h]
  refine ah7 (items:=[_,_]) S ar.handled ht rfl rfl fun h S=>?_
  show Wp _ _ _ (assignInOrder [_,_] _) _ _
  ext;refine bq S (aq6 S.good ((I.mono In.app).mono S.hs) _ _) ar fun h S Z=>?_;ext;refine BB.dec (fun h1=>?_) fun h1=>?_
  ·ext;refine bk (S.at' (In.app _ _ In.here)) (z9) (z86 hn hlen hii) (show(List.replicate vs0.length Value.none)[((i:Nat):Int).toNat]?=some Value.none by rw[List.getElem?_replicate,if_pos (z46 hii)]) ?_;ext;refine bq S (bt0 S.good _ _) ar fun h S Z=>?_;ext;refine aj S .head (by unfold ae at hq; exact z95 hn hq hl hl2) ?_;intro Z h S;ext;exact⟨_,_,⟨_,_,_,_,rfl,rfl,by rw[hpl,if_pos h1]; exact q1.append (.cons _ _ .nil)⟩,S⟩
  ·ext;exact⟨_,_,⟨_,_,_,_,rfl,rfl,by rw[hpl,if_neg h1,jD]; exact q1⟩,S⟩
 rintro Z Z h ⟨its,k,o1,o2,e1v,e2l,q1⟩ S;refine S.castL e1v e2l ?_;intro Z Z S;rw[hlen,jF] at q1;have hpl:(ae xs).length<=xs.length:=List.length_filter_le _ _;have hq:=q1.length;ext;refine bQ (S.own _ (.head _)) (z48 hn hpl hq) fun Z=>?_;walk_at"st";refine br (fun h=>av fun o u=>S.like [some (.ref tx),some (.ref nx),some .none,some (.ref wa),some (.ref fa),o1,o2,some (.int (ae xs).length u),o,none,none,none,none] [(fa,listOf its.toArray k)] h/\o=some (.int (ae xs).length u)) ?_ ?_
 ·ext
  try dsimp +zetaDelta only at S
  rw[hq] at S;exact⟨rfl,_,_,S,rfl⟩
 rintro h ⟨Z,ub,S,rfl⟩;unfold Fs.like at S;refine br (fun h=>av fun its k=>IntsAre its (bX xs).out/\S.lk [(fa,listOf (List.toArray its) k)] h) ?_ ?_
 ·ext;refine BB.dec (fun h1=>?_) fun h1=>?_
  ·ext;refine aj S .head (cz2 hn hpl hq) ?_;intro Z h S;ext;exact⟨rfl,_,_,by unfold bX; dsimp only; rw[if_neg (by intro e; rw[e] at h1; simp at h1)]; exact q1.append (.cons _ _ .nil),S⟩
  ·ext;exact⟨rfl,its,k,by unfold bX; dsimp only; rw[if_pos (List.eq_nil_of_length_eq_zero (b77 h1)),jD]; exact q1,S⟩
 rintro h ⟨its,k,q1,S⟩;unfold Fs.lk at S;walk_at"s";refine am8 (x := "code") (y := "delta") (z := "bias") ?_;ext;refine am S I (bh (by decide +kernel)) bu (v:=.int 128 579) nA6 rfl ?_;ext;refine am S I (bh (by decide +kernel)) bu (v:=.int 72 578) nA5 rfl ?_;ext;refine bD S ar.handled (S.own _ (.head _)) rfl fun h S=>⟨_,_,_,rfl,?_⟩;have S:=S.drop;walk_at"st";have hN:xs.length<=60:=hn;refine br (fun h=>ay0 fun its k o1 o2 o3 o4 o5 o6 o7 o8=>bK (IntsAre its (aR xs)) ((aR xs).length<=1000000) (∀ x∈aR xs,0<=x/\x<256) (S.like [some (.ref tx),some (.ref nx),some .none,some (.ref wa),some (.ref fa),o1,o2,o3,o4,o5,o6,o7,o8] [(fa,listOf (List.toArray its) k)] h)) ?_ ?_
 ·walk_at"s";refine aa2 (fun n h=>bf9 fun(code:Int) (st:PS) (its:List Value) (k:Nat) (o1 o7 o8:Option Value) (t1 t2 t3 t4:Tok)=>cf1 (S.like [some (.ref tx),some (.ref nx),some .none,some (.ref wa),some (.ref fa),o1,some (.int code t1),some (.int (ae xs).length ub),some (.int st.many t2),some (.int st.delta t3),some (.int st.bias t4),o7,o8] [(fa,listOf (List.toArray its) k)] h) (n=(aH xs code).length) (IntsAre its st.out) (st.many=af0 xs code) (0<=st.delta) (st.delta<=code*61) (0<=code) (code<=44032) (st.out.length<=61+41*st.many) (∀ x∈st.out,0<=x/\x<256) ((eJ xs (ae xs).length (dP xs code) code st).out=aR xs)) _ ⟨128,bX xs,its,k,_,_,_,_,_,_,_,S,rfl,q1,?_,by simp [bX],by simp [bX],by decide,by decide,?_,?_,rfl⟩ ?_
  ·rfl
  ·unfold bX;dsimp only;rw[jl]
   split<;>exact bg9 _ (by decide)
  ·unfold bX;dsimp only;intro x hx
   rcases jg.mp hx with hx|hx
   ·obtain⟨a,b⟩:=List.mem_filter.mp hx;have:=hT x a;have:=of_decide_eq_true b;exact de7 (by assumption) this
   ·split at hx
    ·exact absurd hx jm
    ·rw[je.mp hx]; decide
  rintro Z Z n h ⟨code,st,its,k,o1,o7,o8,t1,t2,t3,t4,S,rfl,q1,hmany,hd0,hd1,hc0,hc1,hol,hrg,hgo⟩;unfold Fs.like at S;have hbl:=aq9 xs code;ext;refine bQ (S.at' (In.cons _ _ (In.nil _ _ ea))) (ca4 hn hlen) fun Z=>?_;ext;refine BB.dec (fun h1=>?_) fun h1=>?_
  ·have hne:aH xs code≠[]:=au0.mp (dd7 hlen hmany h1);ext;refine ba S (bs3 S.good (hx0.mono fun a o y=>S.hs a o (In.cons _ _ (In.nil _ _ (Hs.in a o y)))) hne (b58 hn)) ar fun v h S Z q'=>?_;obtain⟨m,tm,e,hm,hle⟩:=q';subst e;have hmr:=hT m (bE.mp hm).1;have hcm:=(bE.mp hm).2;have hns:=ap4 hm hle;have hbn:=at9 hm hle;have hlt:=aj6 hm;ext;refine ai8 (fun Z=>?_) (bd3 (dl1 hn hlen h1));ext;refine al3 S ar.handled (In.cons _ _ (In.nil _ _ ea)) fun e h S src=>?_;refine ah4 (src [] 0 ⟨0,0,0,0⟩) ?_;have hmul:0<=(m-code)*(st.many+1)/\(m-code)*(st.many+1)<=(m-code)*61:=⟨Int.mul_nonneg (eM hcm) (d9),Int.mul_le_mul_of_nonneg_left (c70 hn hlen h1) (eM hcm)⟩;refine aS (src _ _ _) S (fun i vs l=>e6 fun its k o1 o8 t1 t2 t3 t4 t5=>eF (vs=[some (.ref tx),some (.ref nx),some .none,some (.ref wa),some (.ref fa),o1,some (.int m t1),some (.int (ae xs).length ub),some (.int (bg (xs.take i) m (ae xs).length (bM st code m)).many t2),some (.int (bg (xs.take i) m (ae xs).length (bM st code m)).delta t3),some (.int (bg (xs.take i) m (ae xs).length (bM st code m)).bias t4),some (.int m t5),o8]) (l=[(fa,listOf (List.toArray its) k)]) (IntsAre its (bg (xs.take i) m (ae xs).length (bM st code m)).out) (0<=(bg (xs.take i) m (ae xs).length (bM st code m)).delta) ((bg (xs.take i) m (ae xs).length (bM st code m)).delta<=m*61+i) ((bg (xs.take i) m (ae xs).length (bM st code m)).out.length<=61+41*(bg (xs.take i) m (ae xs).length (bM st code m)).many) (∀ x∈(bg (xs.take i) m (ae xs).length (bM st code m)).out,0<=x/\x<256)) ⟨its,k,_,_,_,_,_,_,_,rfl,rfl,q1,by show 0<=st.delta+_; exact z57 hd0 hmul,by show st.delta+_<=_; exact z41 hd1 hmul,hol,hrg⟩ ?_ ?_
   ·rintro Z Z i v vs l h own hii ⟨T0,x0,y0,rfl,⟨⟨ti,rfl⟩,hy⟩,ht⟩ ⟨its,k,o1,o8,t1,t2,t3,t4,t5,rfl,rfl,r1,r2,r3,r4,r5⟩ S;have hix:i<xs.length:=by exact z0 hlen hii
    obtain⟨t,et⟩:=au hi hix;rw[et] at hy
    cases hy
    have hps:=ar9 xs m (ae xs).length (bM st code m) hix;have hmb:(bg (xs.take i) m (ae xs).length (bM st code m)).many<=120:=by
     rw[ae7];have:=List.count_le_length (a:=m) (l:=xs.take i);rw[jL] at this
     show st.many+_<=_
     exact dj4 hn hlen h1 this
    try dsimp +zetaDelta only at S
    generalize bg (xs.take i) m (ae xs).length (bM st code m)=si at hps hmb r1 r2 r3 r4 r5 S;refine ah7 (items:=[_,_]) S ar.handled ht rfl rfl fun h S=>?_
    show Wp _ _ _ (assignInOrder [_,_] _) _ _
    ext;have q:=r1.length;refine BB.dec (fun h2=>?_) fun h2=>?_
    ·have e:cC m (ae xs).length si (xs.getD i 0)={ si with delta:=si.delta+1 }:=if_pos h2;ext;rw[hps,e];exact⟨_,_,⟨its,k,_,_,_,_,_,_,_,rfl,rfl,r1,by show 0<=si.delta+1; exact eB r2,by show si.delta+1<=_; exact z99 r3,r4,r5⟩,S⟩
    ·ext;refine BB.dec (fun h3=>?_) fun h3=>?_
     ·have e:cC m (ae xs).length si (xs.getD i 0)=⟨si.out++bL si.delta si.bias,0,cX si.delta (si.many+1) (decide (si.many=(ae xs).length)),si.many+1⟩:=by rw[cC,if_neg h2,if_pos h3]
      ext;refine bk (S.at' (In.app _ _ In.here)) (z9) (z86 hn hlen hii) (show(List.replicate vs0.length Value.none)[((i:Nat):Int).toNat]?=some Value.none by rw[List.getElem?_replicate,if_pos (z46 hii)]) ?_;ext;refine cQ S (b03 S.good ((I.mono In.app).mono S.hs) _ _ _ _ r2 (z32 hn hlen hmr hii r3)) ar fun a h S Z q'=>?_;obtain⟨bs,nb,eb,ib⟩:=q';ext;have hpn:=a35 si.bias 40 si.delta 1 r2 (z32 hn hlen hmr hii r3) (si.delta.toNat+1);have hib:=ib.length;unfold bL at hib;refine aa9 S eb.1 (z55 hmb r4 q hpn hib) ?_;intro k' h Z S;ext;refine bx S (I.mono In.app) (f:=273) (as5 c.w.params).2 (by show(_:Str)∉bR.map (·.1); decide +kernel) ?_;ext;refine ch S (at8 S.good ((I.mono In.app).mono S.hs) _ _ _ _ _ r2 (z39) (b85 hmb)) ar fun tb h S Z=>?_;walk_at"s";walk_at"s";walk_at"s";refine bl (x := "delta") (y := "done") ?_;ext;refine bD S ar.handled (S.own _ (.head _)) rfl fun h S=>⟨_,_,rfl,?_⟩;have S:=S.drop;ext
      try dsimp +zetaDelta only at S
      rw[show decide ((si.many:Int)=((ae xs).length:Int))=decide (si.many=(ae xs).length) from decide_eq_decide.mpr Int.ofNat_inj] at S;rw[hps,e];refine⟨_,_,⟨its++bs,k',some (.int i ti),some (.int (xs.getD i 0) t),t1,_,_,tb,t5,rfl,rfl,r1.append ib,Int.le_refl _,by show(0:Int)<=_; exact z89 r2 r3,?_,?_⟩,S⟩
      ·show(si.out++bL si.delta si.bias).length<=61+41*(si.many+1)
       rw[jl];unfold bL;exact z80 r4 hpn
      ·intro x hx
       rcases jg.mp hx with hx|hx
       ·exact r5 x hx
       ·rcases a98 si.bias _ _ _ r2 x hx with q|q<;>exact⟨Int.le_trans (by decide) q.1,Int.lt_of_le_of_lt q.2 (by decide)⟩
     ·have e:cC m (ae xs).length si (xs.getD i 0)=si:=by rw[cC,if_neg h2,if_neg h3]
      ext;rw[hps,e];exact⟨_,_,⟨its,k,_,_,_,_,_,_,_,rfl,rfl,r1,r2,by exact ca9 r3,r4,r5⟩,S⟩
   ·rintro Z Z h ⟨its,k,o1,o8,t1,t2,t3,t4,t5,e1v,e2l,r1,r2,r3,r4,r5⟩ S;refine S.castL e1v e2l ?_;intro Z Z S;have etk:xs.take vs0.length=xs:=by rw[hlen,jF]
    try dsimp +zetaDelta only at S
    rw[etk] at r1 r2 r3 r4 r5 S;ext;refine bl (x := "delta") (y := "code") ?_;ext;refine bD S ar.handled (S.own _ (.head _)) rfl fun h S=>⟨_,_,rfl,?_⟩;have S:=S.drop;ext;refine⟨_,hlt,m+1,bb6 xs (ae xs).length code m st,its,k,_,_,_,_,_,_,_,S,rfl,r1,?_,?_,?_,by exact b84 hmr,by exact b88 hmr,r4,r5,?_⟩
    ·show(bg xs m (ae xs).length (bM st code m)).many=_
     rw[ae7,hbn]
     show st.many+_=_
     rw[hmany]
    ·show 0<=(bg xs m (ae xs).length (bM st code m)).delta+1
     exact eB r2
    ·show(bg xs m (ae xs).length (bM st code m)).delta+1<=_
     exact z71 hn hlen r3
    ·rw[hns] at hgo;exact hgo
  ·ext;have:aH xs code=[]:=by
    cases e:aH xs code with
    | nil=>rfl
    | cons y r =>
     have:=(au0 (text:=xs) (code:=code)).mpr (by rw[e]; exact List.cons_ne_nil _ _);exact absurd (by rw[hmany,hlen]; exact Int.ofNat_lt.mpr this) h1
   rw[an2 this] at hgo;exact⟨rfl,its,k,_,_,_,_,_,_,_,_,by rw[<- hgo]; exact q1,by rw[<- hgo]; show st.out.length<=_; exact di1 hn hmany hol hbl,by rw[<- hgo]; exact hrg,S⟩
 rintro h ⟨its,k,p1,p2,p3,p4,p5,p6,p7,p8,q1,q2,q3,S⟩;unfold Fs.like at S;ext;refine aw0 S ar.handled (S.own _ (.head _)) q1 q3 q2 fun b t h hb S=>?_;ext;exact⟨S.kept hL,b,t,rfl,hb⟩
end
end X36
mutual
theorem bl0{g tx xs}:X36.P g tx xs:=c7 (P:=X36.Q) (a:=X36.w) rfl X36.m (g,tx,xs)
theorem a96{v:Int}(h0:0<=v)(h1:v<36):dO (cM v)=some v:=by
 unfold dO cM
 by_cases h:v≥26
 ·rw[if_pos h,if_neg (c60 h1),if_neg (c59 h1),if_pos (dc7 h1 h)]
  congr 1
  exact cp4
 ·rw[if_neg h,if_pos (c94 h0 h)]
  congr 1
  exact co3
theorem az0{ks:List Int}{a:Nat}{d:Int}{r:List Int}(h:ks.drop a=d::r):a<ks.length/\ks.getD a 0=d/\ks.drop (a+1)=r:=by
 have hl:a<ks.length:=by
  have:=congrArg List.length h;rw[List.length_drop,jA] at this;exact a20 this
 rw[List.drop_eq_getElem_cons hl] at h
 injection h with h1 h2
 exact⟨hl,by rw[jk,jj hl]; exact h1,h2⟩
end
namespace X37
mutual
def P(g:Heap)(nx:Addr)(b:Array UInt8)(t ta tb:Tok)(ks rest:List Int)(at0:Nat)(v bias:Int):Prop:=∀ (G:ak c g) (I:bt (Hs g) nx 276 bR) (hk:KBw.bInts b=ks) (hn:ks.length<=1000000) (hv:0<=v) (hd:ks.drop at0=bL v bias++rest),Ct c 3 (.ref 310) [.bytes b t,.int at0 ta,.int bias tb,.ref nx] g (fun r h'=>cP fun a n t1 t2=>r=.ref a/\h'.get? a=some { cls:=.type "tuple", data:=.seq #[.int v t1,.int (at0+(bL v bias).length:Nat) t2] n })
def Q(w:Heap×Addr×(Array UInt8)×Tok×Tok×Tok×(List Int)×(List Int)×Nat×Int×Int):=P w.1 w.2.1 w.2.2.1 w.2.2.2.1 w.2.2.2.2.1 w.2.2.2.2.2.1 w.2.2.2.2.2.2.1 w.2.2.2.2.2.2.2.1 w.2.2.2.2.2.2.2.2.1 w.2.2.2.2.2.2.2.2.2.1 w.2.2.2.2.2.2.2.2.2.2
def w:=@Classical.epsilon _ ⟨(default,0,#[],default,default,default,[],[],0,0,0)⟩ fun w=>¬ Q w
def g:=w.1
def nx:=w.2.1
def b:=w.2.2.1
def t:=w.2.2.2.1
def ta:=w.2.2.2.2.1
def tb:=w.2.2.2.2.2.1
def ks:=w.2.2.2.2.2.2.1
def rest:=w.2.2.2.2.2.2.2.1
def at0:=w.2.2.2.2.2.2.2.2.1
def v:=w.2.2.2.2.2.2.2.2.2.1
def bias:=w.2.2.2.2.2.2.2.2.2.2
theorem m:P g nx b t ta tb ks rest at0 v bias:=by
 intro G I hk hn hv hd;have I:=I.mono Hs.in;refine al G (by k_is) (by k_is) (binds:=[("octets", .bytes b t),("at", .int at0 ta),("bias", .int bias tb),("numbers", .ref nx)]) (fun s X=>jx rfl) (rest:=["value", "weight", "place", "figure", "least"]) (ns:=["octets", "at", "bias", "numbers", "value", "weight", "place", "figure", "least"]) rfl (vs:=[some (.bytes b t),some (.int at0 ta),some (.int bias tb),some (.ref nx),none,none,none,none,none]) rfl (gs:=["len", "puny_value", "BadLabel"]) (by decide +kernel) ?_;intro A L h ar hL Z Z S Z Z;ext;refine cL (items:=[_,_,_]) S ar.handled (S.own _ (.head _)) rfl rfl fun h S=>?_
 show Wp _ _ _ (assignInOrder [_,_,_] _) _ _
 have S:=S.drop;walk_at"st";walk_at"s";have hnum:=as5 c.w.params;refine aa2 (fun n h=>bf9 fun(w p wt val:Int) (at':Nat) (t1 t2 t3 t4:Tok) (o1 o2:Option Value)=>eG (S.like [some (.bytes b t),some (.int at' t1),some (.int bias tb),some (.ref nx),some (.int val t2),some (.int wt t3),some (.int p t4),o1,o2] [] h) (0<=w) (n=w.toNat) (val+w*wt=v) (ks.drop at'=cR (w.toNat+1) w bias p++rest) (at'+(cR (w.toNat+1) w bias p).length=at0+(bL v bias).length)) v.toNat ⟨v,1,1,0,at0,_,_,_,_,none,none,S,hv,rfl,by exact cp9,hd,rfl⟩ ?_;rintro _ _ n h ⟨w,p,wt,val,at',t1,t2,t3,t4,o1,o2,(S:Fs _ _ _ _ _ _ _ _ _),hw,rfl,hval,hdr,hcnt⟩;have ht:=ac5 p bias
 by_cases h1:w<ao p bias
 ·rw[ak9 h1] at hdr hcnt;obtain⟨d1,d2,d3⟩:=az0 hdr;ext;refine ab8 hk hn fun Z=>?_;ext;refine BB.neg (jy (z75 d1)) ?_;ext;refine af1 hk hn (z9) (eP d1) fun Z=>?_;rw[show(at':Int).toNat=at' by exact z47,d2];ext;refine ba S (at6 S.good _ _) ar fun r h S Z e=>?_;unfold dF at e;rw[a96 hw (z96 ht h1)] at e;obtain⟨tf,rfl⟩:=e;ext;refine am S I (bh (by decide +kernel)) bu (v:=.int 36 573) d8 rfl ?_;ext;refine BB.neg (jy (c51 ht h1)) ?_;ext;refine ai8 (fun Z=>?_) (IntMulOk.of_left (intBits_le_iff.mpr (na hw (Int.lt_of_lt_of_le h1 (Int.le_trans ht.2 (by decide))))));ext;refine bx S I hnum.1 (by decide +kernel) ?_;ext;refine ch S (at5 S.good (I.mono S.hs) _ _ _ _) ar fun tk h S Z=>?_;ext;refine BB.pos (jz h1) ?_;ext;have e:((at':Int)+1)=((at0+(bL v bias).length:Nat):Int):=by rw[<- hcnt,jE]; rfl
  try dsimp +zetaDelta only at S
  rw[hval,e] at S;exact⟨S.kept hL,_,_,_,_,rfl,S.own _ (.head _)⟩
 ·rw[ak8 h1] at hdr hcnt;have hle:=aa7 ht.1 ht.2 h1;have hm0:=Int.emod_nonneg (w-ao p bias) (show 36-ao p bias≠0 by exact z8 ht);have hm1:=Int.emod_lt_of_pos (w-ao p bias) (show 0<36-ao p bias by exact ca7 ht);have hdm:=Int.mul_ediv_add_emod (w-ao p bias) (36-ao p bias);generalize hq:(w-ao p bias)/(36-ao p bias)=q at hdr hcnt hle hdm;generalize hr:(w-ao p bias) % (36-ao p bias)=r at hdr hcnt hm0 hm1 hdm;obtain⟨d1,d2,d3⟩:=az0 hdr;ext;refine ab8 hk hn fun Z=>?_;ext;refine BB.neg (jy (z75 d1)) ?_;ext;refine af1 hk hn (z9) (eP d1) fun Z=>?_;rw[show(at':Int).toNat=at' by exact z47,d2];ext;refine ba S (at6 S.good _ _) ar fun rv h S Z e=>?_;unfold dF at e;rw[a96 (z72 ht hm0) (z79 hm1)] at e;obtain⟨tf,rfl⟩:=e;ext;refine am S I (bh (by decide +kernel)) bu (v:=.int 36 573) d8 rfl ?_;ext;refine BB.neg (jy (dc3 hm1)) ?_;ext;refine ai8 (fun Z=>?_) (IntMulOk.of_left (intBits_le_iff.mpr (na (Int.add_nonneg (Int.le_trans (by decide) ht.1) hm0) (Int.lt_of_lt_of_le (Int.add_lt_of_lt_sub_left hm1) (by decide)))));ext;refine bx S I hnum.1 (by decide +kernel) ?_;ext;refine ch S (at5 S.good (I.mono S.hs) _ _ _ _) ar fun tk h S Z=>?_;ext;refine BB.neg (jy (c87 hm0)) ?_;ext;refine am S I (bh (by decide +kernel)) bu (v:=.int 36 573) d8 rfl ?_;ext;refine ai8 (fun Z=>?_) (bd3 (n36 ht));ext;refine⟨q.toNat,by exact z1 hle,q,p+1,wt*(36-ao p bias),val+(ao p bias+r)*wt,at'+1,_,_,_,_,_,_,S,hle.1,rfl,?_,d3,?_⟩
  ·rw[<- hval];have e1:w=(36-ao p bias)*q+r+ao p bias:=by exact z90 hdm
   have e2:q*(wt*(36-ao p bias))=((36-ao p bias)*q)*wt:=by rw[Int.mul_comm wt,<- Int.mul_assoc,Int.mul_comm q]
   have e3:w*wt=((36-ao p bias)*q)*wt+(ao p bias+r)*wt:=by rw[<- Int.add_mul]; congr 1; exact c82 hdm
   rw[e2,Int.add_assoc,e3,Int.add_comm ((36-ao p bias)*q*wt)]
  ·rw[<- hcnt,jA];exact b47
end
end X37
mutual
theorem bs2{g nx b t ta tb ks rest at0 v bias}:X37.P g nx b t ta tb ks rest at0 v bias:=c7 (P:=X37.Q) (a:=X37.w) rfl X37.m (g,nx,b,t,ta,tb,ks,rest,at0,v,bias)
noncomputable def dw(b0:Nat)(nxt:Int->Int->Nat->List Int)(n:Int):List Int->Int->Int->Nat->List Int
 | [],d,b,m=>nxt (d+1) b m
 | x::l,d,b,m=>if x<n then dw b0 nxt n l (d+1) b m else if x=n then bL d b++dw b0 nxt n l 0 (cX d (m+1) (decide (m=b0))) (m+1) else dw b0 nxt n l d b m
noncomputable def ai2(text:List Int)(b0:Nat):List Int->Int->Int->Int->Nat->List Int
 | [],_,_,_,_=>[]
 | n::r,last,d,b,m=>dw b0 (ai2 text b0 r (n+1)) n text (d+(n-last)*(m+1)) b m
theorem a32{b0:Nat}{nxt:Int->Int->Nat->List Int}{n x:Int}{l:List Int}{d b:Int}{m:Nat}:dw b0 nxt n (x::l) d b m=if x<n then dw b0 nxt n l (d+1) b m else if x=n then bL d b++dw b0 nxt n l 0 (cX d (m+1) (decide (m=b0))) (m+1) else dw b0 nxt n l d b m:=rfl
theorem bo6(text:List Int)(b0:Nat)(n:Int)(r:List Int)(nxt:Int->Int->Nat->List Int)(hn:∀ st:PS,(eJ text b0 r (n+1) st).out=st.out++nxt st.delta st.bias st.many)(l:List Int) :
  ∀ st:PS,(eJ text b0 r (n+1) { bg l n b0 st with delta:=(bg l n b0 st).delta+1 }).out=st.out++dw b0 nxt n l st.delta st.bias st.many:=by
 induction l with
 | nil=>exact fun st=>hn _
 | cons x l ih =>
  intro st;refine(ih (cC n b0 st x)).trans ?_;unfold cC;rw[a32]
  by_cases h1:x<n
  ·rw[if_pos h1,if_pos h1]
  ·rw[if_neg h1,if_neg h1]
   by_cases h2:x=n
   ·rw[if_pos h2,if_pos h2,List.append_assoc]
   ·rw[if_neg h2,if_neg h2]
theorem bz4(text:List Int)(b0:Nat)(r:List Int):∀ (last:Int) (st:PS),(eJ text b0 r last st).out=st.out++ai2 text b0 r last st.delta st.bias st.many:=by
 induction r with
 | nil=>exact fun Z st=>(jD _).symm
 | cons n r ih=>exact fun last st=>bo6 text b0 n r _ (fun st=>ih (n+1) st) text { st with delta:=st.delta+(n-last)*(st.many+1) }
structure an8(text T pre l r:List Int)(n d code idx:Int):Prop where
 txt:text=pre++l
 tt:T=pre.filter (fun x=>decide (x<=n))++l.filter (fun x=>decide (x<n))
 eq:code*(T.length+1)+idx+d=n*(T.length+1)+(pre.filter (fun x=>decide (x<=n))).length
 d0:0<=d
 inr:∀ x∈text,n<x->x∈r
 srt:(n::r).Pairwise (·<·)
def av1(text T:List Int)(b0:Nat)(code idx b:Int)(rem:List Int):Prop :=
 (rem=[]/\T=text)\/dU fun pre l r n d=>an8 text T pre (n::l) r n d code idx/\rem=bL d b++dw b0 (ai2 text b0 r (n+1)) n l 0 (cX d (T.length+1) (decide (T.length=b0))) (T.length+1)
theorem a30{text T:List Int}{b0:Nat}{code idx b last d:Int}{r:List Int}(hT:T=text.filter fun x=>decide (x<last))(he:code*(T.length+1)+idx+d=last*(T.length+1))(hd:0<=d)(hin:∀ x∈text,last<=x->x∈r)(hs:r.Pairwise (·<·))(hge:∀ x∈r,last<=x)
  (K:∀ n r',r=n::r'->an8 text T [] text r' n (d+(n-last)*(T.length+1)) code idx->av1 text T b0 code idx b (dw b0 (ai2 text b0 r' (n+1)) n text (d+(n-last)*(T.length+1)) b T.length)):av1 text T b0 code idx b (ai2 text b0 r last d b T.length):=by
 cases r with
 | nil =>
  refine .inl ⟨rfl,?_⟩;rw[hT,List.filter_eq_self];intro x hx;refine jz ?_
  by_cases q:last<=x
  ·exact absurd (hin x hx q) jm
  ·exact b90 q
 | cons n r' =>
  have hln:=hge n (.head _);obtain⟨s1,s2⟩:=List.pairwise_cons.mp hs;refine K n r' rfl ⟨rfl,?_,?_,?_,?_,hs⟩
  ·rw[hT,jP,List.nil_append];refine List.filter_congr fun x hx=>?_;refine decide_eq_decide.mpr ⟨fun q=>by exact c29 hln q,fun q=>?_⟩
   by_cases q':last<=x
   ·rcases jf.mp (hin x hx q') with rfl|m
    ·exact co7 q
    ·have:=s1 x m; exact c18 q this
   ·exact b90 q'
  ·rw[jP,jO];have:last*(T.length+1)+(n-last)*(T.length+1)=n*((T.length:Int)+1):=by rw[<- Int.add_mul]; congr 1; exact cp0
   exact((Int.add_assoc _ d _).symm.trans ((congrArg (·+(n-last)*((T.length:Int)+1)) he).trans this)).trans (Int.add_zero _).symm
  ·have:=Int.mul_nonneg (show 0<=n-last by exact eM hln) (show(0:Int)<=T.length+1 by exact d9);exact z93 hd this
  ·intro x hx hnx
   rcases jf.mp (hin x hx (cz8 hln hnx)) with rfl|m
   ·exact absurd hnx (Int.lt_irrefl _)
   ·exact m
theorem adv{text T:List Int}{b0:Nat}{code idx b:Int}:∀ (r l pre:List Int) (n d:Int),an8 text T pre l r n d code idx->av1 text T b0 code idx b (dw b0 (ai2 text b0 r (n+1)) n l d b T.length):=by
 intro r
 induction hN:r.length using Nat.strongRecOn generalizing r with
 | _ N ih =>
 intro l
 induction l with
 | nil =>
  intro pre n d D;have e0:=D.txt;rw[jD] at e0;have eT:T=text.filter fun x=>decide (x<=n):=by rw[D.tt,jP,jD,e0]
  obtain⟨s1,s2⟩:=List.pairwise_cons.mp D.srt;have hT:T=text.filter fun x=>decide (x<n+1):=by
   rw[eT];refine List.filter_congr fun x Z=>?_;exact decide_eq_decide.mpr (ct0)
  have hl:(pre.filter (fun x=>decide (x<=n))).length=T.length:=by rw[eT,e0]
  have he:=D.eq;rw[hl] at he;refine a30 (last:=n+1) (d:=d+1) hT ?_ (by have:=D.d0; exact eB this) (fun x hx q=>D.inr x hx (b83 q)) s2 (fun x hx=>by have:=s1 x hx; exact bn1 this) fun n2 r2 er D2=>?_
  ·rw[Int.add_mul]; exact c40 he
  ·subst er;exact ih r2.length (by rw[<- hN]; exact Nat.lt_succ_self _) r2 rfl text [] n2 _ D2
 | cons x l ihl =>
  intro pre n d D;rw[a32]
  by_cases h1:x<n
  ·rw[if_pos h1];refine ihl (pre++[x]) n (d+1) ⟨by rw[D.txt,List.append_assoc]; rfl,?_,?_,by have:=D.d0; exact eB this,D.inr,D.srt⟩
   ·rw[D.tt,jN,jG,if_pos (jz h1),jG,if_pos (jz (Int.le_of_lt h1)),jP,List.append_assoc]
    rfl
   ·have:=D.eq;rw[jN,jG,if_pos (jz (Int.le_of_lt h1)),jP,jl,jE];exact dg2 this
  ·rw[if_neg h1]
   by_cases h2:x=n
   ·subst h2;rw[if_pos rfl];exact .inr ⟨pre,l,r,x,d,D,rfl⟩
   ·rw[if_neg h2];have h3:¬ x<=n:=by exact cy4 h1 h2
    refine ihl (pre++[x]) n d ⟨by rw[D.txt,List.append_assoc]; rfl,?_,?_,D.d0,D.inr,D.srt⟩
    ·rw[D.tt,jN,jG,if_neg (by simpa using h1),jG,if_neg (by simpa using h3),jP,jD]
    ·have:=D.eq;rw[jN,jG,if_neg (by simpa using h3),jP,jD];exact this
theorem an8.take{text T pre l r:List Int}{n d code idx:Int}{J:Nat}(hJ:J=(pre.filter (fun x=>decide (x<=n))).length)(D:an8 text T pre (n::l) r n d code idx) :
  code+(idx+d)/(T.length+1)=n/\(idx+d) % (T.length+1)=J/\J<=T.length/\an8 text (T.take J++[n]++T.drop J) (pre++[n]) l r n 0 n (J+1):=by
 have hTl:T.length=(pre.filter (fun x=>decide (x<=n))).length+((n::l).filter (fun x=>decide (x<n))).length:=by rw[D.tt,jl]
 have hTJ:T.take J=pre.filter (fun x=>decide (x<=n)):=by rw[D.tt,hJ,List.take_left]
 have hTd:T.drop J=l.filter (fun x=>decide (x<n)):=by rw[D.tt,hJ,List.drop_left,jG,if_neg (by simp)]
 have he:=D.eq;rw[<- hJ] at he hTl;have hi:idx+d=J+(n-code)*(T.length+1):=by rw[Int.sub_mul]; exact c17 he
 have hJ2:J<=T.length:=by exact da4 hTl
 have hpos:(0:Int)<T.length+1:=by exact z39
 refine⟨?_,?_,hJ2,?_⟩
 ·rw[hi,Int.add_mul_ediv_right _ _ (ca8),Int.ediv_eq_zero_of_lt (z9) (b78 hTl)];exact cp5
 ·rw[hi,Int.add_mul_emod_self_right,Int.emod_eq_of_lt (z9) (b78 hTl)]
 ·have hlen:(T.take J++[n]++T.drop J).length=T.length+1:=by
   rw[jl,jl,jL,List.length_drop,jE]; exact z15
  refine⟨by rw[D.txt,List.append_assoc]; rfl,?_,?_,Int.le_refl _,D.inr,D.srt⟩
  ·rw[hTJ,hTd,jN,jG,if_pos (by simp),jP]
  ·rw[hlen,jN,jG,if_pos (by simp),jP,jl,jE,<- hJ]
   push_cast
   exact cq0
theorem bw9{b0:Nat}{nxt:Int->Int->Nat->List Int}{n:Int}(hn:∀ d b m,0<=d->∀ x∈nxt d b m,ad9 x)(l:List Int):∀ (d b:Int) (m:Nat),0<=d->∀ x∈dw b0 nxt n l d b m,ad9 x:=by
 induction l with
 | nil=>exact fun d b m h x hx=>hn (d+1) b m (eB h) x hx
 | cons y l ih =>
  intro d b m h x hx;rw[a32] at hx
  by_cases h1:y<n
  ·rw[if_pos h1] at hx;exact ih (d+1) b m (eB h) x hx
  ·rw[if_neg h1] at hx
   by_cases h2:y=n
   ·rw[if_pos h2] at hx;exact(jg.mp hx).elim (a98 b _ d 1 h x) (ih 0 _ _ (Int.le_refl _) x)
   ·rw[if_neg h2] at hx;exact ih d b m h x hx
theorem bx0(text:List Int)(b0:Nat)(r:List Int):∀ (last:Int),r.Pairwise (·<·)->(∀ x∈r,last<=x)->∀ d b m,0<=d->∀ x∈ai2 text b0 r last d b m,ad9 x:=by
 induction r with
 | nil=>exact fun Z Z Z Z Z Z Z x hx=>absurd hx jm
 | cons n r ih =>
  intro last hs hl d b m h x hx;obtain⟨s1,s2⟩:=List.pairwise_cons.mp hs;have hln:=hl n (.head _);have:=Int.mul_nonneg (show 0<=n-last by exact eM hln) (show(0:Int)<=m+1 by exact d9);exact bw9 (fun d b m hd=>ih (n+1) s2 (fun y hy=>by have:=s1 y hy; exact bn1 this) d b m hd) text _ b m (z93 h this) x hx
theorem bq7{ks:List Int}{p:Nat}(hp:0<p)(h45:ks.getD p 0=45)(n:Nat):p<=n->(∀ j,p<j->j<=n->ks.getD j 0≠45)->cW ks n=p:=by
 induction n with
 | zero=>intro h Z; exact cs1 hp h
 | succ n ih =>
  intro h hj
  by_cases e:p=n+1
  ·rw[e] at h45; exact(if_pos h45).trans e.symm
  ·exact(if_neg (hj (n+1) (cy8 h e) (Nat.le_refl _))).trans (ih (cu8 h e) fun j a b=>hj j a (eO b))
theorem bq6{ks:List Int}(n:Nat):(∀ j,0<j->j<=n->ks.getD j 0≠45)->cW ks n=0:=by
 induction n with
 | zero=>exact fun Z=>rfl
 | succ n ih=>exact fun hj=>(if_neg (hj (n+1) (b39) (Nat.le_refl _))).trans (ih fun j a b=>hj j a (eO b))
theorem ba4{R:List Int}(h:∀ x∈R,ad9 x)(j:Nat):R.getD j 0≠45:=by
 by_cases hj:j<R.length
 ·have:=h _ (bS hj);unfold ad9 at this;exact c99 this
 ·rw[jk,List.getElem?_eq_none (bm8 hj)]; decide
theorem bc0{P R:List Int}(h:∀ x∈R,ad9 x):aY (P++(if P=[] then[] else[45])++R)=(P,(P++(if P=[] then[] else[45])).length):=by
 by_cases hP:P=[]
 ·subst hP;rw[if_pos rfl];simp only[List.nil_append];unfold aY;rw[bq6 _ fun j Z Z=>ba4 h j]
  rfl
 ·have hp:0<P.length:=List.length_pos_iff.mpr hP;rw[if_neg hP];have hl:cW (P++[45]++R) ((P++[45]++R).length-1)=P.length:=by
   refine bq7 hp ?_ _ ?_ fun j h1 Z=>?_
   ·rw[List.append_assoc,jk,List.getElem?_append_right (Nat.le_refl _),Nat.sub_self]; rfl
   ·rw[jl,jl,jE]; exact ct1
   ·rw[jk,List.getElem?_append_right (by rw[jl,jE]; exact bb2 h1),<- jk];exact ba4 h _
  unfold aY;rw[hl,if_neg (cr4 hp),List.append_assoc,List.take_left,jl,jE]
noncomputable def as4(text:List Int):List Int:=ai2 text (ae text).length (dP text 128) 128 0 72 (ae text).length
theorem av2(text:List Int):aR text=ae text++(if ae text=[] then[] else[45])++as4 text:=bz4 text _ _ _ _
theorem av8(text:List Int):∀ x∈as4 text,ad9 x :=
 bx0 text _ _ 128 (aj0 _ (Nat.le_refl _)) (fun x hx=>((an3 _ (Nat.le_refl _)).mp hx).2) 0 72 _ (Int.le_refl _)
theorem bb7(text:List Int):aY (aR text)=(ae text,(bX text).out.length)/\(aR text).drop (bX text).out.length=as4 text:=by
 rw[av2];refine⟨bc0 (av8 text),?_⟩
 show(ae text++(if ae text=[] then[] else[45])++as4 text).drop (ae text++(if ae text=[] then[] else[45])).length=_
 rw[List.drop_left]
theorem bn4{text:List Int}(h:∀ x∈text,0<=x):∀ x∈aR text,0<=x/\x<256:=by
 intro x hx;rw[av2] at hx
 rcases jg.mp hx with hx|hx
 ·rcases jg.mp hx with hx|hx
  ·obtain⟨a,b⟩:=List.mem_filter.mp hx;have:=h x a;have:=of_decide_eq_true b;exact da5 (by assumption) this
  ·split at hx
   ·exact absurd hx jm
   ·rw[je.mp hx]; decide
 ·rcases av8 text x hx with q|q<;>lia
theorem bb8(text:List Int):av1 text (ae text) (ae text).length 128 0 72 (as4 text) :=
 a30 rfl (cp7) (Int.le_refl _) (fun x hx q=>(an3 _ (Nat.le_refl _)).mpr ⟨hx,q⟩) (aj0 _ (Nat.le_refl _)) (fun x hx=>((an3 _ (Nat.le_refl _)).mp hx).2) fun n r' Z D=>adv r' text [] n _ D
theorem cx{α:Type}(l:List α)(J:Nat):bY l none (some (J:Int))=l.take J:=by
 unfold bY kms_lo kms_hi;dsimp only;rw[if_neg (b32),List.drop_zero,Nat.sub_zero,Int.toNat_natCast,Nat.min_def]
 split
 ·rfl
 ·rw[List.take_of_length_le (Nat.le_refl _),List.take_of_length_le (bm2 (by assumption))]
theorem ad0{α:Type}(l:List α)(J:Nat):bY l (some (J:Int)) none=l.drop J:=by
 unfold bY kms_lo kms_hi;dsimp only;rw[if_neg (b32),Int.toNat_natCast,Nat.min_def]
 split
 ·rw[List.take_of_length_le (by rw[List.length_drop]; exact cp2)]
 ·rw[Nat.sub_self,List.take_zero,List.drop_of_length_le (bm2 (by assumption))]
end
namespace X40
mutual
def P(g:Heap)(b:Array UInt8)(t:Tok)(xs:List Int):Prop:=∀ (G:ak c g) (hk:KBw.bInts b=aR xs) (hT:∀ x∈xs,0<=x/\x<44032) (hn:xs.length<=60) (hn2:(aR xs).length<=1000),Ct c 5 (.ref 366) [.bytes b t,.none] g (fun r h'=>cP fun a n ta ca=>bB (r=.ref a) (h'.get? a=some { cls:=.type "tuple", data:=.seq #[.ref ta,ca] n }) (LI (Nw g h') ta xs))
def Q(w:Heap×(Array UInt8)×Tok×(List Int)):=P w.1 w.2.1 w.2.2.1 w.2.2.2
def w:=@Classical.epsilon _ ⟨(default,#[],default,[])⟩ fun w=>¬ Q w
def g:=w.1
def b:=w.2.1
def t:=w.2.2.1
def xs:=w.2.2.2
theorem m:P g b t xs:=by
 intro G hk hT hn hn2;refine al G (by k_is) (by k_is) (binds:=[("octets", .bytes b t),("numbers", .none)]) (fun s X=>bZ X rfl (by k_is) rfl (by walk_at"u")) (rest:=["basic", "at", "text", "capitals", "octet", "code", "index", "bias", "delta", "many"]) (ns:=["octets", "numbers", "basic", "at", "text", "capitals", "octet", "code", "index", "bias", "delta", "many"]) rfl (vs:=[some (.bytes b t),some .none,none,none,none,none,none,none,none,none,none,none]) rfl (gs:=["PunyNumbers", "puny_split", "puny_basic", "BadLabel", "puny_is_capital", "len", "puny_number_at", "MAX_CODE", "is_scalar"]) (by decide +kernel) ?_;intro A L h ar hL Z Z S Z Z;obtain⟨hsp,hdr⟩:=bb7 xs;ext;refine aJ ?_;ext;refine ba S (ap5 S.good (ap7 S.good) (by k_is) (by k_is) (by k_is)) ar fun v h Z k q'=>?_;obtain⟨nx,e,Z,I⟩:=q';subst e;obtain⟨ents,S,I⟩:=S.takeSupp k hL I.supp;have I:bt (In (g.hide ag) (ents++[])) nx 276 bR:=I.mono fun a o y=>y.1;ext;refine ba S (a61 S.good hk hn2) ar fun v h S Z q'=>?_;obtain⟨a,b',t',u,n,e,ea,hb⟩:=q';subst e;rw[hsp] at ea hb;dsimp only at ea hb;refine cL (items:=[_,_]) S ar.handled ea rfl rfl fun h S=>?_
 show Wp _ _ _ (assignInOrder [_,_] _) _ _
 ext;refine bl (x := "text") (y := "capitals") ?_;ext;refine ad S (by decide) ?_;intro ta h hta Z Z S1;have hta:=S.new hL hta;have S:=S1;ext;refine ad S (by decide) ?_;intro ca h Z Z Z S;ext;refine bD S ar.handled (S.own _ (.head _)) rfl fun h S=>⟨_,_,rfl,?_⟩;have S:=Fs.front1 S.drop;ext;have hpl:(ae xs).length<=xs.length:=List.length_filter_le _ _;refine a49 ar.handled S hb fun it h S src=>?_;refine aS (src _ _) S (fun i vs l=>dU fun its k cits k2 o1=>bK (vs=[some (.bytes b t),some (.ref nx),some (.bytes b' t'),some (.int (bX xs).out.length u),some (.ref ta),some (.ref ca),o1,none,none,none,none,none]) (l=[(ta,listOf (List.toArray its) k),(ca,listOf (List.toArray cits) k2)]) (IntsAre its ((ae xs).take i)) (cits.length=its.length)) ⟨[],_,[],_,none,rfl,rfl,.nil,rfl⟩ ?_ ?_
 ·rintro Z Z i v vs l h own hii ⟨Z,tv,rfl⟩ ⟨its,k,cits,k2,o1,rfl,rfl,q1,q2⟩ S;have hm:=bS hii;have hlt:(ae xs).getD i 0<128:=of_decide_eq_true (List.mem_filter.mp hm).2;have htk:=bH hii;have hq:=q1.length;have:=jL (i:=i) (l:=ae xs);generalize (ae xs).getD i 0=code at hm hlt htk;ext;refine bq S (aq6 S.good ((I.mono In.app).mono S.hs) _ _) ar fun h S Z=>?_;rw[jz hlt];ext;refine aj S .head (di2 hn hpl hq this) ?_;intro Z h S;ext;refine ch S (am4 S.good _ _) ar fun cb h S Z=>?_;ext;refine aj S (.tail .head) (di6 hn hpl q2 hq this) ?_;intro Z h S;ext;exact⟨_,_,⟨_,_,_,_,_,rfl,rfl,by rw[htk]; exact q1.append (.cons _ _ .nil),by simp [q2]⟩,S⟩
 rintro Z Z h ⟨its,k,cits,k2,o1,e1v,e2l,q1,q2⟩ S;refine S.castL e1v e2l ?_;intro Z Z S;rw[jF] at q1;walk_at"s";walk_at"s";refine am8 (x := "code") (y := "index") (z := "bias") ?_;ext;refine am S I (bh (by decide +kernel)) bu (v:=.int 128 579) nA6 rfl ?_;ext;refine am S I (bh (by decide +kernel)) bu (v:=.int 72 578) nA5 rfl ?_;ext;refine bD S ar.handled (S.own _ (.head _)) rfl fun h S=>⟨_,_,_,rfl,?_⟩;have S:=S.drop;walk_at"st";have hnum:=as5 c.w.params;refine br (fun h=>ax9 fun ta its k ca R a0 o1 o2 o3 o4 o5 o6=>bB (IntsAre its xs) (g.objs.size<=ta) (S.like [some (.bytes b t),some (.ref nx),some (.bytes b' t'),some a0,some (.ref ta),some (.ref ca),o1,o2,o3,o4,o5,o6] ((ta,listOf (List.toArray its) k)::R) h)) ?_ ?_
 ·walk_at"s";refine aa2 (fun n h=>ax9 fun(T:List Int) (at':Nat) (code idx bias:Int) (ta ca:Addr) (its cits:List Value) (k k2:Nat) (R:ac)=>fb fun(o1 o2 o3:Option Value) (u t1 t2 t3:Tok)=>dn5 (S.like [some (.bytes b t),some (.ref nx),some (.bytes b' t'),some (.int at' u),some (.ref ta),some (.ref ca),o1,some (.int code t1),some (.int idx t2),some (.int bias t3),o2,o3] ((ta,listOf (List.toArray its) k)::(ca,listOf (List.toArray cits) k2)::R) h) (IntsAre its T) (cits.length=its.length) (g.objs.size<=ta) (T.length<=xs.length) ((ae xs).length<=T.length) (n=xs.length-T.length) (T.length=(ae xs).length->idx=0) (0<=idx) (idx<=T.length) (0<=code) ((code<=44032)/\(av1 xs T (ae xs).length code idx bias ((aR xs).drop at')))) _ ⟨ae xs,(bX xs).out.length,128,0,72,ta,ca,its,cits,k,k2,[],_,_,_,u,_,_,_,S,q1,q2,hta,hpl,Nat.le_refl _,rfl,fun Z=>rfl,Int.le_refl _,by exact z9,by decide,by decide,by rw[hdr]; exact bb8 xs⟩ ?_;rintro _ _ n h ⟨T,at',code,idx,bias,ta,ca,its,cits,k,k2,R,o1,o2,o3,u,t1,t2,t3,(S:Fs _ _ _ _ _ _ _ _ _),q1,q2,hta,hTl,hTp,rfl,hfirst,hi0,hi1,hc0,hc1,hah⟩;have hq:=q1.length
  rcases hah with⟨hrem,hTx⟩|⟨pre,l,r,n,d,D,hrem⟩
  ·ext;refine ab8 hk (z7 hn2) fun Z=>?_;ext;have hat:(aR xs).length<=at':=by
    have:=congrArg List.length hrem;rw[List.length_drop,jO] at this;exact de8 this
   refine BB.neg (jy (cu3 hat)) ?_;ext;exact⟨rfl,ta,its,k,ca,_,_,_,_,_,_,_,_,by rw[<- hTx]; exact q1,hta,S⟩
  ·have hJx:pre.filter (fun x=>decide (x<=n))=pre.filter (fun x=>decide (x<=n)):=rfl;obtain⟨e1,e2,e3,D2⟩:=D.take rfl;have hnm:n∈xs:=by rw[D.txt]; exact jh _ (.head _)
   have hnr:=hT n hnm;have hd0:=D.d0;have hde:=D.eq;have hlenx:T.length<xs.length:=by
    have h1:=congrArg List.length D.tt;have h2:=congrArg List.length D.txt;rw[jl] at h1 h2;have h3:=List.length_filter_le (fun x=>decide (x<=n)) pre;rw[jG,if_neg (by simp)] at h1;have h4:=List.length_filter_le (fun x=>decide (x<n)) l;rw[jA] at h2;exact z78 h1 h2 h3 h4
   generalize (pre.filter fun x=>decide (x<=n)).length=J at e2 e3 D2 hde;have hdb:d<2 ^ 40:=by
    have:n*((T.length:Int)+1)<=44032*61:=Int.mul_le_mul (b89 hnr) (c00 hn hlenx) (d9) (co0);have:0<=code*((T.length:Int)+1):=Int.mul_nonneg hc0 (d9);exact z60 hn hi0 hlenx e3 hde (by assumption) this
   have hat:at'+(bL d bias).length<=(aR xs).length/\0<(bL d bias).length:=by
    have h1:=congrArg List.length hrem;have h2:0<(bL d bias).length:=by
     show 0<(ite _ _ (_::_):List Int).length
     split<;>exact Nat.succ_pos _
    rw[List.length_drop,jl] at h1;exact z54 h1 h2
   ext;refine ab8 hk (z7 hn2) fun Z=>?_;ext;refine BB.pos (jz (c88 hat)) ?_;ext;refine ba S (bs2 S.good (I.mono S.hs) hk (z7 hn2) hd0 hrem) ar fun v h S Z q'=>?_;obtain⟨a,na,td,tat,e,ea'⟩:=q';subst e;refine cL (items:=[_,_]) S ar.handled ea' rfl rfl fun h S=>?_
   show Wp _ _ _ (assignInOrder [_,_] _) _ _
   ext;refine bQ (S.own _ (.head _)) (z84 hn hq hlenx) fun Z=>?_;ext;refine bx S I hnum.2 (by decide +kernel) ?_
   repeat' ((fail_if_success (with_reducible show Wp _ _ _ (eval (.BoolOp _ _ _) _) _ _)); walk_at"s")
   have hbl:b'.size=(ae xs).length:=by rw[<- hb,KBw.ints_length]
   refine c9 (fun v h=>v=.bool (decide (T.length=(ae xs).length))/\S.now h) ?_ ?_
   ·ext;refine BB.dec (fun h1=>?_) fun h1=>?_
    ·ext;refine bQ (S.own _ (.head _)) (z84 hn hq hlenx) fun Z=>?_;ext;refine ab8 hb (cu7 hn hpl) fun Z=>?_;ext;exact⟨congrArg Value.bool (decide_eq_decide.mpr (dd3 hq)),rfl⟩
    ·rw[jy h1];ext;exact⟨by rw[jy (fun q=>h1 (hfirst q))],rfl⟩
   rintro Z Z ⟨rfl,rfl⟩;ext;refine ch S (at8 S.good (I.mono S.hs) _ _ _ _ _ hd0 (z39) (db1 hn hq hlenx)) ar fun tb h S Z=>?_;ext;refine ag3 (fun Z=>?_) (ca8) (ju (Nat.succ_le_of_lt (js (hq▸hlenx) hn)) (by decide));ext;have f1:code+(idx+d).fdiv (its.length+1)=n:=by rw[bT (d9),hq]; exact e1
   have f2:(idx+d).fmod (its.length+1)=J:=by rw[ap9 (d9),hq]; exact e2
   try dsimp +zetaDelta only at S
   rw[f1,f2] at S;rw[f1];refine BB.neg (jy (cy7 hnr)) ?_;ext;refine bq S (ag0 S.good _ _) ar fun h S Z=>?_;rw[show bG n=true by unfold bG ah5 an4; simp; exact z22 hnr];ext;refine aQ S (S.own _ (.tail _ (.head _))) .none (.int _ _) (ca2 hn hq hlenx) ?_;intro r1 h Z Z S;ext;refine ad S (bd (by simp)) ?_;intro r2 h Z Z Z S;refine bj S (S.own _ (.tail _ (.head _))) (S.own _ (.head _)) (by rw[cx,jL,jE]; exact z53 hn hlenx e3) ?_;intro r3 h Z Z S;ext;refine aQ S (S.own (ta,listOf its.toArray k) (by walk_at"mem")) (.int _ _) .none (ca2 hn hq hlenx) ?_;intro r4 h Z Z S;refine bj S (S.own _ (.tail _ (.head _))) (S.own _ (.head _)) (by rw[cx,ad0,jl,jL,jE,List.length_drop]; exact z51 hn hq hlenx) ?_;intro r5 h hr5 Z S5;have hn5:=S.new hL hr5;have S:=S5;ext;refine aQ S (S.own (ca,listOf cits.toArray k2) (by walk_at"mem")) .none (.int _ _) (ca6 hn q2 hq hlenx) ?_;intro r6 h Z Z S;ext;refine af1 hk (z7 hn2) (db8 hat) (dc5 hat) fun Z=>?_;ext;refine ch S (am4 S.good _ _) ar fun cb h S Z=>?_;ext;refine ad S (bd (by simp)) ?_;intro r7 h Z Z Z S;refine bj S (S.own _ (.tail _ (.head _))) (S.own _ (.head _)) (by rw[cx,jL,jE]; exact z53 hn hlenx e3) ?_;intro r8 h Z Z S;ext;refine aQ S (S.own (ca,listOf cits.toArray k2) (by walk_at"mem")) (.int _ _) .none (ca6 hn q2 hq hlenx) ?_;intro r9 h Z Z S;refine bj S (S.own _ (.tail _ (.head _))) (S.own _ (.head _)) (by rw[cx,ad0,jl,jL,jE,List.length_drop]; exact z49 hn q2 hq hlenx) ?_;intro r10 h Z Z S;ext;have S:=Fs.front (a:=[(r10,_),(r9,_),(r8,_),(r7,_),(r6,_)]) S;have hlen2:(T.take J++[n]++T.drop J).length=T.length+1:=by
    rw[jl,jl,jL,List.length_drop,jE]; exact z15
   have hrem2:(aR xs).drop (at'+(bL d bias).length)=dw (ae xs).length (ai2 xs (ae xs).length r (n+1)) n l 0 (cX d (T.length+1) (decide (T.length=(ae xs).length))) (T.length+1):=by
    rw[<- List.drop_drop,hrem,List.drop_left]
   refine⟨_,?_,T.take J++[n]++T.drop J,_,n,J+1,_,r5,r10,_,_,_,_,_,_,_,_,_,_,_,_,S,?_,?_,hn5,?_,?_,rfl,?_,?_,?_,?_,?_,?_⟩
   ·rw[hlen2]; exact z11 hlenx
   ·rw[<- cx T J,<- ad0 T J];exact((bf q1 _ _).append (.cons _ _ .nil)).append (bf q1 _ _)
   ·simp only[jl,cx,ad0,jL,List.length_drop,jE]; exact c65 q2
   ·rw[hlen2]; exact bb2 hlenx
   ·rw[hlen2]; exact eO hTp
   ·rw[hlen2]; exact ct5 hTp
   ·exact d9
   ·rw[hlen2]; exact c78 e3
   ·exact cw6 hnr
   ·exact b89 hnr
   ·rw[hrem2,hq];have:=adv (b0:=(ae xs).length) (b:=cX d (T.length+1) (decide (T.length=(ae xs).length))) r l (pre++[n]) n 0 D2;rw[hlen2] at this;exact this
 ·rintro h ⟨ta,its,k,ca,R,a0,o1,o2,o3,o4,o5,o6,q1,hta,S⟩;unfold Fs.like at S;ext;exact⟨S.kept hL,_,_,ta,_,rfl,S.own _ (.head _),its,k,⟨S.own _ (.tail _ (.head _)),hta⟩,q1⟩
end
end X40
mutual
theorem bl1{g b t xs}:X40.P g b t xs:=c7 (P:=X40.Q) (a:=X40.w) rfl X40.m (g,b,t,xs)
theorem a90{g:Heap}(G:ak c g){b:Array UInt8}{t:Tok}{xs:List Int}(hk:KBw.bInts b=aR xs)(hT:∀ x∈xs,0<=x/\x<44032)(hn:xs.length<=60)(hn2:(aR xs).length<=1000):Ct c 6 (.ref 374) [.bytes b t] g (fun r h'=>∃ ta,r=.ref ta/\LI (Nw g h') ta xs):=by
 refine al G (by k_is) (by k_is) (binds:=[("octets", .bytes b t),("numbers", .none)]) (fun s X=>bZ X rfl (by k_is) rfl (by walk_at"u")) (rest:=[]) (ns:=["octets", "numbers"]) rfl (vs:=[some (.bytes b t),some .none]) rfl (gs:=["decode_annotated"]) (by decide +kernel) ?_;intro A L h ar hL Z Z S Z Z;have up:=fun a=>S.new (a:=a) hL;ext;refine ba S (bl1 S.good hk hT hn hn2) ar fun v h S Z q'=>?_;obtain⟨a,n,ta,ca,e,ea,i⟩:=q';subst e;ext;refine bI (its:=[_,_]) ea (by decide) (by decide) (j:=0) rfl rfl ?_;ext;exact⟨S.kept hL,ta,rfl,i.mono fun a o y=>⟨y.1,up _ y.2⟩⟩
noncomputable def cy(xs:List Int)(tr ol hy jo:Bool):List Str:=cH xs tr ol hy jo true++(if xs.any (fun x=>decide (127<x)) then[] else["ascii"]:List Str)
theorem az3{g:Heap}(G:ak c g){R:RP}(hR:∀ a o,R a o->Hs g a o){x lx fl:Addr}{tr ol hy jo:Bool}(D:aV c R x){xs:List Int}(hx:LI R lx (aF++aR xs))(hT:∀ x∈xs,x∈ah)(hn:xs.length<=30)(hn2:(aR xs).length<=900)(F:b8 R fl tr ol hy jo):Ct c 13 (.ref 471) [.ref lx,.ref x,.ref fl] g (fun r h'=>cP fun a n ta wa=>bK (r=.ref a) (h'.get? a=some { cls:=.type "tuple", data:=.seq #[.ref ta,.ref wa] n }) (LI (Nw g h') ta xs) (LS (Nw g h') wa (cy xs tr ol hy jo))):=by
 have hR':∀ a o,R a o->In (g.hide ag) [] a o:=fun a o y=>Hs.in a o (hR a o y);refine al G (by k_is) (by k_is) (binds:=[("label", .ref lx),("data", .ref x),("flags", .ref fl)]) (fun s X=>jx rfl) (rest:=["shown", "words"]) (ns:=["label", "data", "flags", "shown", "words"]) rfl (vs:=[some (.ref lx),some (.ref x),some (.ref fl),none,none]) rfl (gs:=["decode_label", "bytes", "len", "PREFIX", "idna_label_words", "idna_is_ascii", "BadLabel"]) (by decide +kernel) ?_;intro A L h ar hL Z Z S Z Z;have hin:∀ {fx'} a o,R a o->S.inn fx' a o:=fun a o y=>In.nil a o (hR' a o y);walk_at"s";refine bu3 ?_;ext;obtain⟨pits,pn,pl,pi⟩:=aa6 c.w.params;have hpl:pits.length=4:=pi.length;obtain⟨vs0,n0,ea,hi⟩:=id hx;have hlen:vs0.length=4+(aR xs).length:=by rw[hi.length,jl]; rfl
 have hx0:∀ x∈xs,0<=x/\x<44032:=fun x hx=>let q:=bd5 (hT x hx); ⟨q.1,q.2.1⟩;have up:=fun a=>S.new (a:=a) hL;refine bQ (S.kin _ _ pl) (eN hpl) fun Z=>?_;rw[hpl];ext;refine aQ S (S.at' (hin _ _ ea)) (.int _ _) .none (z76 hn2 hlen) ?_;intro r1 h Z Z S;ext;have hs:=bf hi (some ((4:Nat):Int)) none;rw[ad0 (l:=aF++aR xs),show(4:Nat)=aF.length from rfl,List.drop_left] at hs;refine aw0 S ar.handled (S.own _ (.head _)) hs (bn4 fun x hx=>(hx0 x hx).1) (cs6 hn2) fun b t h hb S=>?_;ext;refine cQ S (a90 S.good hb hx0 (cr3 hn) (b60 hn2)) ar fun ta h Z k i=>?_;obtain⟨tvs,tn,nw,ti⟩:=i;have hnt:=S.new hL nw.2;have S:=S.takeF k nw;ext;refine cQ S (ak3 S.good S.hs (D.mono hin) ⟨tvs,tn,In.here,ti⟩ hT hn (F.mono hin)) ar fun wa h Z k q'=>?_;obtain⟨wvs,wn,ww,wi⟩:=q';have hnw:=S.new hL ww.2;have hw0:wvs.length<=50:=by
  have h1:=wi.length;unfold cH at h1;simp only[jl] at h1;have b9:(w1 xs).length<=1:=by unfold w1; split<;>simp
  have dX:(bP xs hy).length<=1:=by unfold bP; split<;>split<;>simp
  have ap6:(w3 xs).length<=1:=by unfold w3; split<;>simp
  have len4:(w4 xs).length<=1:=by unfold w4; split<;>simp
  have len5:(w5 xs tr ol true).length<=1:=by unfold w5; split<;>simp
  have len6:(w6 xs jo).length<=30:=by
   rw[w6,List.length_map];exact jr (List.length_filter_le _ _) hn
  exact di9 h1 b9 dX ap6 len4 len5 len6
 have S:=S.take k ww.1 ww.2;walk_at"st";have S0:=S;refine br (fun h=>b5 fun its n R=>StrsAre its (cy xs tr ol hy jo)/\S0.lk ((wa,listOf (List.toArray its) n)::R) h) ?_ ?_
 ·ext;refine bq S (ac3 S.good ⟨tvs,tn,S.hs _ _ In.here,ti⟩ (b57 hn)) ar fun h S Z=>?_;ext;refine BB.mk (fun e=>?_) fun e=>?_
  ·ext;exact⟨rfl,wvs,wn,_,by rw[cy,if_pos e,jD]; exact wi,S⟩
  ·ext;refine aj S .head (cs0 hw0) ?_;intro Z h S;ext;exact⟨rfl,_,_,_,by rw[cy,if_neg (by rw[e]; decide)]; exact aL wi (.cons _ _ .nil),S⟩
 rintro h ⟨its,n,R',st,S⟩;unfold Fs.lk at S;ext;exact⟨S.kept hL,_,_,ta,wa,rfl,S.own _ (.head _),⟨tvs,tn,⟨S.at' In.here,hnt⟩,ti⟩,its,n,⟨S.own _ (.tail _ (.head _)),hnw⟩,st⟩
def au3(g h':Heap)(r:Value)(P:Addr->Prop)(ws:List Str):Prop:=cP fun a n ta wa=>bK (r=.ref a) (h'.get? a=some { cls:=.type "tuple", data:=.seq #[.ref ta,.ref wa] n }) (P ta) (LS (Nw g h') wa ws)
theorem bn5{text:List Int}(h:∀ x∈text,0<=x):((aF++aR text).any fun x=>decide (127<x))=false:=by
 rw[List.any_eq_false];intro x hx;have key:x<128:=by
  rcases jg.mp hx with hx|hx
  ·exact(show ∀ x∈aF,x<128 by decide) x hx
  ·rw[av2] at hx
   rcases jg.mp hx with hx|hx
   ·rcases jg.mp hx with hx|hx
    ·exact of_decide_eq_true (List.mem_filter.mp hx).2
    ·split at hx
     ·exact absurd hx jm
     ·rw[je.mp hx]; decide
   ·rcases av8 text x hx with q|q<;>lia
 simp; exact ct7 key
theorem a62{g:Heap}(G:ak c g){R:RP}(hR:∀ a o,R a o->Hs g a o){x lx fl:Addr}{tr ol hy jo:Bool}(D:aV c R x){xs:List Int}(hx:LI R lx (aF++aR xs))(hT:∀ x∈xs,x∈ah)(hn:xs.length<=30)(hn2:(aR xs).length<=900)(F:b8 R fl tr ol hy jo):Ct c 14 (.ref 478) [.ref lx,.ref x,.ref fl] g (fun r h'=>au3 g h' r (fun ta=>LI (Nw g h') ta xs) (cy xs tr ol hy jo)):=by
 have hR':∀ a o,R a o->In (g.hide ag) [] a o:=fun a o y=>Hs.in a o (hR a o y);refine al G (by k_is) (by k_is) (binds:=[("label", .ref lx),("data", .ref x),("flags", .ref fl)]) (fun s X=>jx rfl) (rest:=[]) (ns:=["label", "data", "flags"]) rfl (vs:=[some (.ref lx),some (.ref x),some (.ref fl)]) rfl (gs:=["len", "PREFIX", "idna_label_words", "idna_is_ascii", "idna_opened"]) (by decide +kernel) ?_;intro A L h ar hL Z Z S Z Z;have hin:∀ {fx'} a o,R a o->S.inn fx' a o:=fun a o y=>In.nil a o (hR' a o y);obtain⟨pits,pn,pl,pi⟩:=aa6 c.w.params;have hpl:pits.length=4:=pi.length;obtain⟨vs0,n0,ea,hi⟩:=id hx;have hlen:vs0.length=4+(aR xs).length:=by rw[hi.length,jl]; rfl
 have hx0:∀ x∈xs,0<=x:=fun x hx=>(bd5 (hT x hx)).1;have up:=fun a=>S.new (a:=a) hL;ext;refine bQ (S.kin _ _ pl) (eN hpl) fun Z=>?_;rw[hpl];ext;refine aQ S (S.at' (hin _ _ ea)) .none (.int _ _) (z76 hn2 hlen) ?_;intro r1 h Z Z S;ext;have hs:=bf hi none (some ((4:Nat):Int));rw[cx (l:=aF++aR xs),show(4:Nat)=aF.length from rfl,List.take_left] at hs;refine dy ar (S.own _ (.head _)) (S.kin _ _ pl) hs pi ?_;rw[jz rfl];have S:=S.drop;ext;refine bq S (ac3 S.good ((hx.mono hin).mono S.hs) (by rw[jl]; show 4+_<=_; exact b72 hn2)) ar fun h S Z=>?_;rw[bn5 hx0];ext;have up2:=fun a=>S.new (a:=a) hL;refine ba S (az3 S.good (fun a o y=>S.hs a o (hin a o y)) D hx hT hn hn2 F) ar fun v h S Z q'=>?_;obtain⟨a,n,ta,wa,e,ea',i1,i2⟩:=q';subst e;ext;exact⟨S.kept hL,a,n,ta,wa,rfl,ea',i1.mono fun a o y=>⟨y.1,up2 _ y.2⟩,i2.mono fun a o y=>⟨y.1,up2 _ y.2⟩⟩
theorem aw8{g:Heap}(G:ak c g){R:RP}(hR:∀ a o,R a o->Hs g a o){x lx fl:Addr}{tr ol hy jo:Bool}(D:aV c R x){xs:List Int}(hx:LI R lx xs)(hT:∀ x∈xs,x∈ah)(hn:xs.length<=30)(hne:xs.take 4≠aF)(F:b8 R fl tr ol hy jo):Ct c 14 (.ref 478) [.ref lx,.ref x,.ref fl] g (fun r h'=>au3 g h' r (fun ta=>ta=lx) (cH xs tr ol hy jo false)):=by
 have hR':∀ a o,R a o->In (g.hide ag) [] a o:=fun a o y=>Hs.in a o (hR a o y);refine al G (by k_is) (by k_is) (binds:=[("label", .ref lx),("data", .ref x),("flags", .ref fl)]) (fun s X=>jx rfl) (rest:=[]) (ns:=["label", "data", "flags"]) rfl (vs:=[some (.ref lx),some (.ref x),some (.ref fl)]) rfl (gs:=["len", "PREFIX", "idna_label_words", "idna_is_ascii", "idna_opened"]) (by decide +kernel) ?_;intro A L h ar hL Z Z S Z Z;have hin:∀ {fx'} a o,R a o->S.inn fx' a o:=fun a o y=>In.nil a o (hR' a o y);obtain⟨pits,pn,pl,pi⟩:=aa6 c.w.params;have hpl:pits.length=4:=pi.length;obtain⟨vs0,n0,ea,hi⟩:=id hx;have hlen:vs0.length=xs.length:=hi.length;ext;refine bQ (S.kin _ _ pl) (eN hpl) fun Z=>?_;rw[hpl];ext;refine aQ S (S.at' (hin _ _ ea)) .none (.int _ _) (z6 hn hlen) ?_;intro r1 h Z Z S;ext;have hs:=bf hi none (some ((4:Nat):Int));rw[cx (l:=xs)] at hs;refine dy ar (S.own _ (.head _)) (S.kin _ _ pl) hs pi ?_;rw[jy hne];have S:=S.drop;ext;have up2:=fun a=>S.new (a:=a) hL;refine cQ S (ak3 S.good (fun a o y=>S.hs a o (hin a o y)) D hx hT hn F) ar fun wa h Z k q'=>?_;obtain⟨ws,wn,ww,wi⟩:=q';have S:=S.takeF k ww;ext;exact⟨S.kept hL,_,_,lx,wa,rfl,S.own _ (.head _),rfl,ws,wn,⟨S.at' In.here,up2 _ ww.2⟩,wi⟩
theorem a04{g:Heap}(G:ak c g){R:RP}(hR:∀ a o,R a o->Hs g a o){lx:Addr}{x fl:Value}{xs:List Int}(hx:LI R lx xs)(hn:xs.length<=30)(hne:xs.take 4=aF)(hw:(xs.any fun x=>decide (127<x))=true):Ct c 14 (.ref 478) [.ref lx,x,fl] g (fun r h'=>au3 g h' r (fun ta=>ta=lx) ["punycode"]):=by
 have hR':∀ a o,R a o->In (g.hide ag) [] a o:=fun a o y=>Hs.in a o (hR a o y);refine al G (by k_is) (by k_is) (binds:=[("label", .ref lx),("data", x),("flags", fl)]) (fun s X=>jx rfl) (rest:=[]) (ns:=["label", "data", "flags"]) rfl (vs:=[some (.ref lx),some x,some fl]) rfl (gs:=["len", "PREFIX", "idna_label_words", "idna_is_ascii", "idna_opened"]) (by decide +kernel) ?_;intro A L h ar hL Z Z S Z Z;have hin:∀ {fx'} a o,R a o->S.inn fx' a o:=fun a o y=>In.nil a o (hR' a o y);obtain⟨pits,pn,pl,pi⟩:=aa6 c.w.params;have hpl:pits.length=4:=pi.length;obtain⟨vs0,n0,ea,hi⟩:=id hx;have hlen:vs0.length=xs.length:=hi.length;ext;refine bQ (S.kin _ _ pl) (eN hpl) fun Z=>?_;rw[hpl];ext;refine aQ S (S.at' (hin _ _ ea)) .none (.int _ _) (z6 hn hlen) ?_;intro r1 h Z Z S;ext;have hs:=bf hi none (some ((4:Nat):Int));rw[cx (l:=xs),hne] at hs;refine dy ar (S.own _ (.head _)) (S.kin _ _ pl) hs pi ?_;rw[jz rfl];have S:=S.drop;ext;refine bq S (ac3 S.good ((hx.mono hin).mono S.hs) (b57 hn)) ar fun h S Z=>?_;rw[hw];ext;refine ad S (bd (by simp)) ?_;intro wa h hwn Z Z S1;have hwn:=S.new hL hwn;have S:=S1;ext;exact⟨S.kept hL,_,_,lx,wa,rfl,S.own _ (.head _),rfl,[_],_,⟨S.own _ (.tail _ (.head _)),hwn⟩,.cons _ _ .nil⟩
theorem aq5{g:Heap}(G:ak c g){lx:Addr}{xs:List Int}(hx:LI (Hs g) lx xs)(hn:xs.length<=1000)(ha:(xs.any fun x=>decide (127<x))=false):Ct c 8 (.ref 499) [.ref lx] g (fun r h'=>au3 g h' r (fun ta=>ta=lx) []):=by
 refine al G (by k_is) (by k_is) (binds:=[("label", .ref lx)]) (fun s X=>jx rfl) (rest:=[]) (ns:=["label"]) rfl (vs:=[some (.ref lx)]) rfl (gs:=["idna_is_ascii", "PREFIX", "list", "encode_label", "BadLabel"]) (by decide +kernel) ?_;intro A L h ar hL Z Z S Z Z;ext;refine bq S (ac3 S.good (hx.mono fun a o y=>S.hs a o (Hs.in a o y)) (b56 hn)) ar fun h S Z=>?_;rw[ha];ext;refine ad S (by decide) ?_;intro wa h hwn Z Z S1;have hwn:=S.new hL hwn;have S:=S1;ext;exact⟨S.kept hL,_,_,lx,wa,rfl,S.own _ (.head _),rfl,[],_,⟨S.own _ (.tail _ (.head _)),hwn⟩,.nil⟩
theorem aw7{g:Heap}(G:ak c g){lx:Addr}{xs:List Int}(hx:LI (Hs g) lx xs)(hT:∀ x∈xs,0<=x/\x<44032)(hn:xs.length<=60)(hn2:(aR xs).length<=900000)(ha:(xs.any fun x=>decide (127<x))=true):Ct c 8 (.ref 499) [.ref lx] g (fun r h'=>au3 g h' r (fun ta=>LI (Nw g h') ta (aF++aR xs)) []):=by
 refine al G (by k_is) (by k_is) (binds:=[("label", .ref lx)]) (fun s X=>jx rfl) (rest:=[]) (ns:=["label"]) rfl (vs:=[some (.ref lx)]) rfl (gs:=["idna_is_ascii", "PREFIX", "list", "encode_label", "BadLabel"]) (by decide +kernel) ?_;intro A L h ar hL Z Z S Z Z;obtain⟨pits,pn,pl,pi⟩:=aa6 c.w.params;have hpl:pits.length=4:=pi.length;ext;refine bq S (ac3 S.good (hx.mono fun a o y=>S.hs a o (Hs.in a o y)) (cr2 hn)) ar fun h S Z=>?_;rw[ha];ext;refine bu3 ?_;ext;refine ba S (bl0 S.good (hx.mono fun a o y=>S.hs a o (Hs.in a o y)) hT hn) ar fun v h S Z q'=>?_;obtain⟨b,t,e,hb⟩:=q';subst e;ext;refine by0 S ar.handled hb (cs5 hn2) ?_;intro r its m h Z hi Z S;have hil:=hi.length;refine bj S (S.kin _ _ pl) (S.own _ (.head _)) (c38 hn2 hpl hil) ?_;intro ra h hra Z S1;have hra:=S.new hL hra;have S:=S1;ext;refine ad S (by decide) ?_;intro wa h hwn Z Z S1;have hwn:=S.new hL hwn;have S:=S1;ext;exact⟨S.kept hL,_,_,ra,wa,rfl,S.own _ (.head _),⟨_,_,⟨S.own _ (.tail _ (.tail _ (.head _))),hra⟩,pi.append hi⟩,[],_,⟨S.own _ (.tail _ (.head _)),hwn⟩,.nil⟩
inductive bW(R:RP):List Value->List (List Int)->Prop
 | nil:bW R [] []
 | cons {p:Addr} {xs:List Int} {vs:List Value} {xss:List (List Int)}:LI R p xs->bW R vs xss->bW R (.ref p::vs) (xs::xss)
theorem bW.mono{R R':RP}(k:∀ a o,R a o->R' a o){vs xss}(x:bW R vs xss):bW R' vs xss:=by
 induction x with
 | nil=>exact .nil
 | cons a _ ih=>exact .cons (a.mono k) ih
theorem bW.length{R:RP}{vs xss}(x:bW R vs xss):vs.length=xss.length:=by
 induction x with
 | nil=>rfl
 | cons _ _ ih=>exact congrArg (·+1) ih
theorem bW.at{R:RP}{vs:List Value}{xss:List (List Int)}(x:bW R vs xss):∀ {i:Nat},i<xss.length->∃ p,vs[i]?=some (.ref p)/\LI R p (xss.getD i []):=by
 induction x with
 | nil=>intro i h; exact absurd h (Nat.not_lt_zero _)
 | cons a _ ih =>
  intro i h
  cases i with
  | zero=>exact⟨_,rfl,a⟩
  | succ i=>exact ih (Nat.lt_of_succ_lt_succ h)
noncomputable def bV:List (List Int)->List Int
 | []=>[]
 | x::r=>x++r.flatMap fun y=>46::y
theorem bd7(xss:List (List Int)){i:Nat}(hi:i<xss.length):bV (xss.take (i+1))=bV (xss.take i)++((if 0<i then[46] else[])++xss.getD i []):=by
 have htk:xss.take (i+1)=xss.take i++[xss.getD i []]:=by rw[List.take_add_one,jj hi,jk,jj hi]; rfl
 rw[htk]
 cases i with
 | zero=>simp [bV]
 | succ i =>
  cases xss with
  | nil=>simp at hi
  | cons x r =>
   rw[List.take_succ_cons,List.cons_append,bV,bV,List.flatMap_append,if_pos (b39)]
   simp
theorem bi9(xss:List (List Int)):(bV xss).length<=(xss.map fun x=>x.length+1).sum:=by
 cases xss with
 | nil=>simp [bV]
 | cons x r =>
  rw[bV,jl,List.length_flatMap,List.map_cons,List.sum_cons];simp only[jA];exact cp8
theorem am3{g:Heap}(G:ak c g){R:RP}(hR:∀ a o,R a o->Hs g a o){lx:Addr}{its:List Value}{n:Nat}{xss:List (List Int)}(hx:R lx (listOf its.toArray n))(hl:bW R its xss)(hn:xss.length<=100)(hz:∀ xs∈xss,xs.length<=1000):Ct c 2 (.ref 492) [.ref lx] g (fun r h'=>∃ a,r=.ref a/\LI (Nw g h') a (bV xss)):=by
 have hR':∀ a o,R a o->In (g.hide ag) [] a o:=fun a o y=>Hs.in a o (hR a o y);refine al G (by k_is) (by k_is) (binds:=[("labels", .ref lx)]) (fun s X=>jx rfl) (rest:=["found", "number", "label"]) (ns:=["labels", "found", "number", "label"]) rfl (vs:=[some (.ref lx),none,none,none]) rfl (gs:=["enumerate", "STOP"]) (by decide +kernel) ?_;intro A L h ar hL Z Z S Z Z;have hin:∀ {fx'} a o,R a o->S.inn fx' a o:=fun a o y=>In.nil a o (hR' a o y);have hlen:=hl.length;ext;refine ad S (by decide) ?_;intro fa h hf Z Z S1;have hf:=S.new hL hf;have S:=S1;ext;refine al3 S ar.handled (hin _ _ hx) fun e h S src=>?_;refine ah4 (src [] 0 ⟨0,0,0,0⟩) ?_;refine aS (src _ _ _) S (fun i vs l=>dU fun fs k R o1 o2=>bK (vs=[some (.ref lx),some (.ref fa),o1,o2]) (l=(fa,listOf (List.toArray fs) k)::R) (IntsAre fs (bV (xss.take i))) ((bV (xss.take i)).length<=1001*i)) ⟨[],_,[],none,none,rfl,rfl,.nil,by simp [bV]⟩ ?_ ?_
 ·rintro Z Z i v vs l h own hii ⟨T0,x0,y0,rfl,⟨⟨ti,rfl⟩,hy⟩,ht⟩ ⟨fs,k,R',o1,o2,rfl,rfl,q1,q2⟩ S;have hix:i<xss.length:=by exact z0 hlen hii
  obtain⟨p,ep,lvs,ln,el,il⟩:=hl.at hix;rw[ep] at hy
  cases hy
  have hzl:(xss.getD i []).length<=1000:=hz _ (by rw[jk,jj hix]; exact List.getElem_mem _);have hjt:=bd7 xss hix;have hq:=q1.length;have hil:=il.length;refine ah7 (items:=[_,_]) S ar.handled ht rfl rfl fun h S=>?_
  show Wp _ _ _ (assignInOrder [_,_] _) _ _
  ext;have S0:=S;refine c9 (fun v h=>b5 fun q sv k2=>bB (v=.ref q) (IntsAre sv (if 0<i then[46] else[])) (S0.lk ((q,listOf (List.toArray sv) k2)::(fa,listOf fs.toArray k)::R') h)) ?_ ?_
  ·walk_at"s";refine aJ ?_;ext;refine BB.dec (fun h1=>?_) fun h1=>?_
   ·ext;refine ad S (bd (by simp)) ?_;intro q h Z Z Z S;ext;exact⟨q,_,_,rfl,by rw[if_pos (cx8 h1)]; exact .cons _ _ .nil,S⟩
   ·ext;refine ad S (by decide) ?_;intro q h Z Z Z S;ext;exact⟨q,[],_,rfl,by rw[if_neg (cy1 h1)]; exact .nil,S⟩
  rintro Z h ⟨q,sv,k2,rfl,hsv,S⟩;unfold Fs.lk at S;have hsl:=hsv.length;have hsl2:sv.length<=1:=by rw[hsl]; split<;>simp
  ext;refine bj S (S.own _ (.head _)) (S.at' (hin _ _ el)) (c89 hzl hil hsl2) ?_;intro r h Z Z S;ext;have S:=Fs.front2 S;refine aa9 S (S.own _ (.tail _ (.head _))) (by rw[jl]; exact dj2 hn hlen hii q2 hzl hq hil hsl2) ?_;intro k' h Z S;ext;refine⟨_,_,⟨_,k',_,_,_,rfl,rfl,by rw[hjt]; exact q1.append (hsv.append il),?_⟩,S⟩;rw[hjt,jl,jl];exact di8 q2 hzl hsl hsl2
 ·rintro Z Z h ⟨fs,k,R',o1,o2,e1v,e2l,q1,q2⟩ S;refine S.castL e1v e2l ?_;intro Z Z S;rw[hlen,jF] at q1;ext;exact⟨S.kept hL,fa,rfl,fs,k,⟨S.own _ (.head _),hf⟩,q1⟩
noncomputable def cF(F:List Str)(w:Str):List Str:=if F.getLast?=some w then F else F++[w]
noncomputable def dY(ss:List Str):List Str:=ss.foldl cF []
theorem bw6{vs:List Value}{ys:List Str}(x:StrsAre vs ys):∀ {i:Nat},i<ys.length->∃ t,vs[i]?=some (.str (ys.getD i "") t):=by
 induction x with
 | nil=>intro i h; exact absurd h (Nat.not_lt_zero _)
 | cons y t _ ih =>
  intro i h
  cases i with
  | zero=>exact⟨t,rfl⟩
  | succ i=>exact ih (Nat.lt_of_succ_lt_succ h)
theorem bj7(ss:List Str){i:Nat}(hi:i<ss.length):dY (ss.take (i+1))=cF (dY (ss.take i)) (ss.getD i ""):=by
 rw[dY,List.take_add_one,jj hi,jk,jj hi,List.foldl_append]
 rfl
theorem ay9(F:List Str)(w:Str):(cF F w).length<=F.length+1:=by unfold cF; split<;>simp
theorem bw4{ws:List Str}(h:PyData.layable0 (.list (ws.map .str))=true):∀ x∈ws,PyData.strOk x=true:=by
 have h1:PyData.canLay0 (.list (ws.map .str))=true:=(Bool.and_eq_true_iff.mp (Bool.and_eq_true_iff.mp h).1).1;simp only[PyData.canLay0] at h1;clear h
 induction ws with
 | nil=>intro x hx; cases hx
 | cons y r ih =>
  simp only[List.map_cons,PyData.canLayAll0,PyData.canLay0,jC] at h1;exact af (h1.1) fun x hx=>ih h1.2 x hx
theorem be3{g:Heap}(G:ak c g){lx:Addr}{ws:List Str}(hx:LS (Hs g) lx ws)(hn:ws.length<60)(hlay:PyData.layable0 (.list (ws.map .str))=true):Ct c 3 (.ref 485) [.ref lx] g (fun r h'=>av fun a ss=>bK (r=.ref a) (ss.Perm ws) (sortedS ss=true) (LS (Nw g h') a (dY ss))):=by
 obtain⟨vs0,n0,ea,hi⟩:=hx.mono Hs.in;refine al G (by k_is) (by k_is) (binds:=[("words", .ref lx)]) (fun s X=>jx rfl) (rest:=["found", "word"]) (ns:=["words", "found", "word"]) rfl (vs:=[some (.ref lx),none,none]) rfl (gs:=["sorted"]) (by decide +kernel) ?_;intro A L h ar hL Z Z S Z Z;have hlen:=hi.length;have hok:=bw4 hlay;ext;refine ad S (by decide) ?_;intro fa h hf Z Z S1;have hf:=S.new hL hf;have S:=S1;ext;refine bi0 S (S.at' ea) hi (c62 hn hlen) hlay ?_;intro r its ss m h Z hss hp hsrt Z S;have S:=S.toFix;have hsl:=hss.length;have hpl:=hp.length_eq;refine bp ar.handled S (.inr (.head _)) fun it h S src=>?_;refine aS (src _ _) S (fun i vs l=>b5 fun fs k o1=>eH (vs=[some (.ref lx),some (.ref fa),o1]) (l=[(fa,listOf (List.toArray fs) k)]) (StrsAre fs (dY (ss.take i))) ((dY (ss.take i)).length<=i) (∀ x∈dY (ss.take i),x∈ws)) ⟨[],_,none,rfl,rfl,.nil,Nat.le_refl _,fun x hx=>absurd hx jm⟩ ?_ ?_
 ·rintro Z Z i v vs l h own hii hv ⟨fs,k,o1,e1v,e2l,q1,q2,q3⟩ S;refine S.castL e1v e2l ?_;intro Z Z S;have hix:i<ss.length:=by exact z0 hsl hii
  obtain⟨t,et⟩:=bw6 hss hix;obtain rfl:=cK hv et;have hdt:=bj7 ss hix;have hdl:=ay9 (dY (ss.take i)) (ss.getD i "");have hw:ss.getD i "" ∈ ws:=hp.mem_iff.mp (by rw[jk,jj hix]; exact List.getElem_mem hix);generalize ss.getD i "" = w at hdt hdl et hw;generalize dY (ss.take i)=F at hdt hdl q1 q2 q3;have hq:=q1.length;ext;refine ad S (by decide) ?_;intro ea h Z Z Z S;refine bi4 ar (S.get1 (.tail _ (.head _))) (S.get1 (.head _)) (aw.strs (R:=Is h) q1 fun x hx=>hok x (q3 x hx)) aw.nil (ab4 F) (by decide) ?_;have S:=S.drop
  change Wp _ _ _ (truthy (.bool (PyData.eqv (.list (F.map .str)) (.list [])))) _ _
  rw[bz7];have hdm:∀ x∈cF F w,x∈ws:=fun x hx=>by
   unfold cF at hx
   split at hx
   ·exact q3 x hx
   ·rcases jg.mp hx with hx|hx
    ·exact q3 x hx
    ·rw[je.mp hx]; exact hw
  refine bg3 ?_
  cases F with
  | nil =>
   show BB true _ _
   ext;refine aj S .head (z67 hn hsl hpl hii q2 hq) ?_;intro Z h S;ext;rw[hdt];exact⟨_,_,⟨_,_,_,rfl,rfl,aL q1 (.cons w t .nil),jr hdl (Nat.succ_le_succ q2),hdm⟩,S⟩
  | cons y ys =>
   obtain⟨z,tz,e1,e2⟩:=bg4 q1 (by simp)
   show BB false _ _
   ext;refine av7 (S.get1 (.head _)) e2 ?_;ext;refine a14 ?_;refine bg3 ?_
   by_cases hzw:z=w
   ·subst hzw;have ed:cF (y::ys) z=y::ys:=by unfold cF; rw[if_pos e1]
    rw[bne_self_eq_false];ext;rw[hdt];exact⟨_,_,⟨_,_,_,rfl,rfl,by rw[ed]; exact q1,jr hdl (Nat.succ_le_succ q2),hdm⟩,S⟩
   ·have ed:cF (y::ys) w=(y::ys)++[w]:=by unfold cF; rw[if_neg (by rw[e1]; simpa using hzw)]
    rw[show(z != w)=true from by simpa using hzw];ext;refine aj S .head (z67 hn hsl hpl hii q2 hq) ?_;intro Z h S;ext;rw[hdt];exact⟨_,_,⟨_,_,_,rfl,rfl,by rw[ed]; exact aL q1 (.cons w t .nil),jr hdl (Nat.succ_le_succ q2),hdm⟩,S⟩
 ·rintro Z Z h ⟨fs,k,o1,e1v,e2l,q1,q2,q3⟩ S;refine S.castL e1v e2l ?_;intro Z Z S;rw[hsl,jF] at q1;ext;exact⟨S.kept hL,fa,ss,rfl,hp,hsrt,fs,k,⟨S.own _ (.head _),hf⟩,q1⟩
noncomputable def cD(xss:List (List Int)):List (List Int):=if 1<xss.length/\xss.getLast?=some [] then xss.dropLast else xss
noncomputable def dz(xs:List Int):List Str:=(if xs=[] then[("empty" : Str)] else[])++if 63<xs.length then[("label-length" : Str)] else[]
noncomputable def ah3(xss:List (List Int)):List Str:=(cD xss).flatMap dz++if 253<(bV (cD xss)).length then[("domain-length" : Str)] else[]
theorem bW.dropLast{R:RP}{vs:List Value}{xss:List (List Int)}(i:bW R vs xss):bW R vs.dropLast xss.dropLast:=by
 induction i with
 | nil=>exact .nil
 | cons a r ih =>
  cases r with
  | nil=>exact .nil
  | cons b r=>exact .cons a ih
theorem a31{α:Type}(l:List α):bY l none (some (-1))=l.dropLast:=by
 unfold bY kms_lo kms_hi;dsimp only;rw[if_pos (by decide),List.drop_zero,List.dropLast_eq_take]
 congr 1
theorem bd4{R:RP}{vs:List Value}{xss:List (List Int)}(l:bW R vs xss)(h:0<xss.length):∃ p,vs.getLast?=some (.ref p)/\LI R p (xss.getLast?.getD []):=by
 obtain⟨p,e,i⟩:=l.at (i:=xss.length-1) (z24 h);have hl:=l.length;refine⟨p,by rw[List.getLast?_eq_getElem?,hl]; exact e,?_⟩;rw[List.getLast?_eq_getElem?,<- jk]; exact i
end
namespace X47
mutual
def P(g:Heap)(R:RP)(lx:Addr)(its:List Value)(n:Nat)(xss:List (List Int)):Prop:=∀ (G:ak c g) (hR:∀ a o,R a o->Hs g a o) (hx:R lx (listOf its.toArray n)) (hl:bW R its xss) (hn:xss.length<=50) (hz:∀ xs∈xss,xs.length<=1000),Ct c 4 (.ref 506) [.ref lx] g (fun r h'=>∃ a,r=.ref a/\LS (Nw g h') a (ah3 xss))
def Q(w:Heap×(RP)×Addr×(List Value)×Nat×(List (List Int))):=P w.1 w.2.1 w.2.2.1 w.2.2.2.1 w.2.2.2.2.1 w.2.2.2.2.2
def w:=@Classical.epsilon _ ⟨(default,fun Z Z=>True,0,[],0,[])⟩ fun w=>¬ Q w
def g:=w.1
def R:=w.2.1
def lx:=w.2.2.1
def its:=w.2.2.2.1
def n:=w.2.2.2.2.1
def xss:=w.2.2.2.2.2
theorem m:P g R lx its n xss:=by
 intro G hR hx hl hn hz;have hR':∀ a o,R a o->In (g.hide ag) [] a o:=fun a o y=>Hs.in a o (hR a o y);refine al G (by k_is) (by k_is) (binds:=[("labels", .ref lx)]) (fun s X=>jx rfl) (rest:=["words", "told", "label"]) (ns:=["labels", "words", "told", "label"]) rfl (vs:=[some (.ref lx),none,none,none]) rfl (gs:=["len", "MOST_LABEL", "MOST_DOMAIN", "idna_joined"]) (by decide +kernel) ?_;intro A L h ar hL Z Z S Z Z;have hlen:=hl.length;ext;refine ad S (by decide) ?_;intro wa h hf Z Z S1;have hf:=S.new hL hf;have S:=S1;walk_at"st";have S0:=S;walk_at"s";walk_at"s";refine c9 (fun v h=>cP fun q ts k2 fx'=>bK (v=.ref q) (bW (In (g.hide ag) fx') ts (cD xss)) (S0.frm fx' [some (.ref lx),some (.ref wa),none,none] [(wa,listOf [].toArray 0)] h) (In (g.hide ag) fx' q (listOf (List.toArray ts) k2))) ?_ ?_
 ·have fin1:cD xss=xss->∀ h,S0.frm [] [some (.ref lx),some (.ref wa),none,none] [(wa,listOf [].toArray 0)] h->cP fun q ts k2 fx'=>bK (Value.ref lx=.ref q) (bW (In (g.hide ag) fx') ts (cD xss)) (S0.frm fx' [some (.ref lx),some (.ref wa),none,none] [(wa,listOf [].toArray 0)] h) (In (g.hide ag) fx' q (listOf (List.toArray ts) k2)):=fun e h S=>⟨lx,its,n,[],rfl,by rw[e]; exact hl.mono hR',S,hR' _ _ hx⟩;walk_at"s";refine aJ ?_;ext;refine bQ (S.at' (hR' _ _ hx)) (ca5 hn hlen) fun t=>?_;ext;refine BB.dec (fun h1=>?_) fun h1=>?_
  ·obtain⟨p,ep,lvs,ln,el,il⟩:=bd4 hl (z40 hlen h1);ext;refine av7 (S.at' (hR' _ _ hx)) ep ?_;ext;refine ad S (by decide) ?_;intro ea h Z Z Z S;refine cE ar (S.at' (hR' _ _ el)) (S.get1 (.head _)) il .nil ?_;have S:=S.drop;ext;refine BB.dec (fun h2=>?_) fun h2=>?_
   ·ext;refine aQ S (S.at' (hR' _ _ hx)) .none (.int _ _) (b76 hn hlen) ?_;intro q h Z Z S;have hne:xss≠[]:=List.ne_nil_of_length_pos (z40 hlen h1);have hrest:cD xss=xss.dropLast:=by
     unfold cD;have h2':xss.getLast?.getD []=[]:=h2;rw[List.getLast?_eq_some_getLast hne] at h2';rw[if_pos ⟨by exact ca1 hlen h1,by rw[List.getLast?_eq_some_getLast hne]; exact congrArg some h2'⟩]
    ext;refine⟨q,bY its none (some (-1)),0,_,rfl,?_,S.toFix,.inr (.head _)⟩;rw[hrest,a31];exact(hl.dropLast.mono hR').mono fun a o y=>In.cons a o y
   ·ext;refine fin1 ?_ _ S;unfold cD;rw[if_neg fun q=>h2 (by rw[q.2]; rfl)]
  ·ext;refine fin1 ?_ _ S;unfold cD; rw[if_neg fun q=>h1 (by rw[hlen]; exact Int.ofNat_lt.mpr q.1)]
 rintro Z h ⟨ta,ts,k2,fx',rfl,hts,S,hta⟩;unfold Fs.frm at S;have htl:=hts.length;have hrl:(cD xss).length<=xss.length:=by unfold cD; split<;>simp
 have hrm:∀ x∈cD xss,x∈xss:=fun x hx=>by
  unfold cD at hx
  split at hx
  ·exact List.dropLast_subset _ hx
  ·exact hx
 generalize hrs:cD xss=rs at hts htl hrl hrm;ext;refine bp ar.handled S hta fun it h S src=>?_;refine aS (src _ _) S (fun i vs l=>cP fun fs k R o1=>bK (vs=[some (.ref lx),some (.ref wa),some (.ref ta),o1]) (l=(wa,listOf (List.toArray fs) k)::R) (StrsAre fs ((rs.take i).flatMap dz)) (((rs.take i).flatMap dz).length<=2*i)) ⟨[],_,[],none,rfl,rfl,.nil,by simp⟩ ?_ ?_
 ·rintro Z Z i v vs l h own hii hv ⟨fs,k,R',o1,e1v,e2l,q1,q2⟩ S;refine S.castL e1v e2l ?_;intro Z Z S;have hix:i<rs.length:=by exact z0 htl hii
  obtain⟨p,ep,lvs,ln,el,il⟩:=hts.at hix;obtain rfl:=cK hv ep;have hzl:(rs.getD i []).length<=1000:=hz _ (hrm _ (by rw[jk,jj hix]; exact List.getElem_mem _));have htk:(rs.take (i+1)).flatMap dz=(rs.take i).flatMap dz++dz (rs.getD i []):=by
   rw[List.take_add_one,jj hix,jk,jj hix,List.flatMap_append]
   simp
  generalize rs.getD i []=xs at il hzl htk;generalize (rs.take i).flatMap dz=F at q1 q2 htk;have hq:=q1.length;have hil:=il.length;walk_at"st";have S0:=S;refine br (fun h=>b5 fun fs k R=>StrsAre fs (F++if xs=[] then[("empty" : Str)] else[])/\S0.lk ((wa,listOf (List.toArray fs) k)::R) h) ?_ ?_
  ·ext;refine ad S (by decide) ?_;intro ea h Z Z Z S;refine cE ar (S.at' (In.app _ _ el)) (S.get1 (.head _)) il .nil ?_;have S:=S.drop;ext;refine BB.dec (fun h2=>?_) fun h2=>?_
   ·ext;refine aj S .head (df2 hn htl hrl hii q2 hq) ?_;intro Z h S;ext;exact⟨rfl,_,_,_,by rw[if_pos h2]; exact aL q1 (.cons _ _ .nil),S⟩
   ·ext;exact⟨rfl,_,_,_,by rw[if_neg h2,jD]; exact q1,S⟩
  rintro h ⟨fs,k,R',q1',S⟩;unfold Fs.lk at S;have hq':=q1'.length;have hf1:fs.length<=2*i+1:=by rw[hq',jl]; exact Nat.add_le_add q2 (by split<;>decide)
  ext;refine bQ (S.at' (In.app _ _ el)) (c57 hzl hil) fun t=>?_;ext;have hlw:(F++dz xs).length<=2*(i+1):=by
   unfold dz;rw[jl,jl];exact Nat.add_le_add q2 (Nat.add_le_add (b:=1) (d:=1) (by split<;>decide) (by split<;>decide))
  refine BB.dec (fun h2=>?_) fun h2=>?_
  ·ext;refine aj S .head (de3 hn htl hrl hii hf1) ?_;intro Z h S;ext;rw[htk];exact⟨_,_,⟨_,_,_,_,rfl,rfl,by unfold dz; rw[if_pos (c44 hil h2:63<xs.length),<- List.append_assoc]; exact aL q1' (.cons _ _ .nil),hlw⟩,S⟩
  ·ext;rw[htk];exact⟨_,_,⟨_,_,_,_,rfl,rfl,by unfold dz; rw[if_neg (c61 hil h2:¬ 63<xs.length),jD]; exact q1',hlw⟩,S⟩
 ·rintro Z Z h ⟨fs,k,R',o1,e1v,e2l,q1,q2⟩ S;refine S.castL e1v e2l ?_;intro Z Z S;rw[htl,jF] at q1 q2;have hq:=q1.length;ext;refine cQ S (am3 S.good (fun a o y=>S.hs a o y) hta hts (cu4 hn hrl) fun x hx=>hz x (hrm x hx)) ar fun ja h Z k q'=>?_;obtain⟨jvs,jn,ej,ij⟩:=q';have S:=S.take k ej.1 ej.2;have hij:=ij.length;have hjl:(bV rs).length<=1001*rs.length:=by
   refine jr (bi9 rs) ?_;have:∀ l:List (List Int),(∀ x∈l,x.length<=1000)->(l.map fun x=>x.length+1).sum<=1001*l.length:=fun l=>by
    induction l with
    | nil=>simp
    | cons x r ih =>
     intro hh;have h1:=hh x (.head _);have h2:=ih fun y hy=>hh y (.tail _ hy);simp only[List.map_cons,List.sum_cons,jA];exact c96 h1 h2
   exact this rs fun x hx=>hz x (hrm x hx)
  ext;refine bQ (S.get1 (.head _)) (de6 hn hrl hij hjl) fun t=>?_;ext;have S:=Fs.front1 S;refine BB.dec (fun h2=>?_) fun h2=>?_
  ·ext;refine aj S .head (c84 hn hrl q2 hq) ?_;intro Z h S;ext;exact⟨S.kept hL,wa,rfl,_,_,⟨S.own _ (.head _),hf⟩,by unfold ah3; rw[hrs,if_pos (by exact c50 hij h2:253<(bV rs).length)]; exact aL q1 (.cons _ _ .nil)⟩
  ·ext;exact⟨S.kept hL,wa,rfl,_,_,⟨S.own _ (.head _),hf⟩,by unfold ah3; rw[hrs,if_neg (by exact c63 hij h2:¬ 253<(bV rs).length),jD]; exact q1⟩
end
end X47
mutual
theorem be7{g R lx its n xss}:X47.P g R lx its n xss:=c7 (P:=X47.Q) (a:=X47.w) rfl X47.m (g,R,lx,its,n,xss)
theorem ay4{α:Type}{lt:α->α->Prop}(tr:∀ {a b d},lt a b->lt b d->lt a d)(ir:∀ a,¬ lt a a){xs:List α}:∀ {ys:List α},xs.Pairwise lt->ys.Pairwise lt->(∀ k,k∈xs↔k∈ys)->xs=ys:=by
 induction xs with
 | nil =>
  intro ys Z Z h
  cases ys with
  | nil=>rfl
  | cons y r=>exact absurd ((h y).mpr (.head _)) jm
 | cons x r ih =>
  intro ys h1 h2 h
  cases ys with
  | nil=>exact absurd ((h x).mp (.head _)) jm
  | cons y r' =>
   obtain⟨a1,a2⟩:=List.pairwise_cons.mp h1;obtain⟨b1,b2⟩:=List.pairwise_cons.mp h2;have e:x=y:=(jf.mp ((h x).mp (.head _))).elim id fun e=>(jf.mp ((h y).mpr (.head _))).elim Eq.symm fun e'=>absurd (tr (a1 y e') (b1 x e)) (ir _);rw[e] at a1 h ⊢;rw[ih a2 b2 fun k=>⟨fun hk=>(jf.mp ((h k).mp (.tail _ hk))).elim (fun e=>absurd (e▸a1 k hk) (ir _)) id,fun hk=>(jf.mp ((h k).mpr (.tail _ hk))).elim (fun e=>absurd (e▸b1 k hk) (ir _)) id⟩]
theorem a84{xs ys:List Int}(h1:xs.Pairwise (·<·))(h2:ys.Pairwise (·<·))(h:∀ k,k∈xs↔k∈ys):xs=ys:=ay4 (lt:=fun a b=>a<b) Int.lt_trans Int.lt_irrefl h1 h2 h
theorem bd1{xs ss:List Int}(hp:ss.Pairwise (·<·))(hm:∀ k,k∈ss↔k∈xs):dP xs 128=ss.filter fun x=>decide (128<=x):=by
 refine a84 (aj0 _ (Nat.le_refl _)) (hp.filter _) fun k=>?_;rw[an3 _ (Nat.le_refl _),List.mem_filter,hm,decide_eq_true_eq]
theorem by1{xs:List Int}{last m:Int}{r:List Int}(h:dP xs last=m::r):m∈aH xs last/\(∀ x∈aH xs last,m<=x)/\dP xs (m+1)=r:=by
 cases e:(aH xs last).min? with
 | none=>rw[an2 (List.min?_eq_none_iff.mp e)] at h; cases h
 | some k =>
  obtain⟨hm,hle⟩:=List.min?_eq_some_iff.mp e;rw[ap4 hm hle] at h
  cases h
  exact⟨hm,hle,rfl⟩
end
namespace X48
mutual
def P(g:Heap)(tx:Addr)(xs:List Int):Prop:=∀ (G:ak c g) (hx:LI (Hs g) tx xs) (hT:∀ x∈xs,0<=x/\x<44032) (hn:xs.length<=60),Ct c 4 (.ref 649) [.ref tx] g (fun r h'=>(aR xs).length<=61+41*xs.length/\∃ a,r=.ref a/\LI (Nw g h') a (aR xs))
def Q(w:Heap×Addr×(List Int)):=P w.1 w.2.1 w.2.2
def w:=@Classical.epsilon _ ⟨(default,0,[])⟩ fun w=>¬ Q w
def g:=w.1
def tx:=w.2.1
def xs:=w.2.2
theorem m:P g tx xs:=by
 intro G hx hT hn;have hx0:=hx;obtain⟨vs0,n0,ea,hi⟩:=hx.mono Hs.in;refine al G (by k_is) (by k_is) (binds:=[("text", .ref tx)]) (fun s X=>jx rfl) (rest:=["plain", "found", "many", "last", "delta", "bias", "code", "one"]) (ns:=["text", "plain", "found", "many", "last", "delta", "bias", "code", "one"]) rfl (vs:=[some (.ref tx),none,none,none,none,none,none,none,none]) rfl (gs:=["len", "sorted", "set", "_law_number", "_law_adapted"]) (by decide +kernel) ?_;intro A L h ar hL Z Z S Z Z;have hlen:vs0.length=xs.length:=hi.length;ext;refine an0 ?_;ext;refine bp ar.handled S ea fun it h S src=>?_;refine ae9 (gs':=[]) (ns':=["code"]) (vf:=fun v=>[some (.ref tx),some v,none,none,none,none,none,none,none]) (src _ _) (bn2 hn hlen) S (by walk_at"u") (by walk_at"u") (by kernel_rfl) (fun i acc l=>l=[]/\IntsAre acc (ae (xs.take i))) ⟨rfl,.nil⟩ ?_ (fun v=>by walk_at"put") ?_
 ·rintro Z Z C g D i v acc k ov l' h' own sb hii hv ⟨rfl,hacc⟩ hal hov S';obtain⟨u0,rfl⟩:=b9 hov;have hix:i<xs.length:=by exact z0 hlen hii
  obtain⟨tv,et⟩:=au hi hix;obtain rfl:=cK hv et;have hpl:ae (xs.take (i+1))=ae (xs.take i)++(if xs.getD i 0<128 then[xs.getD i 0] else[]):=by
   rw[bH hix,ae,jN]
   congr 1
   generalize xs.getD i 0=y;rw[jG,jP]
   by_cases h:y<128
   ·rw[if_pos (jz h),if_pos h]
   ·rw[if_neg (by simpa using h),if_neg h]
  ext;rename Fs ..=>S';refine BB.dec (fun h1=>?_) fun h1=>?_
  ·ext;rw[if_pos h1] at hpl;exact⟨_,_,rfl,⟨rfl,by rw[hpl]; exact hacc.append (.cons _ _ .nil)⟩,S'⟩
  ·rw[if_neg h1,jD] at hpl;ext;exact⟨_,_,rfl,⟨rfl,by rw[hpl]; exact hacc⟩,S'⟩
 rintro D acc k l' h hD ⟨rfl,hacc⟩ hal S;rw[hlen,jF] at hacc;have hpl:(ae xs).length<=xs.length:=List.length_filter_le _ _;have hq:=hacc.length;have S:=S.toFix;walk_at"st";walk_at"s";refine bl (x := "found") (y := "many") ?_;walk_at"s";walk_at"s";walk_at"s";walk_at"s";have S0:=S;refine c9 (fun v h=>b5 fun q sv k2=>bB (v=.ref q) (IntsAre sv (if ae xs=[] then[] else[45])) (S0.lk [(q,listOf (List.toArray sv) k2)] h)) ?_ ?_
 ·walk_at"s";refine aJ ?_;ext;refine ad S (by decide) ?_;intro ea h Z Z Z S;refine dy ar (S.at' In.here) (S.get1 (.head _)) hacc .nil ?_;have S:=S.drop;ext;refine BB.dec (fun h1=>?_) fun h1=>?_
  ·ext;refine ad S (by decide) ?_;intro q h Z Z Z S;ext;exact⟨q,_,_,rfl,by rw[if_pos h1]; exact .nil,S⟩
  ·ext;refine ad S (bd (by simp)) ?_;intro q h Z Z Z S;ext;exact⟨q,_,_,rfl,by rw[if_neg h1]; exact .cons _ _ .nil,S⟩
 rintro Z h ⟨q,sv,k2,rfl,hsv,S⟩;unfold Fs.lk at S;have hsl:sv.length<=1:=by rw[hsv.length]; split<;>simp
 ext;have S1:=S;refine bj S (S.at' In.here) (S.own _ (.head _)) (c74 hn hpl hq hsl) ?_;intro fa h hf Z S;have hfa:=S1.new hL hf;ext;refine bQ (S.at' In.here) (z48 hn hpl hq) fun tm=>?_;ext;refine bD S ar.handled (S.own _ (.head _)) rfl fun h S=>⟨_,_,rfl,?_⟩;have S:=S.drop.drop2;ext;refine cL (items:=[_,_,_]) S ar.handled (S.own _ (.head _)) rfl rfl fun h S=>?_
 show Wp _ _ _ (assignInOrder [_,_,_] _) _ _
 have S:=S.drop;ext;refine cd0 S ar.handled (S.at' (In.cons _ _ ea)) hi (b98 hn hlen) ?_;intro sa so ns_ h hns hso Z S;ext;refine bh8 S ar.handled (S.own _ (.head _)) hso hns ?_;intro ra zs ss rm h hzs hrise hmem Z S;have S:=S.drop2.toFix;have hnss:=bd1 hrise hmem;have hzl:=hzs.length;have hst:(acc++sv).length<=61:=by rw[jl]; exact c64 hn hpl hq hsl
 have q0:IntsAre (acc++sv) (bX xs).out:=hacc.append hsv;refine bp ar.handled S In.here fun it h S src=>?_;refine aS (src _ _) S (fun i vs l=>ay0 fun(last:Int) (st:PS) (its:List Value) (k:Nat) (o1 o2:Option Value) (t1 t2 t3 t4:Tok)=>cf1 (vs=[some (.ref tx),some (.ref D),some (.ref fa),some (.int st.many t1),some (.int last t2),some (.int st.delta t3),some (.int st.bias t4),o1,o2]) (l=[(fa,listOf (List.toArray its) k)]) (IntsAre its st.out) (dP xs last=(ss.drop i).filter (fun x=>decide (128<=x))) (st.many=af0 xs last) (0<=st.delta) (st.delta<=last*61) (0<=last) (last<=44032) (st.out.length<=61+41*st.many) ((eJ xs (ae xs).length (dP xs last) last st).out=aR xs))
  ⟨128,bX xs,_,_,none,none,_,_,_,_,by dsimp +zetaDelta only; rw[hq]; rfl,rfl,q0,by rw[List.drop_zero]; exact hnss,rfl,by simp [bX],by simp [bX],by decide,by decide,?_,rfl⟩ ?_ ?_
 ·show(ae xs++_).length<=61+41*(ae xs).length
  rw[jl]
  split<;>exact bg9 _ (by decide)
 ·rintro Z Z i v vs l h own hii hv ⟨last,st,its,k,o1,o2,t1,t2,t3,t4,e1v,e2l,q1,hns,hmany,hd0,hd1,hc0,hc1,hol,hgo⟩ S;refine S.castL e1v e2l ?_;intro Z Z S;have hix:i<ss.length:=by exact z0 hzl hii
  obtain⟨t,et⟩:=au hzs hix;obtain rfl:=cK hv et;have hdr:ss.drop i=ss.getD i 0::ss.drop (i+1):=by rw[jk,jj hix]; exact List.drop_eq_getElem_cons hix
  rw[hdr,jG] at hns;generalize ss.getD i 0=m at hns;have hbl:=aq9 xs last;ext;refine BB.dec (fun h1=>?_) fun h1=>?_
  ·rw[if_neg (by simp; omega)] at hns;ext;exact⟨_,_,⟨last,st,its,k,_,_,_,_,_,_,rfl,rfl,q1,hns,hmany,hd0,hd1,hc0,hc1,hol,hgo⟩,S⟩
  ·rw[if_pos (by simp; exact cw5 h1)] at hns;obtain⟨hm,hle,hnx⟩:=by1 hns;have hmr:=hT m (bE.mp hm).1;have hcm:=(bE.mp hm).2;have hbn:=at9 hm hle;have hmul:0<=(m-last)*(st.many+1)/\(m-last)*(st.many+1)<=(m-last)*61:=⟨Int.mul_nonneg (eM hcm) (d9),Int.mul_le_mul_of_nonneg_left (c20 hn hmany hbl) (eM hcm)⟩;ext;refine bl (x := "delta") (y := "last") ?_;ext;refine ai8 (fun Z=>?_) (bd3 (ju (Nat.succ_le_succ (jr (hmany▸hbl) hn)) (by decide)));ext;refine bD S ar.handled (S.own _ (.head _)) rfl fun h S=>⟨_,_,rfl,?_⟩;have S:=S.drop;ext;refine bp ar.handled S (In.nil _ _ ea) fun it h S src=>?_;refine aS (src _ _) S (fun i vs l=>fb fun its k o2 t1 t2 t3 t4=>eG (vs=[some (.ref tx),some (.ref D),some (.ref fa),some (.int (bg (xs.take i) m (ae xs).length (bM st last m)).many t1),some (.int m t2),some (.int (bg (xs.take i) m (ae xs).length (bM st last m)).delta t3),some (.int (bg (xs.take i) m (ae xs).length (bM st last m)).bias t4),some (.int m t),o2]) (l=[(fa,listOf (List.toArray its) k)]) (IntsAre its (bg (xs.take i) m (ae xs).length (bM st last m)).out) (0<=(bg (xs.take i) m (ae xs).length (bM st last m)).delta) ((bg (xs.take i) m (ae xs).length (bM st last m)).delta<=m*61+i) ((bg (xs.take i) m (ae xs).length (bM st last m)).out.length<=61+41*(bg (xs.take i) m (ae xs).length (bM st last m)).many)) ⟨its,k,_,_,_,_,_,rfl,rfl,q1,by show 0<=st.delta+_; exact z57 hd0 hmul,by show st.delta+_<=_; exact z41 hd1 hmul,hol⟩ ?_ ?_
   ·rintro Z Z i v vs l h own' hii hv ⟨its,k,o2,t1,t2,t3,t4,e1v,e2l,r1,r2,r3,r4⟩ S;refine S.castL e1v e2l ?_;intro Z Z S;have hix:i<xs.length:=by exact z0 hlen hii
    obtain⟨t,et⟩:=au hi hix;obtain rfl:=cK hv et;have hps:=ar9 xs m (ae xs).length (bM st last m) hix;have hmb:(bg (xs.take i) m (ae xs).length (bM st last m)).many<=120:=by
     rw[ae7];have:=List.count_le_length (a:=m) (l:=xs.take i);rw[jL] at this
     show st.many+_<=_
     exact dj3 hn hmany hbl this
    try dsimp +zetaDelta only at S
    generalize bg (xs.take i) m (ae xs).length (bM st last m)=si at hps hmb r1 r2 r3 r4 S;have q:=r1.length;ext;refine BB.dec (fun h2=>?_) fun h2=>?_
    ·have e:cC m (ae xs).length si (xs.getD i 0)={ si with delta:=si.delta+1 }:=if_pos h2;ext;rw[hps,e];exact⟨_,_,⟨its,k,_,_,_,_,_,rfl,rfl,r1,by show 0<=si.delta+1; exact eB r2,by show si.delta+1<=_; exact z99 r3,r4⟩,S⟩
    ·ext;refine BB.dec (fun h3=>?_) fun h3=>?_
     ·have e:cC m (ae xs).length si (xs.getD i 0)=⟨si.out++bL si.delta si.bias,0,cX si.delta (si.many+1) (decide (si.many=(ae xs).length)),si.many+1⟩:=by rw[cC,if_neg h2,if_pos h3]
      ext;refine cQ S (a06 S.good _ _ _ _ r2 (z32 hn hlen hmr hii r3)) ar fun a h S Z q'=>?_;obtain⟨bs,nb,eb,ib⟩:=q';ext;have hpn:=a35 si.bias 40 si.delta 1 r2 (z32 hn hlen hmr hii r3) (si.delta.toNat+1);have hib:=ib.length;unfold bL at hib;refine aa9 S eb.1 (z55 hmb r4 q hpn hib) ?_;intro k' h Z S;ext;refine bQ (S.at' (In.app _ _ (In.app _ _ (In.cons _ _ In.here)))) (z48 hn hpl hq) fun Z=>?_;ext;refine ch S (ax0 S.good _ _ _ _ _ r2 (z39) (b85 hmb)) ar fun tb h S Z=>?_;walk_at"st";walk_at"s";refine bl (x := "delta") (y := "many") ?_;ext;refine bD S ar.handled (S.own _ (.head _)) rfl fun h S=>⟨_,_,rfl,?_⟩;have S:=S.drop;ext
      try dsimp +zetaDelta only at S
      rw[hq,show decide ((si.many:Int)=((ae xs).length:Int))=decide (si.many=(ae xs).length) from decide_eq_decide.mpr Int.ofNat_inj] at S;rw[hps,e];refine⟨_,_,⟨its++bs,k',_,_,_,_,_,rfl,rfl,r1.append ib,Int.le_refl _,by show(0:Int)<=_; exact z89 r2 r3,?_⟩,S⟩
      show(si.out++bL si.delta si.bias).length<=61+41*(si.many+1)
      rw[jl];unfold bL;exact z80 r4 hpn
     ·have e:cC m (ae xs).length si (xs.getD i 0)=si:=by rw[cC,if_neg h2,if_neg h3]
      ext;rw[hps,e];exact⟨_,_,⟨its,k,_,_,_,_,_,rfl,rfl,r1,r2,by exact ca9 r3,r4⟩,S⟩
   ·rintro Z Z h ⟨its,k,o2,t1,t2,t3,t4,e1v,e2l,r1,r2,r3,r4⟩ S;refine S.castL e1v e2l ?_;intro Z Z S;have etk:xs.take vs0.length=xs:=by rw[hlen,jF]
    try dsimp +zetaDelta only at S
    rw[etk] at r1 r2 r3 r4 S;ext;refine bl (x := "delta") (y := "last") ?_;ext;refine bD S ar.handled (S.own _ (.head _)) rfl fun h S=>⟨_,_,rfl,?_⟩;have S:=S.drop;ext;refine⟨_,_,⟨m+1,bb6 xs (ae xs).length last m st,its,k,_,_,_,_,_,_,rfl,rfl,r1,hnx,?_,?_,?_,by exact b84 hmr,by exact b88 hmr,r4,?_⟩,S⟩
    ·show(bg xs m (ae xs).length (bM st last m)).many=_
     rw[ae7,hbn]
     show st.many+_=_
     rw[hmany]
    ·show 0<=(bg xs m (ae xs).length (bM st last m)).delta+1
     exact eB r2
    ·show(bg xs m (ae xs).length (bM st last m)).delta+1<=_
     exact z71 hn hlen r3
    ·rw[hns] at hgo;rw[hnx];exact hgo
 ·rintro Z Z h ⟨last,st,its,k,o1,o2,t1,t2,t3,t4,e1v,e2l,q1,hns,hmany,hd0,hd1,hc0,hc1,hol,hgo⟩ S;refine S.castL e1v e2l ?_;intro Z Z S;rw[hzl,List.drop_of_length_le (Nat.le_refl _),jP] at hns;rw[hns] at hgo;ext;have hbl:=aq9 xs last;exact⟨S.kept hL,by rw[<- hgo]; show st.out.length<=_; exact dd8 hmany hol hbl,fa,rfl,its,k,⟨S.own _ (.head _),hfa⟩,by rw[<- hgo]; exact q1⟩
end
end X48
mutual
theorem b01{g tx xs}:X48.P g tx xs:=c7 (P:=X48.Q) (a:=X48.w) rfl X48.m (g,tx,xs)
def FB(R:RP)(a:Addr)(tr ol hy jo:Bool):Prop:=∃ n,R a (listOf [Value.bool tr,.bool ol,.bool hy,.bool jo].toArray n)
theorem FB.mono{R R':RP}{a:Addr}{tr ol hy jo:Bool}(i:FB R a tr ol hy jo)(k:∀ a o,R a o->R' a o):FB R' a tr ol hy jo:=by obtain⟨n,e⟩:=i; exact⟨n,k _ _ e⟩
theorem bt7(a b code:Int):([a,b]:List Int).any (·==code)=(decide (code=a) || decide (code=b)):=by
 simp only[List.any_cons,List.any_nil,Bool.or_false]
 congr 1<;>(rw[Bool.eq_iff_iff,beq_iff_eq,decide_eq_true_eq]; exact eq_comm)
theorem bs5{g:Heap}(G:ak c g){fl:Addr}{tr ol hy jo enc:Bool}(F:FB (Hs g) fl tr ol hy jo)(code:Int)(t:Tok):Ct c 1 (.ref 656) [.int code t,.ref fl,.bool enc] g (fun r h'=>r=.bool (b6 tr ol enc code)):=by
 obtain⟨fn,ef⟩:=F.mono Hs.in;refine al G (by k_is) (by k_is) (binds:=[("code", .int code t),("flags", .ref fl),("is_encoded", .bool enc)]) (fun s X=>jx rfl) (rest:=[]) (ns:=["code", "flags", "is_encoded"]) rfl (vs:=[some (.int code t),some (.ref fl),some (.bool enc)]) rfl (gs:=[]) (by decide +kernel) ?_;intro A L h ar hL Z Z S Z Z;ext;refine bc9 (S.own _ (.head _)) (.cons _ _ (.cons _ _ .nil)) ?_;have S:=S.drop;have e1:([223,8205]:List Int).any (·==code)=decide (code=223\/code=8205):=by
  rw[bt7,Bool.decide_or]
 rw[e1];ext;refine BB.dec (fun h1=>?_) fun h1=>?_
 ·have e:b6 tr ol enc code=(enc || !tr):=by unfold b6; rw[if_pos h1]
  cases enc with
  | true =>
   ext;exact⟨S.kept hL,by rw[e]<;>rfl⟩
  | false =>
   ext;refine bk (S.at' ef) (b33) (co8) rfl ?_;ext;exact⟨S.kept hL,by rw[e]<;>rfl⟩
 ·have e:b6 tr ol enc code=(!(decide (code=65) || decide (code=173))&&!(ol&&(decide (code=46) || decide (code=95)))):=by unfold b6; rw[if_neg h1]
  ext;refine bi2 (S.own _ (.head _)) (.cons _ _ (.cons _ _ .nil)) ?_;have S:=S.drop;have e1:([65,173]:List Int).any (·==code)=(decide (code=65) || decide (code=173)):=bt7 _ _ _;rw[e1];generalize (decide (code=65) || decide (code=173))=p1 at e ⊢
  cases p1 with
  | true =>
   ext;exact⟨S.kept hL,by rw[e]<;>rfl⟩
  | false =>
   ext;refine bk (S.at' ef) (cn8) (co4) rfl ?_
   cases ol with
   | false =>
    ext;exact⟨S.kept hL,by rw[e]<;>rfl⟩
   | true =>
    ext;refine bc9 (S.own _ (.head _)) (.cons _ _ (.cons _ _ .nil)) ?_;have S:=S.drop;have e1:([46,95]:List Int).any (·==code)=(decide (code=46) || decide (code=95)):=bt7 _ _ _;rw[e1];ext;exact⟨S.kept hL,by rw[e]<;>rfl⟩
theorem bl7(r:List Int):∀ p:Int,de (some p) r=true↔∃ j:Nat,(p::r)[j]?=some 101/\(p::r)[j+1]?=some 769:=by
 induction r with
 | nil=>exact fun p=>⟨fun h=>absurd h Bool.false_ne_true,fun h=>h.elim fun j h=>absurd h.2 (Option.some_ne_none _).symm⟩
 | cons x r ih =>
  intro p
  show((some p==some 101&&x==769) || de (some x) r)=true↔_
  rw[Bool.or_eq_true,ih x,jC];refine⟨fun h=>h.elim (fun h=>⟨0,beq_iff_eq.mp h.1,congrArg some (beq_iff_eq.mp h.2)⟩) fun h=>h.elim fun j h=>⟨j+1,h.1,h.2⟩,fun h=>?_⟩;obtain⟨j,a,b⟩:=h
  cases j with
  | zero=>exact .inl ⟨beq_iff_eq.mpr a,beq_iff_eq.mpr (Option.some.inj b)⟩
  | succ j=>exact .inr ⟨j,a,b⟩
theorem bl8(xs:List Int):de none xs=true↔∃ j:Nat,xs[j]?=some 101/\xs[j+1]?=some 769:=by
 cases xs with
 | nil=>exact⟨fun h=>absurd h Bool.false_ne_true,fun h=>h.elim fun j h=>absurd h.2 (Option.some_ne_none _).symm⟩
 | cons x r=>exact bl7 r x
theorem bq4(ns:List Str):∀ (vs:LO) (rest:List Str),ns.length=vs.length->bO (ns++rest) (vs++rest.map fun Z=>none)=bO ns vs:=by
 induction ns with
 | nil =>
  intro vs rest h;rw[List.eq_nil_of_length_eq_zero h.symm,List.nil_append,List.nil_append,al4]
  rfl
 | cons n ns ih =>
  intro vs rest h
  cases vs with
  | nil=>cases h
  | cons v vs =>
   funext y
   show(if y=n then v else bO (ns++rest) (vs++rest.map fun Z=>none) y)=(if y=n then v else bO ns vs y)
   rw[ih vs rest (Nat.succ.inj h)]
theorem af4(P:Params):av fun its n=>(Mine.hd.heap_39 P).lookup 616=some (listOf (List.toArray its) n)/\IntsAre its aF:=⟨_,_,by k_is,by repeat constructor⟩
end
namespace X50
mutual
def P(g:Heap)(tx fl:Addr)(xs:List Int):Prop:=∀ (G:ak c g) {tr ol hy jo enc:Bool} (hx:LI (Hs g) tx xs) (hn:xs.length<=30) (F:FB (Hs g) fl tr ol hy jo),Ct c 3 (.ref 661) [.ref tx,.ref fl,.bool enc] g (fun r h'=>∃ a,r=.ref a/\LS (Nw g h') a (cH xs tr ol hy jo enc))
def Q(w:Heap×Addr×Addr×(List Int)):=P w.1 w.2.1 w.2.2.1 w.2.2.2
def w:=@Classical.epsilon _ ⟨(default,0,0,[])⟩ fun w=>¬ Q w
def g:=w.1
def tx:=w.2.1
def fl:=w.2.2.1
def xs:=w.2.2.2
theorem m:P g tx fl xs:=by
 intro G tr ol hy jo enc hx hn F;obtain⟨vs0,n0,ea,hi⟩:=hx.mono Hs.in;obtain⟨fn,ef⟩:=F.mono Hs.in;refine at2 G (by k_is) (by k_is) (binds:=[("label", .ref tx),("flags", .ref fl),("is_encoded", .bool enc)]) (fun s X=>jx rfl) (fun n=>⟨.inl rfl,.inr ⟨rfl,rfl⟩,.inr ⟨rfl,rfl⟩,trivial⟩) (by decide +kernel) (ns:=["label", "found"]) (vs:=[some (.ref tx),none]) (gs:=["zip", "_law_ahead"]) (fun L=>Eq.trans (by walk_at"u") (bq4 ["label"] [some (.ref tx)] ["found"] rfl).symm) (by decide +kernel) ?_;intro A L O cells ar hL hc Z Z S Z Z;obtain⟨o1,o2,rfl,e1,e2⟩:=CellsAre.two (n := "is_encoded") (n' := "flags") (c:=L+1+1) (c':=L+1) hc;have e1':o1.data=.cell (some (.bool enc)):=e1;have e2':o2.data=.cell (some (.ref fl)):=e2;clear e1 e2 hc;have S:=S.toFix.toFix;have hlen:vs0.length=xs.length:=hi.length;walk_at"s";walk_at"s";have S0:=S;refine c9 (fun v h=>b5 fun wa sv k=>bK (v=.ref wa) (g.objs.size<=wa) (StrsAre sv (w1 xs)) (S0.lk [(wa,listOf (List.toArray sv) k)] h)) ?_ ?_
 ·walk_at"s";refine aJ ?_;ext;refine aQ S (S.at' (In.nil _ _ ea)) (.int _ _) .none (z6 hn hlen) ?_;intro r1 h Z Z S;have S:=S.toFix;ext;refine cg4 S ar.handled (In.nil _ _ ea) In.here fun e h S src=>?_;refine ah4 (src [] 0 ⟨0,0,0,0⟩) ?_;have hsl:bY vs0 (some 1) none=vs0.drop 1:=ad0 vs0 1;have hdl:(vs0.drop 1).length=xs.length-1:=by rw[List.length_drop,hlen]
  refine bJ (gs':=[]) (ns':=["one", "other"]) (src _ _ _) (by rw[hsl]; exact z70 hn hdl) S (by walk_at"u") (by walk_at"u") (by kernel_rfl) (fun i acc l=>l=[]/\∃ ys,IntsAre acc ys/\(ys=[]↔∀ j,j<i->¬ (xs[j]?=some 101/\xs[j+1]?=some 769))) ⟨rfl,[],.nil,fun Z j h=>absurd h (Nat.not_lt_zero _),fun Z=>rfl⟩ ?_ ?_
  ·ext;rintro Z Z C g' D i v acc k ov l' h' own sb hii ⟨T0,x0,y0,rfl,⟨hx1,hx2⟩,ht⟩ ⟨rfl,ys,hacc,hys⟩ hal hov S';obtain⟨u0,u1,rfl⟩:=dX hov;rw[hsl] at hx2 hii;have hi1:i<xs.length:=by exact z64 hdl hii
   have hi2:i+1<xs.length:=by exact z17 hdl hii
   obtain⟨t1,et1⟩:=au hi hi1;obtain⟨t2,et2⟩:=au hi hi2;rw[et1] at hx1
   cases hx1
   rw[List.getElem?_drop,Nat.add_comm 1 i,et2] at hx2
   cases hx2
   have hg1:xs[i]?=some (xs.getD i 0):=by rw[jk,jj hi1]; rfl
   have hg2:xs[i+1]?=some (xs.getD (i+1) 0):=by rw[jk,jj hi2]; rfl
   refine ah7 (items:=[_,_]) S' ar.handled ht rfl rfl fun h S'=>?_
   show Wp _ _ _ (assignInOrder [_,_] _) _ _
   ext;rename Fs ..=>S';refine bd0 ar (VI.tup (S'.own _ (.tail _ (.head _))) (by simp) (.cons (.int _ _) (.cons (.int _ _) .nil))) (VI.tup (S'.own _ (.head _)) (by simp) (.cons (.int _ _) (.cons (.int _ _) .nil))) (by simp [PyData.depth,PyData.depthAll]) (by simp [PyData.depth,PyData.depthAll]) ?_;have S':=S'.drop.drop;have ee:PyData.eqv (.tuple [.int (xs.getD i 0),.int (xs.getD (i+1) 0)]) (.tuple [.int 101,.int 769])=decide (xs.getD i 0=101/\xs.getD (i+1) 0=769):=by
    rw[Bool.eq_iff_iff]
    simp [PyData.eqv,PyData.eqvAll]
   rw[ee];ext;refine BB.dec (fun h1=>?_) fun h1=>?_
   ·ext;exact⟨_,_,rfl,⟨rfl,ys++[1],hacc.append (.cons _ _ .nil),by simp,fun hh=>absurd ⟨by rw[hg1,h1.1],by rw[hg2,h1.2]⟩ (hh i (Nat.lt_succ_self _))⟩,S'⟩
   ·ext;refine⟨_,_,rfl,⟨rfl,ys,hacc,fun e j hj q=>?_,fun hh=>hys.mpr fun j hj=>hh j (Nat.lt_succ_of_lt hj)⟩,S'⟩
    rcases Nat.lt_or_eq_of_le (Nat.lt_succ_iff.mp hj) with hj|rfl
    ·exact hys.mp e j hj q
    ·exact h1 ⟨by have:=q.1; rw[hg1] at this; exact Option.some.inj this,by have:=q.2; rw[hg2] at this; exact Option.some.inj this⟩
  ·rintro D acc k l' h hD ⟨rfl,ys,hacc,hys⟩ hal S;have S:=S.unfix;have hmin:min vs0.length (bY vs0 (some 1) none).length=xs.length-1:=by rw[hsl,hdl,hlen]; exact z19
   rw[hmin] at hys;have hadj:ys=[]↔de none xs=false:=by
    rw[hys,<- Bool.not_eq_true,bl8]
    constructor
    ·rintro hh ⟨j,q⟩;have:=(List.getElem?_eq_some_iff.mp q.2).1;exact hh j (dj0 this) q
    ·intro hh j Z q;exact hh ⟨j,q⟩
   ext;refine ad S (by decide) ?_;intro ea h Z Z Z S;refine dy ar (S.own _ (.tail _ (.head _))) (S.own _ (.head _)) hacc .nil ?_;have S:=S.drop.drop;ext;refine BB.dec (fun h1=>?_) fun h1=>?_
   ·ext;refine ad S (by decide) ?_;intro wa h hw Z Z S1;ext;exact⟨wa,[],_,rfl,S.new hL hw,by unfold w1; rw[if_neg (by rw[hadj.mp h1]; decide)]; exact .nil,S1⟩
   ·ext;refine ad S (bd (by simp)) ?_;intro wa h hw Z Z S1;ext;exact⟨wa,[_],_,rfl,S.new hL hw,by unfold w1; rw[if_pos (by cases e:de none xs with|true=>rfl|false=>exact absurd (hadj.mpr e) h1)]; exact .cons _ _ .nil,S1⟩
 rintro Z h ⟨wa,sv,k,rfl,hwa,hsv,S⟩;unfold Fs.lk at S;have hlw:sv.length<=1:=by rw[hsv.length]; unfold w1; split<;>simp
 walk_at"st";have S0:=S;refine br (fun h=>av fun fs k=>bB (StrsAre fs (w1 xs++if hy=true/\(ae6 xs || decide (bY xs (some 2) (some 4)=[45,45]))=true then[("hyphens" : Str)] else[])) (fs.length<=2) (S0.lk [(wa,listOf (List.toArray fs) k)] h)) ?_ ?_
 ·ext;refine bk (S.at' (In.cons _ _ (In.cons _ _ (In.nil _ _ ef)))) (b34) (b42) rfl ?_
  cases hy with
  | false =>
   ext;exact⟨rfl,_,_,by simpa using hsv,by exact b49 hlw,S⟩
  | true =>
   ext;refine aQ S (S.at' (In.cons _ _ (In.cons _ _ (In.nil _ _ ea)))) .none (.int _ _) (z6 hn hlen) ?_;intro r1 h Z Z S;ext;refine ad S (bd (by simp)) ?_;intro r2 h Z Z Z S;refine cE ar (S.own _ (.tail _ (.head _))) (S.own _ (.head _)) (bf hi _ _) (.cons _ _ .nil) ?_;have S:=S.drop.drop;ext;refine BB.mk (fun e1=>?_) fun e1=>?_
   ·ext;refine aj S .head (bm6 hlw) ?_;intro Z h S;ext;exact⟨rfl,_,_,by rw[if_pos ⟨rfl,by rw[ae6,e1]; rfl⟩]; exact aL hsv (.cons _ _ .nil),by simp; omega,S⟩
   ·ext;refine aQ S (S.at' (In.cons _ _ (In.cons _ _ (In.nil _ _ ea)))) (.int _ _) .none (z6 hn hlen) ?_;intro r1 h Z Z S;ext;refine ad S (bd (by simp)) ?_;intro r2 h Z Z Z S;refine cE ar (S.own _ (.tail _ (.head _))) (S.own _ (.head _)) (bf hi _ _) (.cons _ _ .nil) ?_;have S:=S.drop.drop;ext;refine BB.mk (fun e2=>?_) fun e2=>?_
    ·ext;refine aj S .head (bm6 hlw) ?_;intro Z h S;ext;exact⟨rfl,_,_,by rw[if_pos ⟨rfl,by rw[ae6,e1,e2]; rfl⟩]; exact aL hsv (.cons _ _ .nil),by simp; omega,S⟩
    ·ext;refine aQ S (S.at' (In.cons _ _ (In.cons _ _ (In.nil _ _ ea)))) (.int _ _) (.int _ _) (z6 hn hlen) ?_;intro r1 h Z Z S;ext;refine ad S (bd (by simp)) ?_;intro r2 h Z Z Z S;refine cE ar (S.own _ (.tail _ (.head _))) (S.own _ (.head _)) (bf hi _ _) (.cons _ _ (.cons _ _ .nil)) ?_;have S:=S.drop.drop;ext;refine BB.mk (fun e3=>?_) fun e3=>?_
     ·ext;refine aj S .head (bm6 hlw) ?_;intro Z h S;ext;exact⟨rfl,_,_,by rw[if_pos ⟨rfl,by rw[e3,Bool.or_true]⟩]; exact aL hsv (.cons _ _ .nil),by simp; omega,S⟩
     ·ext;exact⟨rfl,_,_,by rw[if_neg (by rw[ae6,e1,e2,e3]; simp),jD]; exact hsv,by exact b49 hlw,S⟩
 rintro h ⟨fs,k,q1,q2,S⟩;unfold Fs.lk at S;have S0:=S;refine br (fun h=>av fun fs k=>bB (StrsAre fs (w1 xs++bP xs hy)) (fs.length<=3) (S0.lk [(wa,listOf (List.toArray fs) k)] h)) ?_ ?_
 ·ext;refine bk (S.at' (In.cons _ _ (In.cons _ _ (In.nil _ _ ef)))) (b34) (b42) rfl ?_
  cases hy with
  | true =>
   ext;exact⟨rfl,_,_,by simpa [bP] using q1,by exact b50 q2,S⟩
  | false =>
   obtain⟨pits,pn,pl,pi⟩:=af4 c.w.params;ext;refine aQ S (S.at' (In.cons _ _ (In.cons _ _ (In.nil _ _ ea)))) .none (.int _ _) (z6 hn hlen) ?_;intro r1 h Z Z S;ext;refine cE ar (S.own _ (.head _)) (S.kin _ _ pl) (bf hi _ _) pi ?_;have S:=S.drop;ext;refine BB.dec (fun h1=>?_) fun h1=>?_
   ·ext;refine aj S .head (bm7 q2) ?_;intro Z h S;ext;exact⟨rfl,_,_,by unfold bP; rw[if_neg (by decide),if_pos h1]; exact aL (by simpa using q1) (.cons _ _ .nil),by simp; omega,S⟩
   ·ext;exact⟨rfl,_,_,by unfold bP; rw[if_neg (by decide),if_neg h1]; simpa using q1,by exact b50 q2,S⟩
 rintro h ⟨fs,k,q1,q2,S⟩;unfold Fs.lk at S;have S0:=S;refine br (fun h=>av fun fs k=>bB (StrsAre fs (w1 xs++bP xs hy++w3 xs)) (fs.length<=4) (S0.lk [(wa,listOf (List.toArray fs) k)] h)) ?_ ?_
 ·ext;refine bp4 (S.at' (In.cons _ _ (In.cons _ _ (In.nil _ _ ea)))) hi ?_;ext;refine BB.mk (fun e1=>?_) fun e1=>?_
  ·ext;refine aj S .head (cr9 q2) ?_;intro Z h S;ext;exact⟨rfl,_,_,by unfold w3; rw[if_pos e1]; exact aL q1 (.cons _ _ .nil),by simp; omega,S⟩
  ·ext;exact⟨rfl,_,_,by unfold w3; rw[if_neg (by rw[e1]; decide),jD]; exact q1,by exact cr8 q2,S⟩
 rintro h ⟨fs,k,q1,q2,S⟩;unfold Fs.lk at S;have S0:=S;refine br (fun h=>av fun fs k=>bB (StrsAre fs (w1 xs++bP xs hy++w3 xs++w4 xs)) (fs.length<=5) (S0.lk [(wa,listOf (List.toArray fs) k)] h)) ?_ ?_
 ·ext;refine aQ S (S.at' (In.cons _ _ (In.cons _ _ (In.nil _ _ ea)))) .none (.int _ _) (z6 hn hlen) ?_;intro r1 h Z Z S;ext;refine ad S (bd (by simp)) ?_;intro r2 h Z Z Z S;refine cE ar (S.own _ (.tail _ (.head _))) (S.own _ (.head _)) (bf hi _ _) (.cons _ _ .nil) ?_;have S:=S.drop.drop;have eh:bY xs none (some 1)=[769]↔xs.head?=some 769:=by
   rw[show bY xs none (some 1)=xs.take 1 from cx xs 1]
   cases xs<;>simp
  ext;refine BB.dec (fun h1=>?_) fun h1=>?_
  ·ext;refine aj S .head (cr7 q2) ?_;intro Z h S;ext;exact⟨rfl,_,_,by unfold w4; rw[if_pos (eh.mp h1)]; exact aL q1 (.cons _ _ .nil),by simp; omega,S⟩
  ·ext;exact⟨rfl,_,_,by unfold w4; rw[if_neg (fun q=>h1 (eh.mpr q)),jD]; exact q1,by exact cr6 q2,S⟩
 rintro h ⟨fs,k,q1,q2,S⟩;unfold Fs.lk at S;have S0:=S;refine br (fun h=>av fun fs k=>bB (StrsAre fs (w1 xs++bP xs hy++w3 xs++w4 xs++w5 xs tr ol enc)) (fs.length<=6) (S0.lk [(wa,listOf (List.toArray fs) k)] h)) ?_ ?_
 ·ext;refine bp ar.handled S (In.cons _ _ (In.cons _ _ (In.nil _ _ ea))) fun it h S src=>?_;refine bJ (gs':=["_law_is_let"]) (ns':=["code"]) (src _ _) (z6 hn hlen) S (by walk_at"u") (by walk_at"u") (by kernel_rfl) (fun i acc l=>l=[(wa,listOf (List.toArray fs) k)]/\∃ ys,IntsAre acc ys/\(ys=[]↔(xs.take i).all (b6 tr ol enc)=true)) ⟨rfl,[],.nil,by simp⟩ ?_ ?_
  ·rintro Z Z C g' D i v acc kk ov l' h' own sb hii hv ⟨rfl,ys,hacc,hys⟩ hal hov S';obtain⟨u0,rfl⟩:=b9 hov;have hix:i<xs.length:=by exact z0 hlen hii
   obtain⟨t1,et1⟩:=au hi hix;obtain rfl:=cK hv et1;have g1:g'.get? (L+1)=some o2:=sb.fx _ (.head _);have g2:g'.get? (L+1+1)=some o1:=sb.fx _ (.tail _ (.head _));have htk:(xs.take (i+1)).all (b6 tr ol enc)=((xs.take i).all (b6 tr ol enc)&&b6 tr ol enc (xs.getD i 0)):=by
    rw[bH hix,List.all_append]; simp
   ext;rename Fs ..=>S';refine bq S' (bs5 S'.good ⟨fn,S'.hs _ _ (sb.in _ _ (In.cons _ _ (In.cons _ _ (In.nil _ _ ef))))⟩ _ _) ar fun h S' Z=>?_;ext;refine BB.mk (fun h1=>?_) fun h1=>?_
   ·ext;refine⟨_,_,rfl,⟨rfl,ys,hacc,?_⟩,S'⟩;rw[htk,h1,Bool.and_true]; exact hys
   ·ext;refine⟨_,_,rfl,⟨rfl,ys++[xs.getD i 0],hacc.append (.cons _ _ .nil),?_⟩,S'⟩;rw[htk,h1,Bool.and_false]; simp
  ·rintro D acc kk l' h hD ⟨rfl,ys,hacc,hys⟩ hal S;rw[hlen,jF] at hys;ext;refine ad S (by decide) ?_;intro ea h Z Z Z S;refine dy ar (S.own _ (.tail _ (.head _))) (S.own _ (.head _)) hacc .nil ?_;have S:=S.drop.drop;ext;refine BB.dec (fun h1=>?_) fun h1=>?_
   ·ext;exact⟨rfl,_,_,by unfold w5; rw[if_pos (hys.mp h1),jD]; exact q1,by exact b59 q2,S⟩
   ·ext;refine aj S .head (cr5 q2) ?_;intro Z h S;ext;exact⟨rfl,_,_,by unfold w5; rw[if_neg (fun q=>h1 (hys.mpr q))]; exact aL q1 (.cons _ _ .nil),by simp; omega,S⟩
 rintro h ⟨fs,k,q1,q2,S⟩;unfold Fs.lk at S;ext;refine bp ar.handled S (In.cons _ _ (In.cons _ _ (In.nil _ _ ea))) fun it h S src=>?_;refine bJ (gs':=[]) (ns':=["code"]) (src _ _) (z6 hn hlen) S (by walk_at"u") (by walk_at"u") (by kernel_rfl) (fun i acc l=>l=[(wa,listOf (List.toArray fs) k)]/\StrsAre acc (w6 (xs.take i) jo)) ⟨rfl,.nil⟩ ?_ ?_
 ·rintro Z Z C g' D i v acc kk ov l' h' own sb hii hv ⟨rfl,hacc⟩ hal hov S';obtain⟨u0,rfl⟩:=b9 hov;have hix:i<xs.length:=by exact z0 hlen hii
  obtain⟨t1,et1⟩:=au hi hix;obtain rfl:=cK hv et1;have g1:g'.get? (L+1)=some o2:=sb.fx _ (.head _);have g2:g'.get? (L+1+1)=some o1:=sb.fx _ (.tail _ (.head _));have htk:w6 (xs.take (i+1)) jo=w6 (xs.take i) jo++w6 [xs.getD i 0] jo:=by
   unfold w6;rw[bH hix,jN,List.map_append]
  ext;rename Fs ..=>S';refine BB.dec (fun h1=>?_) fun h1=>?_
  ·ext;refine bk (S'.at' (sb.in _ _ (In.cons _ _ (In.cons _ _ (In.nil _ _ ef))))) (cn9) (cp1) rfl ?_
   cases jo with
   | true =>
    ext;rw[htk];exact⟨_,_,rfl,⟨rfl,by unfold w6; rw[show[xs.getD i 0].filter (fun x=>decide (x=8205)&&true)=[xs.getD i 0] by rw[h1]; rfl]; exact aL hacc (.cons _ _ .nil)⟩,S'⟩
   | false =>
    ext;rw[htk];exact⟨_,_,rfl,⟨rfl,by rw[show w6 [xs.getD i 0] false=[] by simp [w6],jD]; exact hacc⟩,S'⟩
  ·ext;rw[htk];exact⟨_,_,rfl,⟨rfl,by rw[show w6 [xs.getD i 0] jo=[] by unfold w6; rw[jG,if_neg (by rw[jy h1]; simp)]; rfl,jD]; exact hacc⟩,S'⟩
 ·rintro D acc kk l' h hD ⟨rfl,hacc⟩ hal S;rw[hlen,jF] at hacc;ext;have S1:=S;refine bj S (S.own _ (.tail _ (.head _))) (S.own _ (.head _)) (c80 hn hlen q2 hal) ?_;intro ra h hr Z S;ext;exact⟨S.kept hL,ra,rfl,_,_,⟨S.own _ (.head _),S1.new hL hr⟩,by unfold cH; exact aL q1 hacc⟩
end
end X50
mutual
theorem ao4{g tx fl xs}:X50.P g tx fl xs:=c7 (P:=X50.Q) (a:=X50.w) rfl X50.m (g,tx,fl,xs)
theorem a58:∀ ws:List Str,PyData.eqv (.list (ws.map .str)) (.list (ws.map .str))=true:=fun ws=>by
 simp only[PyData.eqv]
 induction ws with
 | nil=>simp [PyData.eqvAll]
 | cons x r ih=>simp [PyData.eqvAll,PyData.eqv,ih]
theorem bs4{g:Heap}(G:ak c g){fa ta wa ca la:Addr}{n:Nat}{xs:List Int}{ws:List Str}(hf:Hs g fa { cls:=.type "tuple", data:=.seq #[.ref ta,.ref wa] n }) (h1:LI (Hs g) ta xs) (h2:LS (Hs g) wa ws) (h3:LI (Hs g) ca xs) (h4:LS (Hs g) la ws) (hn:xs.length<=1000) (hw:ws.length<=1000) (hok:∀ w∈ws,PyData.strOk w=true) :
  Ct c 2 (.ref 668) [.ref fa,.ref ca,.ref la] g (fun r h'=>r=.bool true):=by
 have hf:=Hs.in _ _ hf;obtain⟨v1,n1,a1,i1⟩:=h1.mono Hs.in;obtain⟨v2,n2,a2,i2⟩:=h2.mono Hs.in;obtain⟨v3,n3,a3,i3⟩:=h3.mono Hs.in;obtain⟨v4,n4,a4,i4⟩:=h4.mono Hs.in;refine al G (by k_is) (by k_is) (binds:=[("found", .ref fa),("codes", .ref ca),("told", .ref la)]) (fun s X=>jx rfl) (rest:=[]) (ns:=["found", "codes", "told"]) rfl (vs:=[some (.ref fa),some (.ref ca),some (.ref la)]) rfl (gs:=["list"]) (by decide +kernel) ?_;intro A L h ar hL Z Z S Z Z;have l1:=i1.length;have l2:=i2.length;ext;refine bI (its:=[_,_]) (S.at' hf) (by decide) (by decide) (j:=0) rfl rfl ?_;ext;refine af7 S (S.at' a1) (eI hn l1) ?_;intro r1 m1 h Z Z S;ext;refine cE ar (S.own _ (.head _)) (S.at' a3) i1 i3 ?_;rw[jz rfl];have S:=S.drop;ext;refine bI (its:=[_,_]) (S.at' hf) (by decide) (by decide) (j:=1) rfl rfl ?_;ext;refine af7 S (S.at' a2) (eI hw l2) ?_;intro r2 m2 h Z Z S;ext;refine bi4 ar (S.own _ (.head _)) (S.at' a4) (aw.strs (R:=Is h) i2 hok) (aw.strs (R:=Is h) i4 hok) (ab4 ws) (ab4 ws) ?_;have S:=S.drop;rw[a58];ext;exact⟨S.kept hL,rfl⟩
noncomputable def bF(xs:List Int):List Int:=if 1<xs.length/\xs.getLast?=some 0 then xs.dropLast else xs
noncomputable def cj(x:Int):List Str:=if x=0 then[("empty" : Str)] else if 63<x then[("label-length" : Str)] else[]
noncomputable def ag4(xs:List Int):List Str:=(bF xs).flatMap cj++if 253<(bF xs).sum+(bF xs).length-1 then[("domain-length" : Str)] else[]
theorem ak2{vs:List Value}{xs:List Int}(i:IntsAre vs xs):IntsAre vs.dropLast xs.dropLast:=by
 induction i with
 | nil=>exact .nil
 | cons n t r ih =>
  cases r with
  | nil=>exact .nil
  | cons m u r=>exact .cons n t ih
theorem ay7{vs:List Value}{xs:List Int}(l:IntsAre vs xs)(h:0<xs.length):∃ t,vs.getLast?=some (.int (xs.getLast?.getD 0) t):=by
 obtain⟨t,e⟩:=au l (k:=xs.length-1) (z24 h);have hl:=l.length;refine⟨t,?_⟩;rw[List.getLast?_eq_getElem?,List.getLast?_eq_getElem?,hl,<- jk]; exact e
end
namespace X51
mutual
def P(g:Heap)(tx:Addr)(xs:List Int):Prop:=∀ (G:ak c g) (hx:LI (Hs g) tx xs) (hn:xs.length<=50) (hz:∀ x∈xs,0<=x/\x<=1000),Ct c 2 (.ref 675) [.ref tx] g (fun r h'=>∃ a,r=.ref a/\LS (Nw g h') a (ag4 xs))
def Q(w:Heap×Addr×(List Int)):=P w.1 w.2.1 w.2.2
def w:=@Classical.epsilon _ ⟨(default,0,[])⟩ fun w=>¬ Q w
def g:=w.1
def tx:=w.2.1
def xs:=w.2.2
theorem m:P g tx xs:=by
 intro G hx hn hz;obtain⟨vs0,n0,ea,hi⟩:=hx.mono Hs.in;refine al G (by k_is) (by k_is) (binds:=[("sizes", .ref tx)]) (fun s X=>jx rfl) (rest:=["rest", "found", "size"]) (ns:=["sizes", "rest", "found", "size"]) rfl (vs:=[some (.ref tx),none,none,none]) rfl (gs:=["len", "sum"]) (by decide +kernel) ?_;intro A L h ar hL Z Z S Z Z;have hlen:=hi.length;walk_at"s";walk_at"s";have S0:=S;refine c9 (fun v h=>cP fun q ts k2 fx'=>bK (v=.ref q) (IntsAre ts (bF xs)) (S0.frm fx' [some (.ref tx),none,none,none] [] h) (In (g.hide ag) fx' q (listOf (List.toArray ts) k2))) ?_ ?_
 ·have fin1:bF xs=xs->∀ h,S0.frm [] [some (.ref tx),none,none,none] [] h->cP fun q ts k2 fx'=>bK (Value.ref tx=.ref q) (IntsAre ts (bF xs)) (S0.frm fx' [some (.ref tx),none,none,none] [] h) (In (g.hide ag) fx' q (listOf (List.toArray ts) k2)):=fun e h S=>⟨tx,vs0,n0,[],rfl,by rw[e]; exact hi,S,ea⟩;walk_at"s";refine aJ ?_;ext;refine bQ (S.at' ea) (ca5 hn hlen) fun t=>?_;ext;refine BB.dec (fun h1=>?_) fun h1=>?_
  ·obtain⟨tp,ep⟩:=ay7 hi (z40 hlen h1);ext;refine av7 (S.at' ea) ep ?_;ext;refine BB.dec (fun h2=>?_) fun h2=>?_
   ·ext;refine aQ S (S.at' ea) .none (.int _ _) (b76 hn hlen) ?_;intro q h Z Z S;have hne:xs≠[]:=List.ne_nil_of_length_pos (z40 hlen h1);have hrest:bF xs=xs.dropLast:=by
     unfold bF;rw[List.getLast?_eq_some_getLast hne] at h2;rw[if_pos ⟨by exact ca1 hlen h1,by rw[List.getLast?_eq_some_getLast hne]; exact congrArg some h2⟩]
    ext;refine⟨q,bY vs0 none (some (-1)),0,_,rfl,?_,S.toFix,.inr (.head _)⟩;ext;rw[hrest,a31];exact ak2 hi
   ·ext;refine fin1 ?_ _ S;unfold bF;rw[if_neg fun q=>h2 (by rw[q.2]; rfl)]
  ·ext;refine fin1 ?_ _ S;unfold bF; rw[if_neg fun q=>h1 (by rw[hlen]; exact Int.ofNat_lt.mpr q.1)]
 rintro Z h ⟨ta,ts,k2,fx',rfl,hts,S,hta⟩;unfold Fs.frm at S;have htl:=hts.length;have hrl:(bF xs).length<=xs.length:=by unfold bF; split<;>simp
 have hrm:∀ x∈bF xs,x∈xs:=fun x hx=>by
  unfold bF at hx
  split at hx
  ·exact List.dropLast_subset _ hx
  ·exact hx
 generalize hrs:bF xs=rs at hts htl hrl hrm;ext;refine ad S (by decide) ?_;intro fa h hf Z Z S1;have hf:=S.new hL hf;have S:=S1;ext;refine bp ar.handled S hta fun it h S src=>?_;refine aS (src _ _) S (fun i vs l=>b5 fun fs k o1=>bK (vs=[some (.ref tx),some (.ref ta),some (.ref fa),o1]) (l=[(fa,listOf (List.toArray fs) k)]) (StrsAre fs ((rs.take i).flatMap cj)) (((rs.take i).flatMap cj).length<=i)) ⟨[],_,none,rfl,rfl,.nil,by simp⟩ ?_ ?_
 ·rintro Z Z i v vs l h own hii hv ⟨fs,k,o1,e1v,e2l,q1,q2⟩ S;refine S.castL e1v e2l ?_;intro Z Z S;have hix:i<rs.length:=by exact z0 htl hii
  obtain⟨t,et⟩:=au hts hix;obtain rfl:=cK hv et;have htk:(rs.take (i+1)).flatMap cj=(rs.take i).flatMap cj++cj (rs.getD i 0):=by
   rw[bH hix,List.flatMap_append]
   simp
  generalize rs.getD i 0=y at htk;generalize (rs.take i).flatMap cj=F at q1 q2 htk;have hq:=q1.length;ext;refine BB.dec (fun h1=>?_) fun h1=>?_
  ·have e:cj y=[("empty" : Str)]:=if_pos h1;ext;refine aj S .head (b86 hn htl hrl hii q2 hq) ?_;intro Z h S;ext;rw[htk,e];exact⟨_,_,⟨_,_,_,rfl,rfl,aL q1 (.cons _ _ .nil),by simp; omega⟩,S⟩
  ·ext;refine BB.dec (fun h2=>?_) fun h2=>?_
   ·have e:cj y=[("label-length" : Str)]:=by unfold cj; rw[if_neg h1,if_pos h2]
    ext;refine aj S .head (b86 hn htl hrl hii q2 hq) ?_;intro Z h S;ext;rw[htk,e];exact⟨_,_,⟨_,_,_,rfl,rfl,aL q1 (.cons _ _ .nil),by simp; omega⟩,S⟩
   ·have e:cj y=[]:=by unfold cj; rw[if_neg h1,if_neg h2]
    ext;rw[htk,e,jD];exact⟨_,_,⟨_,_,_,rfl,rfl,q1,by exact eO q2⟩,S⟩
 ·rintro Z Z h ⟨fs,k,o1,e1v,e2l,q1,q2⟩ S;refine S.castL e1v e2l ?_;intro Z Z S;rw[htl,jF] at q1 q2;have hq:=q1.length;ext;have hrz:∀ x∈rs,0<=x/\x<=1000:=fun x hx=>hz x (hrm x hx);have S0:=S;refine c9 (fun v h=>b5 fun q sv k2=>bB (v=.ref q) (StrsAre sv (if 253<rs.sum+rs.length-1 then[("domain-length" : Str)] else[])) (S0.lk [(q,listOf (List.toArray sv) k2),(fa,listOf fs.toArray k)] h)) ?_ ?_
  ·walk_at"s";refine aJ ?_;ext;refine cf7 S ar.handled (S.at' hta) hts hrz (cu2 hn hrl) fun t h S=>?_;ext;refine bQ (S.at' hta) (c97 hn htl hrl) fun t=>?_;rw[htl];ext;refine BB.dec (fun h1=>?_) fun h1=>?_
   ·ext;refine ad S (bd (by simp)) ?_;intro q h Z Z Z S;ext;exact⟨q,_,_,rfl,by rw[if_pos h1]; exact .cons _ _ .nil,S⟩
   ·ext;refine ad S (by decide) ?_;intro q h Z Z Z S;ext;exact⟨q,[],_,rfl,by rw[if_neg h1]; exact .nil,S⟩
  rintro Z h ⟨q,sv,k2,rfl,hsv,S⟩;unfold Fs.lk at S;have hsl:sv.length<=1:=by rw[hsv.length]; split<;>simp
  have S1:=S;refine bj S (S.own _ (.tail _ (.head _))) (S.own _ (.head _)) (db7 hn hrl q2 hq hsl) ?_;intro ra h hr Z S;ext;exact⟨S.kept hL,ra,rfl,_,_,⟨S.own _ (.head _),S1.new hL hr⟩,by unfold ag4; rw[hrs]; exact aL q1 hsv⟩
end
end X51
mutual
theorem bf3{g tx xs}:X51.P g tx xs:=c7 (P:=X51.Q) (a:=X51.w) rfl X51.m (g,tx,xs)
theorem bq3(xs:List Int)(hz:∀ x∈xs,0<=x):ah3 (xs.map fun x=>List.replicate x.toNat 97)=ag4 xs:=by
 have hr:cD (xs.map fun x=>List.replicate x.toNat 97)=(bF xs).map fun x=>List.replicate x.toNat 97:=by
  unfold cD bF;rw[List.length_map,List.getLast?_map];have e:(xs.getLast?.map fun x=>List.replicate x.toNat (97:Int))=some []↔xs.getLast?=some 0:=by
   cases e:xs.getLast? with
   | none=>simp
   | some y =>
    have:=hz y (List.mem_of_getLast? e)
    simp
    exact c43 this
  by_cases h:1<xs.length/\xs.getLast?=some 0
  ·rw[if_pos ⟨h.1,e.mpr h.2⟩,if_pos h,List.map_dropLast]
  ·rw[if_neg (fun q=>h ⟨q.1,e.mp q.2⟩),if_neg h]
 have hrz:∀ x∈bF xs,0<=x:=fun x hx=>by
  unfold bF at hx
  split at hx
  ·exact hz x (List.dropLast_subset _ hx)
  ·exact hz x hx
 unfold ah3 ag4;rw[hr];generalize bF xs=rs at hrz;have h1:(rs.map fun x=>List.replicate x.toNat (97:Int)).flatMap dz=rs.flatMap cj:=by
  rw[List.flatMap_map];have:∀ x∈rs,dz (List.replicate x.toNat 97)=cj x:=fun x hx=>by
   have:=hrz x hx;unfold dz cj;rw[List.length_replicate]
   by_cases q:x=0
   ·subst q; simp
   ·rw[if_neg q,if_neg (by simp; exact cu1 this q),List.nil_append]
    by_cases q2:63<x
    ·rw[if_pos q2,if_pos (da1 q2)]
    ·rw[if_neg q2,if_neg (dc9 q2)]
  clear hr
  induction rs with
  | nil=>rfl
  | cons x r ih=>rw[List.flatMap_cons,List.flatMap_cons,this x (.head _),ih (fun y hy=>hrz y (.tail _ hy)) fun y hy=>this y (.tail _ hy)]
 have h2:∀ rs:List Int,(∀ x∈rs,0<=x)->(((rs.flatMap fun x=>(46:Int)::List.replicate x.toNat 97).length:Nat):Int)=rs.sum+rs.length:=by
  intro rs
  induction rs with
  | nil=>intro Z; rfl
  | cons x r ih =>
   intro h;have a:=ih fun y hy=>h y (.tail _ hy);have b:=h x (.head _);rw[List.flatMap_cons,jl,jA,List.length_replicate,List.sum_cons,jA];exact z87 a b
 have h3:253<(bV (rs.map fun x=>List.replicate x.toNat (97:Int))).length↔253<rs.sum+rs.length-1:=by
  cases rs with
  | nil=>simp [bV]
  | cons x r =>
   have a:=h2 r fun y hy=>hrz y (.tail _ hy);have b:=hrz x (.head _);rw[List.map_cons,bV,jl,List.length_replicate,List.flatMap_map,List.sum_cons,jA];exact z52 a b
 rw[h1]
 congr 1
 by_cases q:253<rs.sum+rs.length-1
 ·rw[if_pos q,if_pos (h3.mpr q)]
 ·rw[if_neg q,if_neg (fun p=>q (h3.mp p))]
noncomputable def cu(a b d:Value):List (Str×Value):=[("cells", a),("left", b),("turn", d)]
theorem dk1:¬ (("cells" : Str) = "left"):=by decide +kernel
theorem dk2:¬ (("cells" : Str) = "turn"):=by decide +kernel
theorem dk3:¬ (("left" : Str) = "turn"):=by decide +kernel
theorem dk4:¬ (("turn" : Str) = "left"):=by decide +kernel
def a78(_:Cx)(ca:Addr)(o:Obj)(l:Int)(tl:Tok)(t:Int)(tt:Tok):Prop:=Obj.IsDictOf (sK c) o (cu (.ref ca) (.int l tl) (.int t tt))
theorem bj8{a b d w:Value}:stored (cu a b d) "turn" w=cu a b w:=by simp [stored,cu,dk2,dk3]
theorem az1{a b d w:Value}:stored (cu a b d) "left" w=cu a w d:=by simp [stored,cu,dk1,dk4]
theorem a60{a b d:Value}:valueAt (cu a b d) "cells" = some a:=by simp [valueAt,cu]
theorem aq3{a b d:Value}:valueAt (cu a b d) "left" = some b:=by simp [valueAt,cu,dk1]
theorem a59{a b d:Value}:valueAt (cu a b d) "turn" = some d:=by simp [valueAt,cu,dk2,dk3]
theorem aq2{a b d:Value}:(cu a b d).length<=1000000:=by show 3<=1000000; decide
end
namespace X52
mutual
def P(h:Heap)(dk ca:Addr)(o:Obj)(k:Nat)(l t:Int)(tl tt:Tok)(b:Int):Prop:=∀ {cs:List Value} {zs:List Int} (G:ck c [(dk,o),(ca,listOf cs.toArray k)] h) (D:a78 c ca o l tl t tt) (hz:IntsAre cs zs) (hn:zs.length<=1000) (hb:0<b) (hb':b<1000) (tb:Tok),eL c 1 (.ref 623) [.ref dk,.int b tb] [(dk,o),(ca,listOf cs.toArray k)] h (fun r m' h'=>ay0 fun n u o' cs' zs' k' l' tl' t' tt'=>eF (r=.int n u) (0<=n) (n<b) (m'=[(dk,o'),(ca,listOf (List.toArray cs') k')]) (a78 c ca o' l' tl' t' tt') (IntsAre cs' zs') (zs'.length<=1000))
def Q(w:Heap×Addr×Addr×Obj×Nat×Int×Int×Tok×Tok×Int):=P w.1 w.2.1 w.2.2.1 w.2.2.2.1 w.2.2.2.2.1 w.2.2.2.2.2.1 w.2.2.2.2.2.2.1 w.2.2.2.2.2.2.2.1 w.2.2.2.2.2.2.2.2.1 w.2.2.2.2.2.2.2.2.2
def w:=@Classical.epsilon _ ⟨(default,0,0,default,0,0,0,default,default,0)⟩ fun w=>¬ Q w
def h:=w.1
def dk:=w.2.1
def ca:=w.2.2.1
def o:=w.2.2.2.1
def k:=w.2.2.2.2.1
def l:=w.2.2.2.2.2.1
def t:=w.2.2.2.2.2.2.1
def tl:=w.2.2.2.2.2.2.2.1
def tt:=w.2.2.2.2.2.2.2.2.1
def b:=w.2.2.2.2.2.2.2.2.2
theorem m:P h dk ca o k l t tl tt b:=by
 intro cs zs G D hz hn hb hb' tb;refine am1 G (by k_is) (by k_is) (binds:=[("deck", .ref dk),("below", .int b tb)]) (fun s X=>jx rfl) (rest:=["figure"]) (ns:=["deck", "below", "figure"]) rfl (vs:=[some (.ref dk),some (.int b tb),none]) rfl (gs:=[]) (by decide +kernel) ?_;intro A L O ar hL Z Z S Z Z;have hlen:=hz.length;ext;refine ac0 (S.own _ (.head _)) D bi a59 ?_;ext;refine aj7 S D bi aq2 ?_;intro o1 h D1 Z S;rw[bj8] at D1;obtain⟨tq,D1⟩:∃ tq,Obj.IsDictOf (sK c) o1 (cu (.ref ca) (.int l tl) (.int (t+1) tq)):=⟨_,D1⟩;walk_at"st";have hne:∀ o cs k,[(dk,o),(ca,listOf (List.toArray cs) k)].map (·.1)=[(dk,o),(ca,listOf (List.toArray cs) k)].map (·.1):=fun Z Z Z=>rfl;have S0:=S;refine br (fun h=>eE fun o' cs' zs' k' l' tl'=>bK (Obj.IsDictOf (sK c) o' (cu (.ref ca) (.int l' tl') (.int (t+1) tq))) (IntsAre cs' zs') (zs'.length<=1000) (S0.lk [(dk,o'),(ca,listOf (List.toArray cs') k')] h)) ?_ ?_
 ·ext;refine ac0 (S.own _ (.head _)) D1 bi aq3 ?_;ext;refine BB.dec (fun h1=>?_) fun h1=>?_
  ·ext;refine ac0 (S.own _ (.head _)) D1 bi a60 ?_;ext;refine ad S (by decide) ?_;intro ea h Z Z Z S;refine dy ar (S.own _ (.tail _ (.tail _ (.head _)))) (S.own _ (.head _)) hz .nil ?_;have S:=S.drop;ext;refine BB.dec (fun h2=>?_) fun h2=>?_
   ·ext;exact⟨rfl,o1,cs,zs,k,l,tl,D1,hz,hn,S⟩
   ·ext;refine ac0 (S.own _ (.head _)) D1 bi a60 ?_;obtain⟨p,y,rfl⟩:av fun p y=>cs=p++[y]:=by
     rcases List.eq_nil_or_concat cs with e|⟨p,y,e⟩
     ·subst e;exact absurd (List.eq_nil_of_length_eq_zero (by rw[<- hlen]; rfl)) h2
     ·exact⟨p,y,by rw[e,List.concat_eq_append]⟩
    obtain⟨ty,ey⟩:=ay7 hz (by rw[<- hlen]; simp);have hzp:=ak2 hz;rw[List.dropLast_concat] at hzp;rw[List.getLast?_concat] at ey
    cases ey
    have hpl:p.length<=1000:=by rw[jl] at hlen; exact c15 hn hlen
    ext;have S:=Fs.front1 S;refine an1 S .head (bm9 hpl) ?_;intro Z h S;have S:=Fs.front1 S;ext;refine aj7 S D1 bi aq2 ?_;intro o2 h D2 Z S;rw[az1] at D2;ext;exact⟨rfl,o2,_,_,_,_,_,D2,hzp,by rw[<- hzp.length]; exact hpl,S⟩
  ·ext;exact⟨rfl,o1,cs,zs,k,l,tl,D1,hz,hn,S⟩
 rintro h ⟨o2,cs',zs',k',l',tl',D2,hz',hn',S⟩;unfold Fs.lk at S;ext;refine ac0 (S.own _ (.head _)) D2 bi aq3 ?_;ext;refine a15 (fun Z=>?_) (ba9 hb);ext;refine ac0 (S.own _ (.head _)) D2 bi aq3 ?_;ext;refine ag3 (fun Z=>?_) (ba9 hb) (na (Int.le_of_lt hb) (Int.lt_trans hb' (by decide)));ext;refine aj7 S D2 bi aq2 ?_;intro o3 h D3 Z S;rw[az1] at D3;ext;refine ac0 (S.own _ (.head _)) D3 bi a59 ?_;ext;refine a15 (fun Z=>?_) (by lia);ext;exact S.keptM (m':=[(dk,o3),(ca,listOf cs'.toArray k')]) (r:=[]) hL rfl ⟨_,_,o3,cs',zs',k',_,_,_,_,rfl,Int.fmod_nonneg_of_pos _ hb,Int.fmod_lt_of_pos _ hb,rfl,D3,hz',hn'⟩
end
end X52
mutual
theorem b06{h dk ca o k l t tl tt b}:X52.P h dk ca o k l t tl tt b:=c7 (P:=X52.Q) (a:=X52.w) rfl X52.m (h,dk,ca,o,k,l,t,tl,tt,b)
theorem a97(n:Str)(v:Value):∀ l:List (Str×Value),(ai6 n v l).length<=l.length+1
 | []=>Nat.le_refl _
 | p::r=>by
  have ih:=a97 n v r;unfold ai6
  split
  ·simp
  ·simp only[jA]; exact z94 ih
theorem ad3{n:Str}{v:Value}{l:List (Str×Value)}{m:Nat}(h:l.length<m):(ai6 n v l).length<m+1:=by
 have:=a97 n v l;exact c56 h this
theorem aq0{name:Str}(ht:takerIn (Mine.hd.heap_39 c.w.params) 396 name=some none):ax4 (Mine.hd.heap_39 c.w.params) 396 name:=⟨by k_is,by k_is,ht,by k_is⟩
theorem bd9{h:Heap}(G:ak c h)(tr ol hy jo:Bool):ah9 c 1 393 396 [.bool tr,.bool ol,.bool hy,.bool jo,.bool true,.bool false,.bool true] h (fun x h'=>b8 (Nw h h') x tr ol hy jo):=by
 intro A x dx O ar hlt hsz K1 hx hdx;refine as7 G ar hlt hsz K1 hx hdx (by k_is) (by k_is) (binds:=[("self", .ref x),("is_transitional", .bool tr),("only_letters", .bool ol),("hyphens", .bool hy),("joiners", .bool jo),("directions", .bool true),("contexts", .bool false),("lengths", .bool true)]) (fun s X=>bZ X rfl (by k_is) rfl (by walk_at"u")) (rest:=[]) (ns:=["self", "is_transitional", "only_letters", "hyphens", "joiners", "directions", "contexts", "lengths"]) rfl (vs:=[some (.ref x),some (.bool tr),some (.bool ol),some (.bool hy),some (.bool jo),some (.bool true),some (.bool false),some (.bool true)]) rfl (gs:=[]) (by decide +kernel) ?_;intro A L h ar hL Z Z S Z Z;walk_at"gc";refine aE (lf:=fun o'=>[(x,instObj 396 dx),(dx,o')]) S (S.own _ (.head _)) .nil (aq0 (by k_is)) (fun Z=>.tail .head) (by repeat' (first|(show(0:Nat)<_; decide)|refine ad3 ?_)) fun es n h E S=>?_;walk_at"gc";refine aE (lf:=fun o'=>[(x,instObj 396 dx),(dx,o')]) S (S.own _ (.head _)) E (aq0 (by k_is)) (fun Z=>.tail .head) (by repeat' (first|(show(0:Nat)<_; decide)|refine ad3 ?_)) fun es n h E S=>?_;walk_at"gc";refine aE (lf:=fun o'=>[(x,instObj 396 dx),(dx,o')]) S (S.own _ (.head _)) E (aq0 (by k_is)) (fun Z=>.tail .head) (by repeat' (first|(show(0:Nat)<_; decide)|refine ad3 ?_)) fun es n h E S=>?_;walk_at"gc";refine aE (lf:=fun o'=>[(x,instObj 396 dx),(dx,o')]) S (S.own _ (.head _)) E (aq0 (by k_is)) (fun Z=>.tail .head) (by repeat' (first|(show(0:Nat)<_; decide)|refine ad3 ?_)) fun es n h E S=>?_;walk_at"gc";refine aE (lf:=fun o'=>[(x,instObj 396 dx),(dx,o')]) S (S.own _ (.head _)) E (aq0 (by k_is)) (fun Z=>.tail .head) (by repeat' (first|(show(0:Nat)<_; decide)|refine ad3 ?_)) fun es n h E S=>?_;walk_at"gc";refine aE (lf:=fun o'=>[(x,instObj 396 dx),(dx,o')]) S (S.own _ (.head _)) E (aq0 (by k_is)) (fun Z=>.tail .head) (by repeat' (first|(show(0:Nat)<_; decide)|refine ad3 ?_)) fun es n h E S=>?_;walk_at"gc";refine aE (lf:=fun o'=>[(x,instObj 396 dx),(dx,o')]) S (S.own _ (.head _)) E (aq0 (by k_is)) (fun Z=>.tail .head) (by repeat' (first|(show(0:Nat)<_; decide)|refine ad3 ?_)) fun es n h E S=>?_;walk_at"gc";refine⟨rfl,S.kept hL,dx,es,n,⟨S.own _ (.head _),jI (ju hsz hlt)⟩,⟨S.own _ (.tail _ (.head _)),hsz⟩,?_⟩;exact E
theorem ax3(P:Params):ax9 fun nm q N bs sn sub ab col dd k0 k1 k2=>av fun k3 k5=>(Mine.hd.heap_39 P).lookup 52=some (excClassObj nm q 52 N bs [.ref 39,.type "Exception", .type "BaseException", .type "object"] true sn sub ab col dd k0 k1 k2 k3 k5 "Exception.__new__"):=⟨_,_,_,_,_,_,_,_,_,_,_,_,_,_,by k_is⟩
theorem bt5(P:Params):findIn (Mine.hd.heap_39 P) (.ref 52) "__init__" = some (some (.ref 36)):=by k_is
theorem ce8(P:Params):∃ o,(Mine.hd.heap_39 P).lookup 36=some o/\o.cls=.type "function" := ⟨_,by k_is,rfl⟩
theorem ce7(P:Params):findIn (Mine.hd.heap_39 P) (.ref 52) "__setattr__" = some (some (.builtin "object.__setattr__")):=by k_is
theorem bt4(P:Params):findIn (Mine.hd.heap_39 P) (.ref 52) "told" = some none:=by k_is
end
section
variable {prog:Program} {w:World} {A:Around} {E:Value->Shared->Prop} {K:Frag} {h:Heap} {g:Array GenState} {d:Drawn} {t:Nat} {os:OsState}
variable {nm q:Str} {C N:Addr} {bs bm bmB:List Value} {sn:List Str} {sub:List Value} {ab:Bool} {col:Option Bool} {dd:Option Addr} {k0 k1 k2 k3 k5:Option Value} {B newId initId:String}
mutual
theorem b12{α β:Type}[BEq α][LawfulBEq α]{a:α}{x y:β}:(if(a != a)=true then x else y)=y:=if_neg (by rw[bne_self_eq_false]; exact Bool.false_ne_true)
theorem a21{M:Model}(F:ExcBaseFacts B newId initId bmB)(hB:bm.contains (.type B)=true){rest:List Value}{Q:Unit->Shared->Prop}(hC:h.get? C=some (excClassObj nm q C N bs bm true sn sub ab col dd k0 k1 k2 k3 k5 newId))
  (hq:Q () ⟨h,g,d,t,os⟩):wpAny M A (checkBuiltinCall newId ⟨.ref C::rest,[]⟩) Q E ⟨h,g,d,t,os⟩:=by
 have hcont:(Value.ref C::bm).contains (.type B)=true:=by rw[List.contains_cons,hB,Bool.or_true]
 have hstar:=F.noStar;unfold checkBuiltinCall;rw[F.newKind];dsimp only;rw[F.newSplit];dsimp only;rw[F.newRow];dsimp only
 repeat (first|refine wpAny_loadPart_at hC ?_|(refine wpAny_isSubtype_exc hC ?_; rw[hcont])|refine wpAny_staticBase_exc hC ?_|refine wpAny_madeBy_exc hC ?_|rewrite [b12]|wp_step)
 exact hq
theorem cb0{R:Result->Shared->Prop}(F:ExcBaseFacts B newId initId bmB)(hB:bm.contains (.type B)=true)(hA:bm.contains (.type "AttributeError")=false) (hN:bm.contains (.type "NameError")=false) {rest:List Value} (hC:h.get? C=some (excClassObj nm q C N bs bm true sn sub ab col dd k0 k1 k2 k3 k5 newId))
  (hq:R (.ok (.ret (.ref (h.objs.size+1)))) ⟨(h.push { cls:=.type "tuple", data:=.seq rest.toArray }).push
   {cls:=.ref C,data:=.fields #[.ref h.objs.size,.none,.none,.none,.bool false,.none] },g,d,t,os⟩) (hrest:rest.length<=sizeLine:=by size_fits) :
  codeAny (model prog w) A (.builtin newId ⟨.ref C::rest,[]⟩) R ⟨h,g,d,t,os⟩:=by
 have hends:=F.ends;have hcB:(Value.ref C::bm).contains (.type B)=true:=by rw[List.contains_cons,hB,Bool.or_true]
 have hcA:(Value.ref C::bm).contains (.type "AttributeError")=false:=by rw[List.contains_cons,hA]; rfl
 have hcN:(Value.ref C::bm).contains (.type "NameError")=false:=by rw[List.contains_cons,hN]; rfl
 refine codeAny_builtinAt F.entry ?_;unfold Builtin.«BaseException.__new__»;refine PySem.wpAt_bind ?_
 show PySem.wpAt _ _ _ (stack >>= _) _ _ _
 refine PySem.wpAt_bind (PySem.wpAt_stack fun p af0=>PySem.wpAt_of_wpAny ?_)
 wp_walk
 refine PySem.wpAt_of_wpAny ?_;rw[F.owner]
 repeat (first|with_reducible refine wpAny_madeHere_exc F.canon hC ?_|with_reducible refine wpAny_loadPart_at hC ?_|(with_reducible refine wpAny_isSubtype_exc hC ?_; first|rewrite [hcB]|rewrite [hcA]|rewrite [hcN])|wp_step)
 show R _ _
 rw[jH];exact hq
theorem bv8(F:ExcBaseFacts B newId initId bmB)(hB:bm.contains (.type B)=true)(hA:bm.contains (.type "AttributeError")=false) (hN:bm.contains (.type "NameError")=false) {rest:List Value} {fI:Addr} {oI:Obj} {Q:Value->Shared->Prop}
  (X:K.In h) (hC:h.get? C=some (excClassObj nm q C N bs bm true sn sub ab col dd k0 k1 k2 k3 k5 newId)) (hi:findIn K (.ref C) "__init__" = some (some (.ref fI))) (hfI:h.get? fI=some oI) (hfc:oI.cls=.type "function")
  (hq:∀ h' e,Heap.MadeExcOf h h' e (.ref C) rest->h.objs.size<=h'.objs.size ->
   wpAny (model prog w) (A.under (.builtin "type.__call__" ⟨.ref C::rest,[]⟩)) (call (.ref fI) (.ref e::rest)) (fun r s'=>r=.none/\Q (.ref e) s') E ⟨h',g,d,t,os⟩) (hrest:rest.length<=sizeLine:=by size_fits) :
  wpAny (model prog w) A (call (.ref C) rest) Q E ⟨h,g,d,t,os⟩:=by
 have f1:=tc_lookup;have f2:=tc_bind (.ref C);have hT:(⟨h,g,d,t,os⟩:Shared).TypeIs (.ref C) "type" := ⟨_,hC,rfl⟩;refine wpAny_call (codeAny_of_tree ?_)
 show wpAny _ _ (callAny (.ref C) _) _ _ _
 repeat (any_goals (first|assumption|with_reducible refine wpAny_loadPart_at hC ?_|wp_step))
 refine⟨rfl,?_⟩;refine codeAny_call_builtin_at (Code.quiet_builtin _ (by decide +kernel)) entry_typeCall (wpAny_check_type_call_sub hC ?_)
 repeat (first|with_reducible refine wpAny_loadPart_at hC ?_|with_reducible refine wpAny_madeBy_exc hC ?_|wp_step)
 refine codeAny_call_builtin_code (Code.quiet_builtin _ F.quiet) (a21 F hB hC ?_);refine cb0 F hB hA hN hC ?_ hrest
 show wpAny _ _ _ _ _ _
 have hCB:=jp { cls:=.ref C,data:=.fields #[.ref h.objs.size,.none,.none,.none,.bool false,.none] }
  (jp { cls:=.type "tuple", data:=.seq rest.toArray } hC)
 have hfIB:=jp { cls:=.ref C,data:=.fields #[.ref h.objs.size,.none,.none,.none,.bool false,.none] }
  (jp { cls:=.type "tuple", data:=.seq rest.toArray } hfI)
 have hk:∀ b o,h.get? b=some o->((h.push { cls:=.type "tuple", data:=.seq rest.toArray }).push { cls:=.ref C,data:=.fields #[.ref h.objs.size,.none,.none,.none,.bool false,.none] }).get? b=some o:=fun b o e=>jp _ (jp _ e);have hget:((h.push { cls:=.type "tuple", data:=.seq rest.toArray }).push
   {cls:=.ref C,data:=.fields #[.ref h.objs.size,.none,.none,.none,.bool false,.none] }).get? (h.objs.size+1)=some
   {cls:=.ref C,data:=.fields #[.ref h.objs.size,.none,.none,.none,.bool false,.none] }:=by heap_get
 have hcC:(Value.ref C::bm).contains (.ref C)=true:=by simp
 unfold isInstance
 repeat (first|with_reducible refine wpAny_loadPart_at hget ?_|(with_reducible refine wpAny_isSubtype_exc hCB ?_; rw[hcC])|wp_step)
 refine wpAny_isSubtype_exc hCB ?_;rw[hcC]
 repeat (first|with_reducible refine wpAny_loadPart_at hget ?_|wp_step)
 show wpAny _ _ (typeLookup (.ref C) _) _ _ _
 refine looks_findIn X hi _ _ _ _ hk ?_;refine wpAny_holding (jb ?_);unfold bindSpecial;refine jb (wpAny_typeOf (T := "function") ⟨_,hfIB,hfc⟩ ?_);rw[if_pos (by decide)];refine jc (jb (jd (hq _ (h.objs.size+1) ⟨hk,Heap.get?_none_of_le (Nat.le_succ _),h.objs.size,hget,Heap.get?_none_of_le (Nat.le_refl _),?_⟩ (by rw[jH,jH]; exact b31)) (fun r s' hr=>?_) fun Z Z x=>x))
 ·exact jp _ (Heap.get?_push_at rfl rfl)
 ·obtain⟨rfl,hQ⟩:=hr
  wp_walk
  exact hQ
end
open Builtin Builtin.ObjectAttr
mutual
theorem a80{M:Model}{x:Addr}{o:Obj}{nameV v:Value}{Q:Unit->Shared->Prop}(hO:bm.contains (.type "object")=true)
  (hC:h.get? C=some (excClassObj nm q C N bs bm true sn sub ab col dd k0 k1 k2 k3 k5 newId)) (hx:h.get? x=some o) (hc:o.cls=.ref C) (hq:Q () ⟨h,g,d,t,os⟩) :
  wpAny M A (checkBuiltinCall "object.__setattr__" ⟨[.ref x,nameV,v],[]⟩) Q E ⟨h,g,d,t,os⟩:=by
 have hcB:(Value.ref C::bm).contains (.type "object")=true:=by rw[List.contains_cons,hO,Bool.or_true]
 have ha:=PySem.F.store_Exception.args (.ref x) nameV v;unfold checkBuiltinCall;rw[PySem.F.store_Exception.kind];dsimp only;rw[PySem.F.store_Exception.split];dsimp only;refine jb ?_
 ·unfold isInstance
  repeat (first|(with_reducible refine wpAny_loadPart_at hx ?_; rw[hc])|(with_reducible refine wpAny_isSubtype_exc hC ?_; rw[hcB])|wp_step)
  exact hq
theorem idm{γ:Type}{A:ClassData->γ}{B:Data->γ}{od:Data}(h:∀ c,od≠.cls c):PySem.instanceDict.match_1 (fun Z=>γ) od A B=B od:=by
 cases od<;>first|rfl|exact absurd rfl (h _)
theorem bn3{x:Addr}{o:Obj}{name:Str}{v:Value}{Q:Unit->Shared->Prop}(X:K.In h)(hO:bm.contains (.type "object")=true) (hpass:∀ self,refuseLoop self "__setattr__" bm=pure ())
  (hC:h.get? C=some (excClassObj nm q C N bs bm true sn sub ab col dd k0 k1 k2 k3 k5 newId)) (hx:h.get? x=some o) (hc:o.cls=.ref C) (hdn:o.dict=none) (hnc:∀ c,o.data≠.cls c)
  (hsa:findIn K (.ref C) "__setattr__" = some (some (.builtin "object.__setattr__"))) (hna:findIn K (.ref C) name=some none)
  (hq:∀ h' tk' dx,h'.get? x=some { o with dict:=some dx }->(∀ b ob,b≠x->h.get? b=some ob->h'.get? b=some ob)->Q () ⟨h',g,d,tk',os⟩) :
  wpAny (model prog w) A (setAttr (.ref x) name v) Q E ⟨h,g,d,t,os⟩:=by
 have f3:=PySem.F.store_Exception.slot.bind (.ref x);have hp:=hpass (.ref x);unfold setAttr callSpecial? specialOf
 repeat (any_goals (first|assumption|(with_reducible refine wpAny_loadPart_at hx ?_; rw[hc])|wp_step))
 refine looks_findIn X hsa _ _ _ _ (fun b o e=>e) ?_
 repeat (any_goals (first|assumption|wp_step))
 refine codeAny_call_builtin PySem.F.store_Exception.slot.plain PySem.F.store_Exception.entry (a80 hO hC hx hc ?_);unfold Builtin.«object.__setattr__»
 repeat (first|rewrite [refuse_eq]|(rewrite [refuseLoop_ref,hp])|(with_reducible refine wpAny_loadPart_at hx ?_; rewrite [hc])|with_reducible refine wpAny_mroOf_exc hC ?_|wp_step)
 refine looks_findIn X hna _ _ _ _ (fun b o e=>e) ?_
 repeat (first|(with_reducible refine wpAny_loadPart_at hx ?_; rw[hc])|wp_step)
 rw[hdn,if_neg (by simp [typeHasDict])]
 show wpAny _ _ (PySem.instanceDict.match_1 (fun Z=>Sem (Option Addr)) o.data _ _) _ _ _
 rw[idm hnc]
 ·have hxB:(h.push { cls:=.type "dict", data:=.dict #[] }).get? x=some o:=jp _ hx;have hxs:x≠h.objs.size:=jv (jw hx);refine jb (wpAny_alloc' ?_);refine jb (wpAny_update' hxB ?_);refine jc ?_;have hgd:((h.push { cls:=.type "dict", data:=.dict #[] }).update x fun o=>{ cls:=o.cls,dict:=some h.objs.size,data:=o.data,slots:=o.slots }).get? h.objs.size
    = some { cls:=.type "dict", data:=.dict #[] } :=
   (Heap.get?_update_ne _ _ _ _ hxs.symm).trans (Heap.get?_push_at rfl rfl)
  have hnd:((h.push { cls:=.type "dict", data:=.dict #[] }).update x fun o=>{ cls:=o.cls,dict:=some h.objs.size,data:=o.data,slots:=o.slots }).Ns h.objs.size (fun Z=>none) :=
   ⟨_,#[],_,hgd,rfl,fun e he=>absurd he (by simp),fun Z=>rfl⟩
  show wpAny _ _ (storeInDict h.objs.size (.str name _) name v) _ _ _
  unfold storeInDict newKeyGuard;refine jb (jc (jb (wpAny_nsSet1 (Heap.Ns1.of_empty hnd) fun h' hn' hs=>?_)));obtain⟨oD,esD,epD,hoD,hdD,hcD⟩:=hn'.count (Within.cons name v Within.nil);refine jb (wpAny_lookBehind hoD (by rw[hdD]; exact pastItsLine_dict (jr hcD (by rw[jA,jO,sizeLine_eq]; exact co1))) ?_)
  wp_walk
  have hx':h'.get? x=some { cls:=o.cls,dict:=some h.objs.size,data:=o.data,slots:=o.slots }:=by
   refine(hs.2 x hxs).trans (Heap.get?_update_self _ hxB ?_);have aG:=(Heap.get?_some_iff.mp hx).2;obtain⟨oc,od,odt,osl⟩:=o
   cases odt<;>first|rfl|exact aG
  repeat (any_goals (first|assumption|wp_step))
  exact hq h' _ h.objs.size hx' fun b ob hbx hb=>(hs.2 b (jv (jw hb))).trans ((Heap.get?_update_ne _ _ _ _ hbx).trans (jp _ hb))
end
end
mutual
noncomputable abbrev au1:Value:=.ref 52
noncomputable abbrev ag1(t dx:Addr):Obj:={ cls:=au1,dict:=some dx,data:=.fields #[.ref t,.none,.none,.none,.bool false,.none] }
def dS(outs:ac)(h:Heap):Prop:=∀ p∈outs,∃ sl,h.get? p.1=some { p.2 with slots:=sl }
inductive dp:List Env->ac->Prop
 | nil:dp [] []
 | cons {env:Env} {L:Addr} {o:Obj} {l r}:env.frame=some L->env.scope.kind≠.module->(∀ vs,o.data≠.fields vs)->dp l r->dp (env::l) ((L,o)::r)
theorem dS.up{outs:ac}{h h':Heap}(s:dS outs h)(u:h.UpToSlots h')(n:∀ p∈outs,∀ vs,p.2.data≠.fields vs):dS outs h':=fun p hp=>by
 obtain⟨sl,e⟩:=s p hp;obtain⟨sl',e'⟩:=u _ _ e (n p hp);exact⟨sl',e'⟩
theorem dS.of{outs:ac}{h:Heap}(s:∀ p∈outs,h.get? p.1=some p.2):dS outs h:=fun p hp=>⟨p.2.slots,s p hp⟩
theorem dp.nof{l:List Env}{outs:ac}(s:dp l outs):∀ p∈outs,∀ vs,p.2.data≠.fields vs:=by
 induction s with
 | nil=>intro p hp; cases hp
 | cons _ _ hn _ ih =>
  exact af (hn) fun p hp=>ih p hp
theorem dp.fun{l:List Env}{outs:ac}(s:dp l outs){h B:Heap}(o:∀ p∈outs,h.get? p.1=some p.2)(n:∀ p∈outs,B.get? p.1=none):h.FunFrames B l:=by
 induction s with
 | nil=>trivial
 | cons hf hk hn _ ih=>exact⟨hk,⟨_,_,hf,n _ (.head _),o _ (.head _),hn⟩,ih (fun p hp=>o p (.tail _ hp)) fun p hp=>n p (.tail _ hp)⟩
structure Rai(base:Heap)(outs:ac)(l:List Env)(e:Value)(h:Heap):Prop where
 ex:cP fun ea B t dx=>eF (e=.ref ea) (h.get? ea=some (ag1 t dx)) (B.StaysIn h) (B.get? ea=none) (h.FunFrames B l) (base.StaysIn B) (cw B)
 outs:dS outs h
structure eA(base:Heap)(outs:ac)(l:List Env)(L:Addr)(e:Value)(h:Heap):Prop where
 ex:b5 fun ea B a0=>bK (e=.ref ea) (Heap.HeldW B l ea au1 a0 L h) (base.StaysIn B) (cw B)
 outs:dS outs h
structure dt(base:Heap)(outs:ac)(l:List Env)(e:Value)(h:Heap):Prop where
 ex:b5 fun ea B a0=>bK (e=.ref ea) (Heap.FlyingW B l ea au1 a0 h) (base.StaysIn B) (cw B)
 outs:dS outs h
end
section
variable {E:VP} {A:Around} {env:Env} {outs:ac} {h base:Heap} {outer:List Env} {L:Addr} {e:Value}
mutual
theorem bp6{Q:Unit->Heap->Prop}(aG:A.frames=some (env::outer))(hf:env.frame=some L)(n:∀ p∈outs,∀ vs,p.2.data≠.fields vs)(R:Rai base outs (env::outer) e h)(q:∀ h',eA base outs (env::outer) L e h'->Q () h'):Wp c E A (noteFrame e env) Q h:=.mk fun tk=>by
 obtain⟨⟨ea,B,t,dx,rfl,he,hB,hn,hl,b1,b2⟩,ho⟩:=R;unfold noteFrame;simp only[hf];refine jb (wpAny_field (s:=c.at h tk) he rfl (x:=.none) rfl ?_);rw[if_neg (by decide)];refine wpAny_entryW (s:=c.at h tk) aG hl hf he hB hn rfl (by show 1<6; decide) rfl fun h' zpa=>by obtain⟨k1,k2,k3,k4⟩:=zpa; exact⟨h',tk,rfl,q h' ⟨⟨ea,B,_,rfl,⟨k1,hn,k2,k3⟩,b1,b2⟩,ho.up k4 n⟩⟩
theorem a40{Q:Unit->Heap->Prop}(aG:A.frames=some (env::outer))(hf:env.frame=some L)(n:∀ p∈outs,∀ vs,p.2.data≠.fields vs)(R:dt base outs (env::outer) e h)(q:∀ h',eA base outs (env::outer) L e h'->Q () h'):Wp c E A (noteFrame e env) Q h:=.mk fun tk=>by
 obtain⟨⟨ea,B,a0,rfl,hfl,b1,b2⟩,ho⟩:=R;exact wpAny_looks_onW (s:=c.at h tk) aG hf hfl fun h' k1 k2=>⟨h',tk,rfl,q h' ⟨⟨ea,B,_,rfl,k1,b1,b2⟩,ho.up k2 n⟩⟩
theorem bp7{Q:Unit->Heap->Prop}(hf:env.frame=some L)(R:eA base outs (env::outer) L e h)(q:Q () h):Wp c E A (noteFrame e env) Q h:=.mk fun tk=>by
 obtain⟨⟨ea,B,a0,rfl,hh,b1,b2⟩,ho⟩:=R;exact wpAny_noteFrame_againW (base:=B) hf hh.2.2.2 ⟨h,tk,rfl,q⟩
theorem a45{Q:Unit->Heap->Prop}{l:List Env}(n:∀ p∈outs,∀ vs,p.2.data≠.fields vs)(R:eA base outs l L e h)(q:∀ h',dt base outs l e h'->Q () h'):Wp c E A (setFlight e none) Q h:=.mk fun tk=>by
 obtain⟨⟨ea,B,a0,rfl,hh,b1,b2⟩,ho⟩:=R;exact wpAny_landsW (s:=c.at h tk) hh fun h' k1 k2=>⟨h',tk,rfl,q h' ⟨⟨ea,B,_,rfl,k1,b1,b2⟩,ho.up k2 n⟩⟩
theorem bq8{Q:Unit->Heap->Prop}{l:List Env}(n:∀ p∈outs,∀ vs,p.2.data≠.fields vs)(R:dt base outs l e h)(q:∀ h',dt base outs l e h'->Q () h'):Wp c E A (setFlight e none) Q h:=.mk fun tk=>by
 obtain⟨⟨ea,B,a0,rfl,hh,b1,b2⟩,ho⟩:=R;exact lands_againW (s:=c.at h tk) hh fun h' k1 k2=>⟨h',tk,rfl,q h' ⟨⟨ea,B,_,rfl,k1,b1,b2⟩,ho.up k2 n⟩⟩
theorem dt.pop{p:Addr×Obj}{h:Heap}(R:dt base (p::outs) (env::outer) e h):dt base outs outer e h:=by
 obtain⟨⟨ea,B,a0,er,⟨k1,k2,⟨Z,Z,k3⟩,k4⟩,b1,b2⟩,ho⟩:=R;exact⟨⟨ea,B,a0,er,⟨k1,k2,k3,k4⟩,b1,b2⟩,fun q hq=>ho q (.tail _ hq)⟩
theorem bi7{p:Addr×Obj}{Q:Unit->Heap->Prop}(hf:env.frame=some L)(n:∀ q∈p::outs,∀ vs,q.2.data≠.fields vs)(R:eA base (p::outs) (env::outer) L e h)(q:∀ h',dt base outs outer e h'->Q () h'):Wp c E A (leaving env e) Q h:=by
 unfold leaving;refine Wp.bind (bp7 hf R ?_);have hfl:=hf;exact a45 n R fun h' F=>q h' F.pop
theorem bi8{p:Addr×Obj}{Q:Unit->Heap->Prop}(aG:A.frames=some (env::outer))(hf:env.frame=some L)(n:∀ q∈p::outs,∀ vs,q.2.data≠.fields vs)(R:dt base (p::outs) (env::outer) e h)(q:∀ h',dt base outs outer e h'->Q () h'):Wp c E A (leaving env e) Q h:=.mk fun tk=>by
 obtain⟨⟨ea,B,a0,rfl,hfl,b1,b2⟩,ho⟩:=R;exact wpAny_leaves_onW (s:=c.at h tk) aG hf hfl fun h' k1 k2=>⟨h',tk,rfl,q h' ⟨⟨ea,B,_,rfl,k1,b1,b2⟩,fun x hx=>(ho.up k2 n) x (.tail _ hx)⟩⟩
end
end
section
variable {E:VP} {gs ns:List Str} {pos:Pos} {A:Around} {env:Env} {V:Heap} {fx:ac} {l l':ac} {vs:LO} {h:Heap}
mutual
theorem ae5{d:Nat}{f:Addr}{args:List Value}{name qual:Str}{params:Arguments}{body:List Stmt}{scope:Scope}{dV kV doc pm cdv ct oc:Value}{an od:Option Addr}{osl:Array (Option Value)}{outer:List Env}
  {binds:List (Str×Value)} {gs ns rest:List Str} {m:ac} {vs:LO} {Q:VP} {EB:Env->VP} (ar:Ar A (d+1)) (aG:A.frames=some outer) (G:ck c m h)
  (hl:(Mine.hd.heap_39 c.w.params).lookup f=some ⟨oc,od,.func (fnOf name qual params body scope dV kV doc pm an cdv ct),osl⟩) (hcd:codeIn (Mine.hd.heap_39 c.w.params) cdv qual=true)
  (hb:∀ s:Shared,(Mine.hd.heap_39 c.w.params).In s.heap->BindsTo s (fnOf name qual params body scope dV kV doc pm an cdv ct) ⟨args,[]⟩ binds)
  (hns:ns=binds.map (·.1)++rest) (hvs:vs=binds.map (fun b=>some b.2)++rest.map fun Z=>none) (fn:dK scope gs ns=true)
  (W:∀ A L O,Ar A d->A.frames=some (ce qual scope f cdv L::outer)->h.objs.size<=L->let env:=ce qual scope f cdv L; let w:=vs; Fs c gs ns env (hideAll h (ag::m.map (·.1))) [] w m O->∀ R,eg (aj9 Q) R->Wp c (EB (ce qual scope f cdv L)) A (execs body env) R O)
  (lv:∀ A L e h',A.frames=some (ce qual scope f cdv L::outer)->EB (ce qual scope f cdv L) e h'->Wp c (fun Z Z=>False) A (leaving (ce qual scope f cdv L) e) (fun Z h''=>E e h'') h')
  (hco:autoParam (scope.isCoroutine=false) aU) (hgen:autoParam (scope.isGenerator=false) aU) (hk:autoParam (scope.kind=.function) aU)
  (hcell:autoParam (scope.names.all (fun x=>x.2 != .cell)=true) aU):Wp c E A (call (.ref f) args) Q h:=.mk fun tk=>by
 subst hns hvs;have st:(hideAll h (ag::m.map (·.1))).StaysIn h:=fun b o e=>of_hideAll _ e;have X:c.K.In h:=G.gd.X.keeps st;obtain⟨mean,mg,mb,T⟩:=G.gd.T;have hcl:∀ x∈scope.names,x.2≠.cell:=fun x hx=>bne_iff_ne.mp (List.all_eq_true.mp hcell x hx);have hFn:Fn (ce qual scope f cdv h.objs.size) gs (binds.map (·.1)++rest):=Fn.of fn;have hloc:∀ x∈binds,scope.names.lookup x.1=some .local:=fun x hx=>hFn.loc x.1 (ji _ (List.mem_map_of_mem hx));refine wpAny_call (codeAny_call_def (s:=c.at h tk) (fd:=fnOf name qual params body scope dV kV doc pm an cdv ct) (body:=body) (binds:=binds) (by have:=ar.depth; show A.depth<1000; exact bb0 this)
  (X _ _ hl) rfl (T.nolimit.keeps st) (codeRec_of X hcd) rfl (hb (c.at h tk) X) hcl hloc (fun O hns hkB=>?_) hco hgen hk)
 have S:Fs c gs (binds.map (·.1)++rest) (ce qual scope f cdv h.objs.size) (hideAll h (ag::m.map (·.1))) [] (binds.map (fun b=>some b.2)++rest.map fun Z=>none) m O :=
  {fr:=⟨by rw[<- aj5 rest binds hFn.nd]; exact hns,fun b o e=>hkB b o (st b o e),jB (hideAll_size _ _)⟩
   own:=fun p hp=>hkB _ _ (G.own p hp).1
   ord:=G.ord
   ap:=fun p hp=>⟨jv (jw (G.own p hp).1),(G.own p hp).2,hideAll_none _ (.tail _ (List.mem_map_of_mem hp))⟩
   tab:=G.tab.mono fun Z Z Z e=>hkB _ _ e
   lt:=by obtain⟨Z,e,Z,Z⟩:=G.tab; exact jw e
   no:=hideAll_none _ (.head _)
   gd:=G.gd
   fn:=hFn
   pl:=⟨hk,rfl,rfl⟩
   fix:=fun p hp=>absurd hp jm
   off:=fun p hp=>absurd hp jm }
 have hfr':(A.deeper (ce qual scope f cdv h.objs.size)).frames=some (ce qual scope f cdv h.objs.size::outer):=Around.frames_deeper aG;refine jd ((W _ _ O (ar.deeper (env:=ce qual scope f cdv h.objs.size)) hfr' (Nat.le_refl _) S _ .rfl).run (tk.1+binds.length,tk.2)) (fun fl s zpa=>?_) (fun e s ⟨h',t',es,q⟩=>?_)
 ·obtain⟨h',t',e,q⟩:=zpa;subst e;exact⟨h',t',rfl,q⟩
 ·subst es;exact jd ((lv _ _ e h' hfr' q).run t') (fun Z s zpa=>by obtain⟨h2,t2,e2,q2⟩:=zpa; exact⟨h2,t2,e2,q2⟩) fun Z Z zpa=>by obtain⟨Z,Z,Z,q⟩:=zpa; exact q.elim
def eV(_:Cx)(d:Nat)(f:Value)(args:List Value)(outer:List Env)(m:ac)(h:Heap):Prop :=
 ∀ A,Ar A d->A.frames=some outer->Wp c (dt (hideAll h (ag::m.map (·.1))) m outer) A (call f args) (fun Z Z=>False) h
theorem dt.base{base base':Heap}{outs:ac}{l:List Env}{e:Value}(k:base.StaysIn base')(R:dt base' outs l e h):dt base outs l e h:=by
 obtain⟨⟨ea,B,a0,er,hfl,b1,b2⟩,ho⟩:=R;exact⟨⟨ea,B,a0,er,hfl,fun b o e=>b1 b o (k b o e),b2⟩,ho⟩
theorem Fs.top(S:Fs c gs ns env V fx vs l h){m:ac}(hm:∀ p∈m,p∈l)(hd:bn m):∃ oL,bK (h.get? env.locals=some oL) (∀ vs,oL.data≠.fields vs) (ck c ((env.locals,oL)::m) h) (V.StaysIn (hideAll h (ag::((env.locals,oL)::m).map (·.1)))):=by
 obtain⟨oL,es,ep,e1,e2,e3⟩:=S.fr.ns;have nd:∀ b o,V.get? b=some o->b∉ag::((env.locals,oL)::m).map (·.1):=fun b o e hb=>by
  rcases jf.mp hb with rfl|hb
  ·rw[S.no] at e; cases e
  ·rcases jf.mp hb with rfl|hb
   ·exact absurd (jw e) (Nat.not_lt.mpr S.fr.above)
   ·obtain⟨p,hp,rfl⟩:=jM.mp hb;rw[(S.ap p (hm p hp)).2.2] at e; cases e
 have st:V.StaysIn (hideAll h (ag::((env.locals,oL)::m).map (·.1))):=fun b o e=>hideAll_get _ (S.keep e) (nd b o e);refine⟨oL,e1,fun vs q=>(by rw[e2] at q; cases q),⟨S.gd.keeps st,S.tab,fun p hp=>?_,fun q hq=>(S.ap q (hm q hq)).1,hd⟩,st⟩
 rcases jf.mp hp with rfl|hp
 ·exact⟨e1,jJ S.lt⟩
 ·exact⟨S.own _ (hm p hp),(S.ap p (hm p hp)).2.1⟩
def dQ(base:Heap)(m:ac)(env:Env)(outer:List Env)(mL:Str->Option Value)(e:Value)(h':Heap):Prop :=
 ∃ oL,bB (∀ vs,oL.data≠.fields vs) (h'.Ns env.locals mL) (dt base ((env.locals,oL)::m) (env::outer) e h')
theorem ap3{h h':Heap}{a:Addr}{o:Obj}{sl:Array (Option Value)}{m:Str->Option Value}(hn:h.Ns a m)(e:h.get? a=some o)(e':h'.get? a=some { o with slots:=sl }):h'.Ns a m:=by
 obtain⟨o',es,ep,x,y,r⟩:=hn;rw[e] at x
 cases x
 exact⟨_,es,ep,e',y,r⟩
theorem ar6{d k:Nat}{f:Value}{args:List Value}{outer:List Env}{m:ac}{Q:VP}(S:Fs c gs ns env V fx vs l h)(aG:A.frames=some (env::outer))(hm:∀ p∈m,p∈l)(hd:bn m)
  (ct:∀ oL,(∀ vs,oL.data≠.fields vs)->ck c ((env.locals,oL)::m) h->eV c d f args (env::outer) ((env.locals,oL)::m) h) (ar:Ar A k) (hk:d<=k) (q:∀ e h',dQ V m env outer (bO ns vs) e h'->E e h'):Wp c E A (call f args) Q h:=by
 obtain⟨oL,e1,e2,G,st⟩:=S.top hm hd;refine(ct oL e2 G A (ar.le hk) aG).mono (fun Z Z q=>q.elim) fun e h' R=>q e h' ⟨oL,e2,?_,R.base st⟩;obtain⟨sl,es⟩:=R.outs _ (.head _);exact ap3 S.fr.ns e1 es
def d6(base:Heap)(m:ac)(env:Env)(outer:List Env)(L:Addr)(e:Value)(h':Heap):Prop :=
 ∃ oL,(∀ vs,oL.data≠.fields vs)/\eA base ((L,oL)::m) (env::outer) L e h'
theorem ac2{L:Addr}{oL:Obj}{m:ac}(h1:∀ vs,oL.data≠.fields vs)(h2:∀ p∈m,∀ vs,p.2.data≠.fields vs):∀ p∈(L,oL)::m,∀ vs,p.2.data≠.fields vs:=af (h1) fun p hp=>h2 p hp
theorem bw0{outer:List Env}{m:ac}{base:Heap}{mL:Str->Option Value}{e:Value}{Q:Unit->Heap->Prop}(aG:A.frames=some (env::outer))(hf:env.frame=some env.locals)(hn:∀ p∈m,∀ vs,p.2.data≠.fields vs)
  (R:dQ base m env outer mL e h) (q:∀ h',d6 base m env outer env.locals e h'->Q () h'):Wp c E A (noteFrame e env) Q h:=by
 obtain⟨oL,h1,Z,R⟩:=R;exact a40 aG hf (ac2 h1 hn) R fun h' R'=>q h' ⟨oL,h1,R'⟩
theorem a24{outer:List Env}{m:ac}{base:Heap}{mL:Str->Option Value}{e:Value}{Q:Unit->Heap->Prop}(aG:A.frames=some (env::outer))(hf:env.frame=some env.locals)(hn:∀ p∈m,∀ vs,p.2.data≠.fields vs)
  (R:dQ base m env outer mL e h) (q:∀ h',dt base m outer e h'->Q () h'):Wp c E A (leaving env e) Q h:=by
 obtain⟨Z,h1,Z,R⟩:=R;exact bi8 aG hf (ac2 h1 hn) R q
theorem ap8{outer:List Env}{m:ac}{base:Heap}{L:Addr}{e:Value}{Q:Unit->Heap->Prop}(hf:env.frame=some L)(hn:∀ p∈m,∀ vs,p.2.data≠.fields vs)
  (R:d6 base m env outer L e h) (q:∀ h',dt base m outer e h'->Q () h'):Wp c E A (leaving env e) Q h:=by
 obtain⟨Z,h1,R⟩:=R;exact bi7 hf (ac2 h1 hn) R q
theorem bt1{base:Heap}{outs:ac}{lE:List Env}{L:Addr}{e:Value}{E:VP}(hf:env.frame=some L)(n:∀ p∈outs,∀ vs,p.2.data≠.fields vs)(R:eA base outs lE L e h)(q:∀ h',eA base outs lE L e h'->E e h')(tk:Tk) :
  cameBackBy (model c.prog c.w) A env (fun e s=>av fun h' tk'=>s=c.at h' tk'/\E e h') e (c.at h tk):=by
 obtain⟨⟨ea,B,a0,rfl,⟨hkb,hen,hl,oe,vs,T,oT,ts,he,hcls,hd,h1,hnT,hTe,hT,hdT,h3⟩,b1,b2⟩,ho⟩:=R;unfold cameBackBy;refine jb (wpAny_field (s:=c.at h tk) he hd h1 ?_);rw[if_neg (show ¬ ((Value.ref T==Value.none)=true) from by simp)];rw[hf];have hsz3:3<ts.size:=(Array.getElem?_eq_some_iff.mp h3).1;have other:∀ b,b≠T->(h.update T (Obj.mapFields (·.setIfInBounds 3 ((some L:Option Addr).elim Value.none fun f=>rawInt f)))).get? b=h.get? b :=
  fun b hb=>Heap.get?_update_other _ _ (Ne.symm hb)
 have noRecord:∀ b o,h.get? b=some o->(∀ vs,o.data≠.fields vs)->b≠T:=fun b o hb hnf q=>by
  rw[q,hT] at hb; injection hb with hb; subst hb; exact hnf ts hdT
 unfold setFlight;refine jb (wpAny_field (s:=c.at h tk) he hd h1 ?_);rw[if_pos (show(Value.ref T != Value.none)=true from by simp)];refine wpAny_setField (s:=c.at h tk) hT hdT hsz3 ⟨_,tk,rfl,q _ ⟨⟨ea,B,a0,rfl,⟨fun b o hbo=>(other b fun q=>by rw[q,hnT] at hbo; cases hbo).trans (hkb b o hbo),hen,hl.of_keeps fun b o hb hnf=>⟨o,(other b (noRecord b o hb hnf)).trans hb,rfl⟩,?_⟩,b1,b2⟩,?_⟩⟩
 ·exact⟨oe,vs,T,_,_,(other ea (Ne.symm hTe)).trans he,hcls,hd,h1,hnT,hTe,Heap.get?_update_self _ hT (Obj.isFreed_of_fields (Obj.data_mapFields hdT _)),Obj.data_mapFields hdT _,by simp [hsz3]⟩
 ·exact ho.up (fun b o hb hnf=>⟨o.slots,(other b (noRecord b o hb hnf)).trans hb⟩) n
theorem ba8{base:Heap}{m:ac}{outer:List Env}{L:Addr}{e:Value}{E:VP}(hf:env.frame=some L)(n:∀ p∈m,∀ vs,p.2.data≠.fields vs)(R:d6 base m env outer L e h)(q:∀ h',d6 base m env outer L e h'->E e h')(tk:Tk) :
  cameBackBy (model c.prog c.w) A env (fun e s=>av fun h' tk'=>s=c.at h' tk'/\E e h') e (c.at h tk):=by
 obtain⟨oL,h1,R⟩:=R;exact bt1 hf (ac2 h1 n) R (fun h' R'=>q h' ⟨oL,h1,R'⟩) tk
def a79(_:Cx)(A:Around)(env:Env)(EB E:VP):Prop :=
 ∀ e h tk,EB e h->notedBy (model c.prog c.w) A env (fun x s=>cameBackBy (model c.prog c.w) A env (fun e s=>av fun h' tk'=>s=c.at h' tk'/\E e h') x s) e (c.at h tk)
theorem a33{test:Expr}{body:List Stmt}{Q:FP}{EB:VP}(I:Nat->Heap->Prop)(n:Nat)(h0:I n h)(hE:a79 c A env EB E)
  (turn:∀ T,a77 (bu0 I Q) T->∀ n h,I n h->Wp c EB A (isTrue test env (eval test env)) (Kwh c EB body A env (T n) Q) h) :
  Wp c E A (exec (.While test body [] pos) env) Q h:=.mk fun tk=>by
 refine wpAny_While (codeAny_whileLoop (fun n s=>av fun h' t'=>s=c.at h' t'/\I n h') ?_ n ⟨h,tk,rfl,h0⟩);rintro n s ⟨h',t',rfl,hI⟩;refine jd ((turn _ .rfl n h' hI).run t') (fun b s zpa=>?_) (fun e s zpa=>by obtain⟨h1,t1,es,q⟩:=zpa; subst es; exact hE e h1 t1 q);obtain⟨h1,t1,e,k⟩:=zpa;subst e
 cases b with
 | false=>simp only[Bool.false_eq_true,if_false]; exact wpAny_execs_nil ⟨h1,t1,rfl,k.2 rfl⟩
 | true =>
  simp only[if_true];refine jd ((k.1 rfl).run t1) (fun f s zpa=>?_) (fun e s zpa=>by obtain⟨h1,t1,es,q⟩:=zpa; subst es; exact hE e h1 t1 q);obtain⟨h2,t2,e,k⟩:=zpa;subst e
  cases f with
  | next=>obtain⟨m,hm,hi⟩:=k; exact⟨m,hm,h2,t2,rfl,hi⟩
  | cont=>obtain⟨m,hm,hi⟩:=k; exact⟨m,hm,h2,t2,rfl,hi⟩
  | brk=>exact⟨h2,t2,rfl,k⟩
  | ret v=>exact⟨h2,t2,rfl,k⟩
theorem b13{base:Heap}{m:ac}{outer:List Env}{mL:Str->Option Value}(aG:A.frames=some (env::outer))(hf:env.frame=some env.locals)(hn:∀ p∈m,∀ vs,p.2.data≠.fields vs) :
  a79 c A env (dQ base m env outer mL) (d6 base m env outer env.locals):=fun e h tk R =>
 jd ((bw0 (Q:=fun Z h'=>d6 base m env outer env.locals e h') (E:=fun Z Z=>False) aG hf hn R fun h' q=>q).run tk) (fun Z s zpa=>by obtain⟨h1,t1,es,q⟩:=zpa; subst es; exact ba8 hf hn q (fun h' q=>q) t1) fun Z Z zpa=>by obtain⟨Z,Z,Z,q⟩:=zpa; exact q.elim
theorem a72{base:Heap}{m:ac}{outer:List Env}(aG:A.frames=some (env::outer))(hf:env.frame=some env.locals)(hn:∀ p∈m,∀ vs,p.2.data≠.fields vs) :
  a79 c A env (fun e h=>∃ oL,(∀ vs,oL.data≠.fields vs)/\Rai base ((env.locals,oL)::m) (env::outer) e h) (d6 base m env outer env.locals):=fun e h tk ⟨oL,h1,R⟩ =>
 jd ((bp6 (Q:=fun Z h'=>d6 base m env outer env.locals e h') (E:=fun Z Z=>False) aG hf (ac2 h1 hn) R fun h' q=>⟨oL,h1,q⟩).run tk) (fun Z s zpa=>by obtain⟨h1,t1,es,q⟩:=zpa; subst es; exact ba8 hf hn q (fun h' q=>q) t1) fun Z Z zpa=>by obtain⟨Z,Z,Z,q⟩:=zpa; exact q.elim
theorem cg0{d:Nat}{la:Value}{Q:VP}(S:Fs c gs ns env V fx vs l h)(ar:Ar A (d+3))(k:∀ e t dx h',h.get? e=none->h'.get? e=some (ag1 t dx)->Fs c gs ns env V fx vs l h'->Q (.ref e) h'):Wp c E A (call (.ref 52) [la]) Q h:=.mk fun tk=>by
 obtain⟨nm,q,N,bs,sn,sub,ab,col,dd,k0,k1,k2,k3,k5,hC⟩:=ax3 c.w.params;have G:=S.good;have X:=S.kin;have C0:=X _ _ hC;obtain⟨fI,hfI,hfc⟩:=ce8 c.w.params;refine bv8 (K:=c.K) PySem.F.excBase_Exception (by decide) (by decide) (by decide) X C0 (bt5 c.w.params) (X _ _ hfI) hfc (fun h1 e hm hsz=>?_) (by show 1<=sizeLine; rw[sizeLine_eq]; decide);obtain⟨t,he,htn,ht⟩:=hm.there;have hte:e≠ag:=fun q=>by
  obtain⟨ps,ht,Z⟩:=S.tab;have:=hm.new;rw[q,ht] at this
  cases this
 have ar':Ar (A.under (.builtin "type.__call__" ⟨[.ref 52,la],[]⟩)) (d+2):=by
  refine⟨ar.handled,?_,?_⟩
  ·have:=ar.depth;have e:(A.under (.builtin "type.__call__" ⟨[.ref 52,la],[]⟩)).depth=A.depth+1:=rfl;exact df6 this e
  ·have:=ar.units;have e:(A.under (.builtin "type.__call__" ⟨[.ref 52,la],[]⟩)).units<=A.units+8:=by
    show A.units+_<=_
    exact Nat.add_le_add_left (show _<=8 from by with_unfolding_all exact Nat.le_of_ble_eq_true rfl) _
   exact dg7 this e
 have W:Wp c (fun Z Z=>False) (A.under (.builtin "type.__call__" ⟨[.ref 52,la],[]⟩)) (call (.ref 36) [.ref e,la]) (fun r h'=>r=.none/\av fun t dx=>bU h h'/\h'.get? e=some (ag1 t dx)) h1:=by
  refine Cp.call (at3 (d:=d+1) ar' G.gd (S.tab.mono fun b o Z q=>hm.keeps b o q) (fun b o q=>hm.keeps b o (Heap.of_hide q)) (Heap.hide_self h ag) (by rw[Heap.hide_size]; exact hsz) (lA:=[(e,{ cls:=au1,data:=.fields #[.ref t,.none,.none,.none,.bool false,.none] })]) (fun p hp=>by rw[je.mp hp]; exact⟨he,hte,(Heap.hide_ne h hte).trans hm.new⟩) ⟨fun q hq=>absurd hq jm,trivial⟩ (by k_is) (by k_is)
   (binds:=[("self", .ref e),("told", la)]) (fun s X=>bZ X rfl (by k_is) rfl (by walk_at"u")) (rest:=[]) (ns:=["self", "told"]) rfl (vs:=[some (.ref e),some la]) rfl (gs:=[]) (by decide +kernel) ?_ (by walk_at"u") (by walk_at"u") (by walk_at"u") (by walk_at"u"))
  intro A L h2 ar hL Z Z S2 Z Z;ext;refine .mk fun tk2=>bn3 (K:=c.K) S2.kin (by decide) (fun self=>(refuseLoop_ref ..).trans (PySem.F.store_Exception.passes self)) (S2.kin _ _ hC) (S2.own _ (.head _)) rfl rfl (fun Z q=>by cases q) (ce7 c.w.params) (bt4 c.w.params) fun h3 tk3 dx e3 k3=>⟨h3,(tk3,tk2.2),rfl,?_⟩;have S3:Fs c _ _ _ _ _ _ [(e,ag1 t dx)] h3:=S2.update (ai.fld rfl (by simp)) .head e3 fun b x hb e=>k3 b x hb e;ext;exact⟨rfl,t,dx,S3.kept (jr hsz hL),S3.own _ (.head _)⟩
 refine jd (W.run tk) (fun r s zpa=>?_) fun Z Z zpa=>by obtain⟨Z,Z,Z,q⟩:=zpa; exact q.elim
 obtain⟨h2,t2,es,er,t',dx,kp,e2⟩:=zpa;subst es;exact⟨er,h2,t2,rfl,k e t' dx h2 hm.new e2 (S.after kp)⟩
end
end
def Ra1(base:Heap)(m:ac)(env:Env)(outer:List Env)(e:Value)(h:Heap):Prop:=∃ oL,(∀ vs,oL.data≠.fields vs)/\Rai base ((env.locals,oL)::m) (env::outer) e h
section
variable {E:VP} {gs ns:List Str} {pos:Pos} {A:Around} {env:Env} {V:Heap} {fx:ac} {l l':ac} {vs:LO} {h:Heap}
mutual
theorem av5{x:Expr}{Q:FP}(hh:A.handled=none)(H:Wp c E A (eval x env) (fun v O=>b5 fun ea t dx=>bK (v=.ref ea) (O.get? ea=some (ag1 t dx)) (c.K.In O) (E v O)) h):Wp c E A (exec (.Raise (some x) none pos) env) Q h:=.mk fun tk=>by
 rw[arm_exec_Raise];refine jb (wpAny_standAt ?_);rw[show evalOpt (some x) env=some (eval x env) from by walk_at"u"];dsimp only [Option.map];unfold raiseStmt;refine jb (jb (jd (H.run tk) (fun v s zpa=>?_) fun Z Z x=>x));obtain⟨h1,t1,e,ea,t,dx,ev,he,X,q⟩:=zpa;subst e ev;obtain⟨nm,q',N,bs,sn,sub,ab,col,dd,k0,k1,k2,k3,k5,hC⟩:=ax3 c.w.params;have C0:=X _ _ hC;refine jb (wpAny_standAt (jc ?_));have hcB:(Value.ref 52::[Value.ref 39,.type "Exception", .type "BaseException", .type "object"]).contains (.type "BaseException")=true:=by decide
 repeat (first|with_reducible refine wpAny_loadPart_at he ?_|with_reducible refine wpAny_loadPart_at C0 ?_|(with_reducible refine wpAny_isSubtype_exc C0 ?_; rw[hcB])|wp_step)
 exact wpAny_raiseNew_none hh ⟨h1,t1,rfl,q⟩
theorem Fs.rai{m:ac}{outer:List Env}{e t dx:Addr}(S:Fs c gs ns env V fx vs l h)(hf:env.frame=some env.locals)(hm:∀ p∈m,p∈l)(st:dp outer m)(he:h.get? e=some (ag1 t dx))(hn:V.get? e=none):Ra1 V m env outer (.ref e) h:=by
 obtain⟨oL,es,ep,e1,e2,e3⟩:=S.fr.ns;have hnL:∀ vs,oL.data≠.fields vs:=fun vs q=>by rw[e2] at q; cases q
 have hnm:=ac2 (L:=env.locals) hnL st.nof;have own:∀ p∈(env.locals,oL)::m,h.get? p.1=some p.2:=af (e1) fun p hp=>S.own _ (hm p hp);have code:∀ b o,h.get? b=some o->(b=ag\/ai o)->b∉e::((env.locals,oL)::m).map (·.1):=fun b o eb hb hmem=>by
  rcases jf.mp hmem with rfl|hmem
  ·rw[he] at eb
   cases eb
   rcases hb with hb|hb
   ·obtain⟨ps,et,Z⟩:=S.tab;rw[<- hb,he] at et
    cases et
   ·obtain⟨vs,t',d1,d2⟩:=hb
    cases d1
    cases d2
  ·obtain⟨p,hp,rfl⟩:=jM.mp hmem;have ep:=own p hp;rw[ep] at eb
   cases eb
   rcases hb with hb|⟨vs,t',d1,d2⟩
   ·rcases jf.mp hp with rfl|hp
    ·exact jJ S.lt hb
    ·exact(S.ap p (hm p hp)).2.1 hb
   ·exact hnm p hp vs d1
 refine⟨oL,hnL,⟨e,hideAll h (e::((env.locals,oL)::m).map (·.1)),t,dx,rfl,he,fun b o x=>of_hideAll _ x,hideAll_none _ (.head _),?_,fun b o x=>hideAll_get _ (S.keep x) fun hmem=>?_,S.tab.mono fun b o hb x=>hideAll_get _ x (code b o x hb)⟩,dS.of own⟩
 ·exact(dp.cons hf (by rw[S.pl.1]; decide) hnL st).fun own fun p hp=>hideAll_none _ (.tail _ (List.mem_map_of_mem hp))
 ·rcases jf.mp hmem with rfl|hmem
  ·rw[hn] at x; cases x
  ·rcases jf.mp hmem with rfl|hmem
   ·exact absurd (jw x) (Nat.not_lt.mpr S.fr.above)
   ·obtain⟨p,hp,rfl⟩:=jM.mp hmem;rw[(S.ap p (hm p hp)).2.2] at x; cases x
theorem bc6{d:Nat}{la:Value}{m:ac}{outer:List Env}{Q:VP}(S:Fs c gs ns env V fx vs l h)(ar:Ar A (d+3))(hf:env.frame=some env.locals)(hm:∀ p∈m,p∈l)(st:dp outer m)(q:∀ e h',Ra1 V m env outer e h'->E e h')
  (k:∀ v h',(b5 fun ea t dx=>bK (v=.ref ea) (h'.get? ea=some (ag1 t dx)) (c.K.In h') (E v h'))->Q v h'):Wp c E A (call (.ref 52) [la]) Q h :=
 cg0 S ar fun e t dx h' hn he S'=>k _ h' ⟨e,t,dx,rfl,he,S'.kin,q _ h' (S'.rai hf hm st he (by cases x:V.get? e with|none=>rfl|some o=>rw[S.keep x] at hn; cases hn))⟩
end
end
inductive cY(ks:List Int)(b:Int):Nat->Int->Prop
 | short {a p}:ks.length<=a->cY ks b a p
 | fgx {a p}:a<ks.length->dO (ks.getD a 0)=none->cY ks b a p
 | on {a p k}:a<ks.length->dO (ks.getD a 0)=some k->k<36->ao p b<=k->cY ks b (a+1) (p+1)->cY ks b a p
theorem bx6{x k:Int}(h:dO x=some k):0<=k/\k<36:=by
 unfold dO at h
 split at h
 ·cases h; exact de4 (by assumption)
 ·split at h
  ·cases h; exact de2 (by assumption)
  ·split at h
   ·cases h; exact de1 (by assumption)
   ·cases h
namespace X58
mutual
def P(g:Heap)(m:ac)(outer:List Env)(nx:Addr)(b:Array UInt8)(t ta tb:Tok)(ks:List Int)(at0:Nat)(bias:Int):Prop:=∀ (G:ck c m g) (st:dp outer m) (I:bt (bo (m.map (·.1)) g) nx 276 bR) (hk:KBw.bInts b=ks) (hn:ks.length<=1000) (h0:at0<=1000) (hno:cY ks bias at0 1),eV c 5 (.ref 310) [.bytes b t,.int at0 ta,.int bias tb,.ref nx] outer m g
def Q(w:Heap×(ac)×(List Env)×Addr×(Array UInt8)×Tok×Tok×Tok×(List Int)×Nat×Int):=P w.1 w.2.1 w.2.2.1 w.2.2.2.1 w.2.2.2.2.1 w.2.2.2.2.2.1 w.2.2.2.2.2.2.1 w.2.2.2.2.2.2.2.1 w.2.2.2.2.2.2.2.2.1 w.2.2.2.2.2.2.2.2.2.1 w.2.2.2.2.2.2.2.2.2.2
def w:=@Classical.epsilon _ ⟨(default,[],[],0,#[],default,default,default,[],0,0)⟩ fun w=>¬ Q w
def g:=w.1
def m:=w.2.1
def outer:=w.2.2.1
def nx:=w.2.2.2.1
def b:=w.2.2.2.2.1
def t:=w.2.2.2.2.2.1
def ta:=w.2.2.2.2.2.2.1
def tb:=w.2.2.2.2.2.2.2.1
def ks:=w.2.2.2.2.2.2.2.2.1
def at0:=w.2.2.2.2.2.2.2.2.2.1
def bias:=w.2.2.2.2.2.2.2.2.2.2
theorem th:P g m outer nx b t ta tb ks at0 bias:=by
 intro G st I hk hn h0 hno;intro A ar aG;have I:=I.mono bo.in;refine ae5 (EB:=fun env e h=>d6 (hideAll g (ag::m.map (·.1))) m env outer env.locals e h) ar aG G (by k_is) (by k_is) (binds:=[("octets", .bytes b t),("at", .int at0 ta),("bias", .int bias tb),("numbers", .ref nx)]) (fun s X=>jx rfl) (rest:=["value", "weight", "place", "figure", "least"]) (ns:=["octets", "at", "bias", "numbers", "value", "weight", "place", "figure", "least"]) rfl (vs:=[some (.bytes b t),some (.int at0 ta),some (.int bias tb),some (.ref nx),none,none,none,none,none]) rfl (gs:=["len", "puny_value", "BadLabel"]) (by decide +kernel) ?_ ?_
 ·intro A L h ar aG hL Z Z S Z Z;ext;refine cL (items:=[_,_,_]) S ar.handled (S.own _ (.head _)) rfl rfl fun h S=>?_
  show Wp _ _ _ (assignInOrder [_,_,_] _) _ _
  have S:=S.drop;walk_at"st";walk_at"s";have hnum:=as5 c.w.params;refine a33 (EB:=Ra1 (hideAll g (ag::m.map (·.1))) m _ outer) (fun n h=>ay0 fun(p wt val:Int) (at':Nat) (t1 t2 t3 t4:Tok) (o1 o2:Option Value)=>bK (S.like [some (.bytes b t),some (.int at' t1),some (.int bias tb),some (.ref nx),some (.int val t2),some (.int wt t3),some (.int p t4),o1,o2] m h) (n=1001-at') (at'<=1001) (cY ks bias at' p)) (1001-at0) ⟨1,1,0,at0,_,_,_,_,none,none,S,rfl,by exact cq4 h0,hno⟩ (a72 aG rfl st.nof) ?_;rintro _ _ n h ⟨p,wt,val,at',t1,t2,t3,t4,o1,o2,(S:Fs _ _ _ _ _ _ _ _ _),rfl,hat,hno⟩;have ht:=ac5 p bias
  cases hno with
  | short hs =>
   ext;refine ab8 hk (z7 hn) fun Z=>?_;ext;refine BB.pos (jz (ct6 hs)) ?_;ext;refine av5 ar.handled ?_;ext;refine ad S (bd (by simp)) ?_;intro la h Z Z Z S;ext;refine bc6 S ar rfl (fun p hp=>.tail _ hp) st (fun e h' q=>q) fun v h' q=>?_;ext;exact q
  | fgx hl hp =>
   ext;refine ab8 hk (z7 hn) fun Z=>?_;ext;refine BB.neg (jy (z75 hl)) ?_;ext;refine af1 hk (z7 hn) (z9) (eP hl) fun Z=>?_;rw[show(at':Int).toNat=at' by exact z47];ext;refine ba S (at6 S.good _ _) ar fun r h S Z e=>?_;unfold dF at e;rw[hp] at e;subst e;ext;refine av5 ar.handled ?_;ext;refine ad S (bd (by simp)) ?_;intro la h Z Z Z S;ext;refine bc6 S ar rfl (fun p hp=>.tail _ hp) st (fun e h' q=>q) fun v h' q=>?_;ext;exact q
  | on hl hp hk36 hth hno' =>
   ext;refine ab8 hk (z7 hn) fun Z=>?_;ext;refine BB.neg (jy (z75 hl)) ?_;ext;refine af1 hk (z7 hn) (z9) (eP hl) fun Z=>?_;rw[show(at':Int).toNat=at' by exact z47];ext;refine ba S (at6 S.good _ _) ar fun r h S Z e=>?_;unfold dF at e;rw[hp] at e;obtain⟨tf,rfl⟩:=e;ext;refine am S I (bh (by decide +kernel)) bu (v:=.int 36 573) d8 rfl ?_;ext;refine BB.neg (jy (ct3 hk36)) ?_;ext;have hkr:=bx6 hp;refine ai8 (fun Z=>?_) (IntMulOk.of_left (intBits_le_iff.mpr (na hkr.1 (Int.lt_trans hkr.2 (by decide)))));ext;refine bx S I hnum.1 (by decide +kernel) ?_;ext;refine ch S (at5 S.good (I.mono S.hs) _ _ _ _) ar fun tk h S Z=>?_;ext;refine BB.neg (jy (b69 hth)) ?_;ext;refine am S I (bh (by decide +kernel)) bu (v:=.int 36 573) d8 rfl ?_;ext;refine ai8 (fun Z=>?_) (bd3 (n36 ht));ext;exact⟨1001-(at'+1),by exact z62 hn hl,p+1,_,_,at'+1,_,_,_,_,_,_,S,rfl,by exact c37 hn hl,hno'⟩
 ·intro A L e h' aG R;exact ap8 rfl st.nof R fun h' q=>q
end
end X58
theorem bs1{g m outer nx b t ta tb ks at0 bias}:X58.P g m outer nx b t ta tb ks at0 bias:=c7 (P:=X58.Q) (a:=X58.w) rfl X58.th (g,m,outer,nx,b,t,ta,tb,ks,at0,bias)
theorem Fs.hsT{h:Heap}{env:Env}{gs ns:List Str}{V:Heap}{fx:ac}{vs:LO}{l m:ac}{oL:Obj}(S:Fs c gs ns env V fx vs l h)(hm:∀ p∈m,p∈l)(a:Addr)(o:Obj)(x:In V fx a o):bo (((env.locals,oL)::m).map (·.1)) h a o:=by
 obtain⟨x1,x2⟩:=S.hs a o x;refine⟨x1,x2,fun q=>?_⟩
 rcases jf.mp q with rfl|q
 ·rcases x with x|x
  ·exact absurd (jw x) (Nat.not_lt.mpr S.fr.above)
  ·exact(S.off _ x).1.1 rfl
 ·obtain⟨p,hp,rfl⟩:=jM.mp q
  rcases x with x|x
  ·rw[(S.ap p (hm p hp)).2.2] at x; cases x
  ·exact(S.off _ x).2 p (hm p hp) rfl
namespace X59
mutual
def P(g:Heap)(m:ac)(outer:List Env)(b:Array UInt8)(t:Tok)(ks:List Int):Prop:=∀ (G:ck c m g) (st:dp outer m) (hk:KBw.bInts b=ks) (hn:ks.length<=1000) (hs:∀ x∈(aY ks).1,x<128) (hat:(aY ks).2<ks.length) (hno:cY ks 72 (aY ks).2 1) (hsl:(aY ks).1.length<=1000),eV c 7 (.ref 366) [.bytes b t,.none] outer m g
def Q(w:Heap×(ac)×(List Env)×(Array UInt8)×Tok×(List Int)):=P w.1 w.2.1 w.2.2.1 w.2.2.2.1 w.2.2.2.2.1 w.2.2.2.2.2
def w:=@Classical.epsilon _ ⟨(default,[],[],#[],default,[])⟩ fun w=>¬ Q w
def g:=w.1
def m:=w.2.1
def outer:=w.2.2.1
def b:=w.2.2.2.1
def t:=w.2.2.2.2.1
def ks:=w.2.2.2.2.2
theorem th:P g m outer b t ks:=by
 intro G st hk hn hs hat hno hsl;intro A ar aG;refine ae5 (EB:=fun env e h=>d6 (hideAll g (ag::m.map (·.1))) m env outer env.locals e h) ar aG G (by k_is) (by k_is) (binds:=[("octets", .bytes b t),("numbers", .none)]) (fun s X=>bZ X rfl (by k_is) rfl (by walk_at"u")) (rest:=["basic", "at", "text", "capitals", "octet", "code", "index", "bias", "delta", "many"]) (ns:=["octets", "numbers", "basic", "at", "text", "capitals", "octet", "code", "index", "bias", "delta", "many"]) rfl (vs:=[some (.bytes b t),some .none,none,none,none,none,none,none,none,none,none,none]) rfl (gs:=["PunyNumbers", "puny_split", "puny_basic", "BadLabel", "puny_is_capital", "len", "puny_number_at", "MAX_CODE", "is_scalar"]) (by decide +kernel) ?_ ?_
 ·intro A L h ar aG hL Z Z S Z Z;ext;refine aJ ?_;ext;refine ba S (ap5 S.good (ap7 S.good) (by k_is) (by k_is) (by k_is)) ar fun v h Z k q'=>?_;obtain⟨nx,e,Z,I⟩:=q';subst e;obtain⟨ents,S,I⟩:=S.takeSupp k hL I.supp;have I:bt (In (hideAll g (ag::m.map (·.1))) (ents++[])) nx 276 bR:=I.mono fun a o y=>y.1;ext;refine ba S (a61 S.good hk hn) ar fun v h S Z q'=>?_;obtain⟨a,b',t',u,n,e,ea,hb⟩:=q';subst e;generalize (aY ks).1=pre at hs hsl hb;generalize (aY ks).2=at0 at hat hno ea;refine cL (items:=[_,_]) S ar.handled ea rfl rfl fun h S=>?_
  show Wp _ _ _ (assignInOrder [_,_] _) _ _
  ext;refine bl (x := "text") (y := "capitals") ?_;ext;refine ad S (by decide) ?_;intro ta h hta Z Z S;ext;refine ad S (by decide) ?_;intro ca h Z Z Z S;ext;refine bD S ar.handled (S.own _ (.head _)) rfl fun h S=>⟨_,_,rfl,?_⟩;have S:=Fs.front1 S.drop;ext;refine a49 ar.handled S hb fun it h S src=>?_;refine aS (src _ _) S (fun i vs l=>dU fun its k cits k2 o1=>bK (vs=[some (.bytes b t),some (.ref nx),some (.bytes b' t'),some (.int at0 u),some (.ref ta),some (.ref ca),o1,none,none,none,none,none]) (l=(ta,listOf (List.toArray its) k)::(ca,listOf (List.toArray cits) k2)::m) (its.length=i) (cits.length=i)) ⟨[],_,[],_,none,rfl,rfl,rfl,rfl⟩ ?_ ?_
  ·rintro Z Z i v vs l h own hii ⟨Z,tv,rfl⟩ ⟨its,k,cits,k2,o1,rfl,rfl,q1,q2⟩ S;have hmm:=bS hii;have hlt:=hs _ hmm;generalize pre.getD i 0=code at hmm hlt;ext;refine bq S (aq6 S.good ((I.mono In.app).mono S.hs) _ _) ar fun h S Z=>?_;rw[jz hlt];ext;refine aj S .head (ca0 hsl hii q1) ?_;intro Z h S;ext;refine ch S (am4 S.good _ _) ar fun cb h S Z=>?_;ext;refine aj S (.tail .head) (ca0 hsl hii q2) ?_;intro Z h S;ext;exact⟨_,_,⟨_,_,_,_,_,rfl,rfl,by simp [q1],by simp [q2]⟩,S⟩
  rintro Z Z h ⟨its,k,cits,k2,o1,e1v,e2l,q1,q2⟩ S;refine S.castL e1v e2l ?_;intro Z Z S;walk_at"s";walk_at"s";refine am8 (x := "code") (y := "index") (z := "bias") ?_;ext;refine am S I (bh (by decide +kernel)) bu (v:=.int 128 579) nA6 rfl ?_;ext;refine am S I (bh (by decide +kernel)) bu (v:=.int 72 578) nA5 rfl ?_;ext;refine bD S ar.handled (S.own _ (.head _)) rfl fun h S=>⟨_,_,_,rfl,?_⟩;have S:=S.drop;walk_at"st";walk_at"s";have S1:=S;refine a33 (EB:=fun e h=>∃ mL,dQ (hideAll g (ag::m.map (·.1))) m _ outer mL e h) (fun n h=>S1.like _ _ h) 0 S1 (fun e h tk zpa=>by obtain⟨mL,R⟩:=zpa; exact b13 aG rfl st.nof e h tk R) ?_;rintro _ _ n h (S:Fs _ _ _ _ _ _ _ _ _);ext;refine ab8 hk (z7 hn) fun Z=>?_;ext;refine BB.pos (jz (eP hat)) ?_;ext;refine ar6 S aG (fun p hp=>.tail _ (.tail _ hp)) G.ord (fun oL h1 G'=>bs1 G' (.cons rfl (by rw[S.pl.1]; decide) h1 st) (I.mono (S.hsT fun p hp=>.tail _ (.tail _ hp))) hk hn (cx5 hn hat) hno) ar (by decide) fun e h' R=>⟨_,R⟩
 ·intro A L e h' aG R;exact ap8 rfl st.nof R fun h' q=>q
end
end X59
mutual
theorem bs8{g m outer b t ks}:X59.P g m outer b t ks:=c7 (P:=X59.Q) (a:=X59.w) rfl X59.th (g,m,outer,b,t,ks)
theorem bl2{g:Heap}{m:ac}{outer:List Env}(G:ck c m g)(st:dp outer m){b:Array UInt8}{t:Tok}{ks:List Int}(hk:KBw.bInts b=ks)(hn:ks.length<=1000)(hs:∀ x∈(aY ks).1,x<128)(hat:(aY ks).2<ks.length)(hno:cY ks 72 (aY ks).2 1)(hsl:(aY ks).1.length<=1000) :
  eV c 8 (.ref 374) [.bytes b t] outer m g:=by
 intro A ar aG;refine ae5 (EB:=fun env e h=>∃ mL,dQ (hideAll g (ag::m.map (·.1))) m env outer mL e h) ar aG G (by k_is) (by k_is) (binds:=[("octets", .bytes b t),("numbers", .none)]) (fun s X=>bZ X rfl (by k_is) rfl (by walk_at"u")) (rest:=[]) (ns:=["octets", "numbers"]) rfl (vs:=[some (.bytes b t),some .none]) rfl (gs:=["decode_annotated"]) (by decide +kernel) ?_ ?_
 ·intro A L h ar aG hL Z Z S Z Z;ext;exact ar6 S aG (fun p hp=>hp) G.ord (fun oL h1 G'=>bs8 G' (.cons rfl (by rw[S.pl.1]; decide) h1 st) hk hn hs hat hno hsl) ar (by decide) fun e h' R=>⟨_,R⟩
 ·intro A L e h' aG ⟨mL,R⟩;exact a24 aG rfl st.nof R fun h' q=>q
noncomputable def af5(h:Heap)(m:ac):ac:=m.map fun p=>(p.1,(h.get? p.1).getD p.2)
theorem bc4(h:Heap)(m:ac):(af5 h m).map (·.1)=m.map (·.1):=by simp [af5,List.map_map,Function.comp_def]
theorem bc3{h:Heap}{m:ac}(s:dS m h):∀ p∈af5 h m,h.get? p.1=some p.2:=fun p hp=>by
 obtain⟨q,hq,rfl⟩:=jM.mp hp;obtain⟨sl,e⟩:=s q hq
 show h.get? q.1=some ((h.get? q.1).getD q.2)
 rw[e]; rfl
end
section
variable {E:VP} {gs ns:List Str} {pos:Pos} {A:Around} {env:Env} {V:Heap} {fx:ac} {l l':ac} {vs:LO} {h:Heap}
mutual
theorem dQ.fs{h':Heap}{m:ac}{outer:List Env}{e:Value}(S:Fs c gs ns env V fx vs l h)(hm:∀ p∈m,p∈l)(hd:bn m)(R:dQ V m env outer (bO ns vs) e h'):Fs c gs ns env V [] vs (af5 h' m) h'/\dS m h':=by
 obtain⟨oL,hn,hns,⟨ea,B,a0,er,hfl,b1,b2⟩,ho⟩:=R;have hs:dS m h':=fun p hp=>ho p (.tail _ hp);have ha:∀ p∈af5 h' m,∃ q∈l,q.1=p.1:=fun p hp=>by
  obtain⟨q,hq,rfl⟩:=jM.mp hp;exact⟨q,hm q hq,rfl⟩
 exact⟨{
  fr:=⟨hns,fun b o x=>hfl.1 b o (b1 b o x),S.fr.above⟩
  own:=bc3 hs
  ord:=hd.same (bc4 h' m)
  ap:=fun p hp=>by obtain⟨q,hq,e⟩:=ha p hp; rw[<- e]; exact S.ap q hq
  tab:=b2.mono fun b o Z x=>hfl.1 b o x
  lt:=S.lt
  no:=S.no
  gd:=S.gd
  fn:=S.fn
  pl:=S.pl
  fix:=fun p hp=>absurd hp jm
  off:=fun p hp=>absurd hp jm },hs⟩
theorem dQ.hld{h':Heap}{m:ac}{outer:List Env}{mL:Str->Option Value}{e:Value}{oL:Obj}{sl:Array (Option Value)}(hn:∀ vs,oL.data≠.fields vs)(hns:h.Ns env.locals mL)(x:h.get? env.locals=some { oL with slots:=sl })(R:dt V ((env.locals,oL)::m) (env::outer) e h'):dQ V m env outer mL e h':=by
 obtain⟨sl',e'⟩:=R.outs _ (.head _);exact⟨oL,hn,ap3 (o:={ oL with slots:=sl }) hns x e',R⟩
theorem bh2{np hpos:Pos}{body:List Stmt}{bA:Stmt}{suite:List Stmt}{m:ac}{outer:List Env}{Q:FP}(S:Fs c gs ns env V fx vs l h)(hm:∀ p∈m,p∈l)(hd:bn m)(st:dp outer m)(aG:A.frames=some (env::outer))(hf:env.frame=some env.locals)(hg:a44 gs "BadLabel" = true)
  (hb:nsIn (Mine.hd.heap_39 c.w.params) mainGlobals "BadLabel" = some (some (.ref 52)))
  (H:Wp c (dQ V m env outer (bO ns vs)) A (execs body env) (d5 c E [] A env Q) h)
  (K:∀ ea h',Fs c gs ns env V [] vs (af5 h' m) h'->dS m h'->Wp c (fun Z Z=>False) (A.mark (some (.ref ea))) (execs (bA::suite) env) Q h') :
  Wp c E A (exec (.Try body [.ExceptHandler (some (.Name "BadLabel" np)) none (bA::suite) hpos] [] [] pos) env) Q h:=.mk fun tk=>by
 obtain⟨nm,q',N,bs,sn,sub,ab,col,dd,k0,k1,k2,k3,k5,hC⟩:=ax3 c.w.params;refine wpAny_Try_except (s:=c.at h tk) (jd (H.run tk) (fun f s zpa=>?_) fun e s ⟨h1,t1,es,R⟩=>?_)
 ·obtain⟨h1,t1,e,k⟩:=zpa;subst e
  cases f with
  | next=>exact k.run t1
  | _=>exact⟨h1,t1,rfl,k⟩
 ·subst es;obtain⟨oL,hn,hns,R⟩:=R;have hnm:=ac2 (L:=env.locals) hn st.nof;obtain⟨sl1,x1⟩:=R.outs _ (.head _);refine jd ((a40 (Q:=fun Z h'=>eA V ((env.locals,oL)::m) (env::outer) env.locals e h') (E:=fun Z Z=>False) aG hf hnm R fun h' q=>q).run t1) (fun Z s zpa=>?_) fun Z Z zpa=>by obtain⟨Z,Z,Z,q⟩:=zpa; exact q.elim
  obtain⟨h2,t2,es,R2⟩:=zpa;subst es;refine jd ((a45 (A:=A) (Q:=fun Z h'=>dt V ((env.locals,oL)::m) (env::outer) e h') (E:=fun Z Z=>False) hnm R2 fun h' q=>q).run t2) (fun Z s zpa=>?_) fun Z Z zpa=>by obtain⟨Z,Z,Z,q⟩:=zpa; exact q.elim
  obtain⟨h3,t3,es,R3⟩:=zpa;subst es;obtain⟨ea,B,a0,er,hfl,b1,b2⟩:=id R3.ex;subst er;obtain⟨S3,hs3⟩:=dQ.fs S hm hd (dQ.hld hn hns x1 R3);have C3:=S3.kin _ _ hC;obtain⟨ob,hob,hobc⟩:=hfl.there;have EV:Wp c (fun Z Z=>False) (A.mark (some (.ref ea))) (eval (.Name "BadLabel" np) env) (fun v h'=>v=.ref 52/\h'=h3) h3:=cb9 ⟨rfl,rfl⟩ S3 hg hb;refine wpAny_handleBy_cons (codeAny_handlers_test (jd (EV.run t3) (fun v s zpa=>?_) fun Z Z zpa=>by obtain⟨Z,Z,Z,q⟩:=zpa; exact q.elim)) (by intro q; cases q);obtain⟨h4,t4,es,ev,eh⟩:=zpa;subst es ev eh;refine wpAny_excMatches_sub_self C3 hob hobc (by decide) (codeAny_handlers_suite ?_);refine jd ((bq8 (A:=A.mark (some (.ref ea))) (Q:=fun Z h'=>dt V ((env.locals,oL)::m) (env::outer) (.ref ea) h') (E:=fun Z Z=>False) hnm R3 fun h' q=>q).run t4) (fun Z s zpa=>?_) fun Z Z zpa=>by obtain⟨Z,Z,Z,q⟩:=zpa; exact q.elim
  obtain⟨h5,t5,es,R5⟩:=zpa;subst es;obtain⟨S5,hs5⟩:=dQ.fs S hm hd (dQ.hld hn hns x1 R5);exact jd ((K ea h5 S5 hs5).run t5) (fun f s q=>q) fun Z Z zpa=>by obtain⟨Z,Z,Z,q⟩:=zpa; exact q.elim
def CtS(_:Cx)(d:Nat)(f:Value)(args:List Value)(outer:List Env)(m:ac)(h:Heap)(Post:VP):Prop :=
 ∀ A,Ar A d->A.frames=some outer->Wp c (fun Z Z=>False) A (call f args) (fun v h'=>ak0 (m.map (·.1)) h h'/\dS m h'/\Post v h') h
theorem bc5{d k:Nat}{f:Value}{args:List Value}{Post:VP}{Q:VP}(S:Fs c gs ns env V fx vs l h)(aG:A.frames=some [env])(hf:env.frame=some env.locals)
  (ct:∀ oL,dp [env] [(env.locals,oL)]->ck c [(env.locals,oL)] h->(∀ a o,In V fx a o->bo [env.locals] h a o)->CtS c d f args [env] [(env.locals,oL)] h Post) (ar:Ar A k) (hk:d<=k)
  (q:∀ v h',Fs c gs ns env V fx vs l h'->ak0 [env.locals] h h'->Post v h'->Q v h'):Wp c E A (call f args) Q h:=by
 obtain⟨oL,e1,e2,G,st⟩:=S.top (m:=[]) (fun p hp=>absurd hp jm) trivial;refine(ct oL (.cons hf (by rw[S.pl.1]; decide) e2 .nil) G (fun a o x=>S.hsT (m:=[]) (oL:=oL) (fun p hp=>absurd hp jm) a o x) A (ar.le hk) aG).conseq fun v h' ⟨kb,hs,hp⟩=>q v h' ?_ kb hp;obtain⟨sl,e'⟩:=hs _ (.head _);have nL:∀ {b:Addr},b≠env.locals->b∉([(env.locals,oL)]:ac).map (·.1):=fun h q=>h (je.mp q);exact{
  fr:=⟨ap3 S.fr.ns e1 e',fun b o x=>kb.stays b o (nL fun q=>by subst q; exact absurd (jw x) (Nat.not_lt.mpr S.fr.above)) (fun q=>by subst q; rw[S.no] at x; cases x) (S.keep x),S.fr.above⟩
  own:=fun p hp=>kb.stays _ _ (nL (S.ap p hp).1) (S.ap p hp).2.1 (S.own p hp)
  ord:=S.ord
  ap:=S.ap
  tab:=kb.tab
  lt:=S.lt
  no:=S.no
  gd:=S.gd
  fn:=S.fn
  pl:=S.pl
  fix:=fun p hp=>kb.stays _ _ (nL (S.off p hp).1.1) (S.off p hp).1.2.1 (S.fix p hp)
  off:=S.off }
end
end
mutual
theorem Fs.keptS{env:Env}{gs ns:List Str}{fx:ac}{vs:LO}{l m:ac}{g h h':Heap}(S:Fs c gs ns env (hideAll g (ag::m.map (·.1))) fx vs l h')(hL:g.objs.size<=env.locals)(hs:dS m h)(hl:∀ p∈af5 h m,p∈l):ak0 (m.map (·.1)) g h'/\dS m h':=by
 refine⟨⟨fun b o hb ht g=>S.fr.keep b o (hideAll_get _ g fun q=>(jf.mp q).elim ht hb),S.tab,jI (ju hL S.fr.ns.lt)⟩,fun p hp=>?_⟩;obtain⟨sl,e⟩:=hs p hp;have:=S.own _ (hl _ (jM.mpr ⟨p,hp,rfl⟩));refine⟨sl,this.trans ?_⟩;rw[e]; rfl
def a76(g h':Heap)(lx:Addr)(r:Value):Prop:=b5 fun a n wa=>bB (r=.ref a) (h'.get? a=some { cls:=.type "tuple", data:=.seq #[.ref lx,.ref wa] n }) (LS (Nw g h') wa ["punycode"])
theorem ah8{g:Heap}{m:ac}{outer:List Env}(G:ck c m g)(st:dp outer m){lx:Addr}{x fl:Value}{ks:List Int}(hx:LI (bo (m.map (·.1)) g) lx (aF++ks))(hr:∀ x∈ks,0<=x/\x<256)(hn:ks.length<=1000)(hs:∀ x∈(aY ks).1,x<128)(hat:(aY ks).2<ks.length)(hno:cY ks 72 (aY ks).2 1)(hsl:(aY ks).1.length<=1000) :
  CtS c 10 (.ref 471) [.ref lx,x,fl] outer m g (fun r h'=>a76 g h' lx r):=by
 intro A ar aG;refine ae5 (EB:=fun Z Z Z=>False) ar aG G (by k_is) (by k_is) (binds:=[("label", .ref lx),("data", x),("flags", fl)]) (fun s X=>jx rfl) (rest:=["shown", "words"]) (ns:=["label", "data", "flags", "shown", "words"]) rfl (vs:=[some (.ref lx),some x,some fl,none,none]) rfl (gs:=["decode_label", "bytes", "len", "PREFIX", "idna_label_words", "idna_is_ascii", "BadLabel"]) (by decide +kernel) ?_ (fun Z Z Z Z Z q=>q.elim);intro A L h ar aG hL Z Z S Z Z;obtain⟨vs0,n0,ea,hi⟩:=hx.mono bo.in;obtain⟨pits,pn,pl,pi⟩:=aa6 c.w.params;have hpl:pits.length=4:=pi.length;have hlen:vs0.length=4+ks.length:=by rw[hi.length,jl]; rfl
 walk_at"s";refine bh2 S (fun p hp=>hp) G.ord st aG rfl (by walk_at"u") (by k_is) ?_ ?_
 ·ext;refine bQ (S.kin _ _ pl) (eN hpl) fun Z=>?_;rw[hpl];ext;refine aQ S (S.at' ea) (.int _ _) .none (c10 hn hlen) ?_;intro r1 h Z Z S;ext;have hsx:=bf hi (some ((4:Nat):Int)) none;rw[ad0 (l:=aF++ks),show(4:Nat)=aF.length from rfl,List.drop_left] at hsx;refine aw0 S ar.handled (S.own _ (.head _)) hsx hr (z7 hn) fun b t h hb S=>?_;have S:=S.drop;ext;exact ar6 S aG (fun p hp=>hp) G.ord (fun oL h1 G'=>bl2 G' (.cons rfl (by rw[S.pl.1]; decide) h1 st) hb hn hs hat hno hsl) ar (by decide) fun e h' R=>R
 ·intro ea' h' S hs';have S0:=S;ext;refine ad S (bd (by simp)) ?_;intro wa h2 hw Z Z S;have hwa:=S0.new (g:=g) hL hw;ext;obtain⟨k1,k2⟩:=S.keptS (h:=h') hL hs' fun p hp=>.tail _ (.tail _ hp);exact⟨k1,k2,_,_,wa,rfl,S.own _ (.head _),[_],_,⟨S.own _ (.tail _ (.head _)),hwa⟩,.cons _ _ .nil⟩
theorem a05{g:Heap}{m:ac}{outer:List Env}(G:ck c m g)(st:dp outer m){lx:Addr}{x fl:Value}{ks:List Int}(hx:LI (bo (m.map (·.1)) g) lx (aF++ks))(hr:∀ x∈ks,0<=x/\x<256)(hn:ks.length<=900)(hs:∀ x∈(aY ks).1,x<128)(hat:(aY ks).2<ks.length)(hno:cY ks 72 (aY ks).2 1)(hsl:(aY ks).1.length<=1000)(hlow:((aF++ks).any fun x=>decide (127<x))=false) :
  CtS c 12 (.ref 478) [.ref lx,x,fl] outer m g (fun r h'=>a76 g h' lx r):=by
 intro A ar aG;refine ae5 (EB:=fun Z Z Z=>False) ar aG G (by k_is) (by k_is) (binds:=[("label", .ref lx),("data", x),("flags", fl)]) (fun s X=>jx rfl) (rest:=[]) (ns:=["label", "data", "flags"]) rfl (vs:=[some (.ref lx),some x,some fl]) rfl (gs:=["len", "PREFIX", "idna_label_words", "idna_is_ascii", "idna_opened"]) (by decide +kernel) ?_ (fun Z Z Z Z Z q=>q.elim);intro A L h ar aG hL Z Z S Z Z;obtain⟨vs0,n0,ea,hi⟩:=hx.mono bo.in;obtain⟨pits,pn,pl,pi⟩:=aa6 c.w.params;have hpl:pits.length=4:=pi.length;have hlen:vs0.length=4+ks.length:=by rw[hi.length,jl]; rfl
 ext;refine bQ (S.kin _ _ pl) (eN hpl) fun Z=>?_;rw[hpl];ext;refine aQ S (S.at' ea) .none (.int _ _) (z76 hn hlen) ?_;intro r1 h Z Z S;ext;have hsx:=bf hi none (some ((4:Nat):Int));rw[cx (l:=aF++ks),show(4:Nat)=aF.length from rfl,List.take_left] at hsx;refine dy ar (S.own _ (.head _)) (S.kin _ _ pl) hsx pi ?_;rw[jz rfl];have S:=S.drop;ext;refine bq S (ac3 S.good ⟨vs0,n0,S.hs _ _ ea,hi⟩ (by rw[jl]; show 4+_<=_; exact b72 hn)) ar fun h S Z=>?_;rw[hlow];ext;obtain⟨oL,e1,e2,G',stB⟩:=S.top (m:=m) (fun p hp=>hp) G.ord;refine((ah8 G' (.cons rfl (by rw[S.pl.1]; decide) e2 st) ⟨vs0,n0,S.hsT (fun p hp=>hp) _ _ ea,hi⟩ hr (b60 hn) hs hat hno hsl) A (ar.le (by decide)) aG).conseq fun v h' q'=>?_;obtain⟨kb,hsl',a,n,wa,er,eq,i⟩:=q';ext;refine⟨⟨fun b o hb ht x=>kb.stays b o (fun q=>?_) ht (S.keep (hideAll_get _ x fun q=>(jf.mp q).elim ht hb)),kb.tab,jr (jI (ju hL S.fr.ns.lt)) kb.size⟩,fun p hp=>hsl' p (.tail _ hp),a,n,wa,er,eq,i.mono fun b o y=>⟨y.1,S.new hL y.2⟩⟩
 rcases jf.mp q with q|q
 ·exact absurd (js (jw x) hL) (by rw[q]; exact Nat.lt_irrefl _)
 ·exact hb q
end
section
variable {E:VP} {gs ns:List Str} {pos:Pos} {A:Around} {env:Env} {V:Heap} {fx:ac} {l l':ac} {vs:LO} {h:Heap}
mutual
def bv7(_:Cx)(E:VP)(target:Expr)(body:List Stmt)(A:Around)(env:Env)(Q:FP)(it:Value)(h:Heap):Prop:=∀ tk,
 codeAny (model c.prog c.w) A (.forLoop target it body [] env) (fun r s=>match r with
  | .ok f=>av fun h' tk'=>s=c.at h' tk'/\Q f h'
  | .error e=>cameBackBy (model c.prog c.w) A env (fun e s=>av fun h' tk'=>s=c.at h' tk'/\E e h') e s) (c.at h tk)
theorem cc0{target iter:Expr}{body:List Stmt}{Q:FP}(H:Wp c E A (eval iter env) (Kpi c E A (bv7 c E target body A env Q)) h)
  (hs:autoParam (∀ x,foldedSetIterable iter env x=Pure.pure x) aI):Wp c E A (exec (.For target iter body [] pos) env) Q h:=.mk fun tk=>by
 refine wpAny_For (jd (H.1 tk) (fun v s zpa=>?_) fun Z Z x=>x) hs;obtain⟨h1,t1,e,k⟩:=zpa;subst e;refine k.on t1 fun it h2 t2 k=>?_;exact k t2
theorem bi6{n:Nat}{it:Value}{P:Nat->VP}{target:Expr}{body:List Stmt}{Q:FP}{EB:VP}(hE:a79 c A env EB E)
  (src:dR c target A env V fx l h it n P) (S:Fs c gs ns env V fx vs l h)
  (Inv:Nat->LO->ac->Prop) (h0:Inv 0 vs l)
  (turn:∀ T,ax7 (bf8 c gs ns env V fx Inv Q) T->∀ i v vs l h own,i<n->P i v h->Inv i vs l->Fs c gs ns env V (own++fx) vs l h ->
   Wp c EB A (assign target env v) (Kbd c EB body A env (T i own)) h)
  (done:∀ vs l h,Inv n vs l->Fs c gs ns env V fx vs l h->Q .next h):bv7 c E target body A env Q it h:=fun tk =>
 ay5 (by exact hE) src S Inv h0 turn (fun Z Z Z k=>⟨_,_,rfl,k⟩) done tk
end
end
theorem bt6{A:Around}{env:Env}{base:Heap}{m:ac}{outer:List Env}(aG:A.frames=some (env::outer))(hf:env.frame=some env.locals)(hn:∀ p∈m,∀ vs,p.2.data≠.fields vs):a79 c A env (Ra1 base m env outer) (fun e h=>d6 base m env outer env.locals e h):=a72 aG hf hn
namespace X64
mutual
def P(g:Heap)(m:ac)(outer:List Env)(tx:Addr)(xs:List Int)(k:Nat):Prop:=∀ (G:ck c m g) (st:dp outer m) (hx:LI (bo (m.map (·.1)) g) tx xs) (hn:xs.length<=1000) (hk:k<xs.length) (h1:∀ j,j<k->bG (xs.getD j 0)=true) (h2:bG (xs.getD k 0)=false),eV c 5 (.ref 324) [.ref tx] outer m g
def Q(w:Heap×(ac)×(List Env)×Addr×(List Int)×Nat):=P w.1 w.2.1 w.2.2.1 w.2.2.2.1 w.2.2.2.2.1 w.2.2.2.2.2
def w:=@Classical.epsilon _ ⟨(default,[],[],0,[],0)⟩ fun w=>¬ Q w
def g:=w.1
def m:=w.2.1
def outer:=w.2.2.1
def tx:=w.2.2.2.1
def xs:=w.2.2.2.2.1
def k:=w.2.2.2.2.2
theorem th:P g m outer tx xs k:=by
 intro G st hx hn hk h1 h2;intro A ar aG;refine ae5 (EB:=fun env e h=>d6 (hideAll g (ag::m.map (·.1))) m env outer env.locals e h) ar aG G (by k_is) (by k_is) (binds:=[("text", .ref tx)]) (fun s X=>jx rfl) (rest:=["code"]) (ns:=["text", "code"]) rfl (vs:=[some (.ref tx),none]) rfl (gs:=["is_scalar", "BadLabel"]) (by decide +kernel) ?_ ?_
 ·intro A L h ar aG hL Z Z S Z Z;obtain⟨vs0,n0,ea,hi⟩:=hx.mono bo.in;have hlen:vs0.length=xs.length:=hi.length;walk_at"s";refine cc0 ?_;ext;refine bp ar.handled S ea fun it h S src=>?_;refine bi6 (bt6 aG rfl st.nof) (src _ _) S (fun i vs l=>(∃ o1,vs=[some (.ref tx),o1])/\l=m/\i<=k) ⟨⟨none,rfl⟩,rfl,Nat.zero_le _⟩ ?_ ?_
  ·rintro Z Z i v vs l h own hii hv ⟨⟨o1,rfl⟩,rfl,hik⟩ S;have hix:i<xs.length:=by exact z0 hlen hii
   obtain⟨t,et⟩:=au hi hix;obtain rfl:=cK hv et;ext;refine bq S (ag0 S.good _ _) ar fun h S Z=>?_
   by_cases hq:i=k
   ·subst hq;rw[h2];ext;refine av5 ar.handled ?_;ext;refine ad S (bd (by simp)) ?_;intro la h Z Z Z S;ext;refine bc6 S ar rfl (fun p hp=>.tail _ hp) st (fun e h' q=>q) fun v h' q=>?_;ext;exact q
   ·rw[h1 i (cx0 hik hq)];ext;exact⟨_,_,⟨⟨_,rfl⟩,rfl,by exact cv4 hik hq⟩,S⟩
  ·rintro Z Z h ⟨⟨o1,rfl⟩,rfl,hik⟩ S;exact absurd hk (Nat.not_lt.mpr (by rw[<- hlen]; exact hik))
 ·intro A L e h' aG R;exact ap8 rfl st.nof R fun h' q=>q
end
end X64
mutual
theorem bf2{g m outer tx xs k}:X64.P g m outer tx xs k:=c7 (P:=X64.Q) (a:=X64.w) rfl X64.th (g,m,outer,tx,xs,k)
theorem bs7{g:Heap}{m:ac}{outer:List Env}(G:ck c m g)(st:dp outer m){tx:Addr}{xs:List Int}(hx:LI (bo (m.map (·.1)) g) tx xs)(hn:xs.length<=1000){k:Nat}(hk:k<xs.length)(h1:∀ j,j<k->bG (xs.getD j 0)=true)(h2:bG (xs.getD k 0)=false) :
  eV c 6 (.ref 344) [.ref tx] outer m g:=by
 intro A ar aG;refine ae5 (EB:=fun env e h=>∃ mL,dQ (hideAll g (ag::m.map (·.1))) m env outer mL e h) ar aG G (by k_is) (by k_is) (binds:=[("text", .ref tx),("numbers", .none),("capitals", .none)]) (fun s X=>bZ X rfl (by k_is) rfl (by walk_at"u")) (rest:=["wished", "found", "place", "code", "many_basic", "done", "delta", "bias", "least", "one"]) (ns:=["text", "numbers", "capitals", "wished", "found", "place", "code", "many_basic", "done", "delta", "bias", "least", "one"]) rfl (vs:=[some (.ref tx),some .none,some .none,none,none,none,none,none,none,none,none,none,none]) rfl (gs:=["puny_check", "PunyNumbers", "len", "enumerate", "puny_basic", "puny_cased", "HYPHEN_punycode", "puny_least_from", "puny_number", "bytes"]) (by decide +kernel) ?_ ?_
 ·intro A L h ar aG hL Z Z S Z Z;obtain⟨vs0,n0,ea,hi⟩:=hx.mono bo.in;ext;exact ar6 S aG (fun p hp=>hp) G.ord (fun oL hL' G'=>bf2 G' (.cons rfl (by rw[S.pl.1]; decide) hL' st) ⟨vs0,n0,S.hsT (fun p hp=>hp) _ _ ea,hi⟩ hn hk h1 h2) ar (by decide) fun e h' R=>⟨_,R⟩
 ·intro A L e h' aG ⟨mL,R⟩;exact a24 aG rfl st.nof R fun h' q=>q
theorem at4{g:Heap}{m:ac}{outer:List Env}(G:ck c m g)(st:dp outer m){lx:Addr}{xs:List Int}(hx:LI (bo (m.map (·.1)) g) lx xs)(hn:xs.length<=1000){k:Nat}(hk:k<xs.length)(h1:∀ j,j<k->bG (xs.getD j 0)=true)(h2:bG (xs.getD k 0)=false)(ha:(xs.any fun x=>decide (127<x))=true) :
  CtS c 9 (.ref 499) [.ref lx] outer m g (fun r h'=>a76 g h' lx r):=by
 intro A ar aG;refine ae5 (EB:=fun Z Z Z=>False) ar aG G (by k_is) (by k_is) (binds:=[("label", .ref lx)]) (fun s X=>jx rfl) (rest:=[]) (ns:=["label"]) rfl (vs:=[some (.ref lx)]) rfl (gs:=["idna_is_ascii", "PREFIX", "list", "encode_label", "BadLabel"]) (by decide +kernel) ?_ (fun Z Z Z Z Z q=>q.elim);intro A L h ar aG hL Z Z S Z Z;obtain⟨vs0,n0,ea,hi⟩:=hx.mono bo.in;ext;refine bq S (ac3 S.good ⟨vs0,n0,S.hs _ _ ea,hi⟩ (b56 hn)) ar fun h S Z=>?_;rw[ha];walk_at"st";walk_at"s";refine bh2 S (fun p hp=>hp) G.ord st aG rfl (by walk_at"u") (by k_is) ?_ ?_
 ·ext;exact ar6 S aG (fun p hp=>hp) G.ord (fun oL hL' G'=>bs7 G' (.cons rfl (by rw[S.pl.1]; decide) hL' st) ⟨vs0,n0,S.hsT (fun p hp=>hp) _ _ ea,hi⟩ hn hk h1 h2) ar (by decide) fun e h' R=>R
 ·intro ea' h' S hs';have S0:=S;ext;refine ad S (bd (by simp)) ?_;intro wa h2 hw Z Z S;have hwa:=S0.new (g:=g) hL hw;ext;obtain⟨k1,k2⟩:=S.keptS (h:=h') hL hs' fun p hp=>.tail _ (.tail _ hp);exact⟨k1,k2,_,_,wa,rfl,S.own _ (.head _),[_],_,⟨S.own _ (.tail _ (.head _)),hwa⟩,.cons _ _ .nil⟩
theorem RM.supp{R:RP}{x:Addr}{dv:Value}{st:List Int}{vv:List Value}(i:RM R x dv st vv):az R fun R=>RM R x dv st vv:=by
 obtain⟨sa,va,sv,n1,n2,a,b,e,f⟩:=i;exact(a.supp.and ((az.one b).and (az.one f))).imp fun Z x=>⟨sa,va,sv,n1,n2,x.1,x.2.1,e,x.2.2⟩
theorem dq.supp{R:RP}{x:Addr}{dv:Value}{st:List Int}{vals:List PyData}(i:dq R x dv st vals):az R fun R=>dq R x dv st vals:=by
 obtain⟨vv,a,b⟩:=i;exact(a.supp.and b.supp).imp fun Z x=>⟨vv,x.1,x.2⟩
theorem aV.supp{R:RP}{x:Addr}(i:aV c R x):az R fun R=>aV c R x:=by
 obtain⟨dd,mm,pp,ww,kvs,x1,x2,x3,x4,d1,d3,d4,a,b,e,f,g,h,i,j⟩:=i;refine(a.supp.and (b.supp.and (e.supp.and (f.supp.and (g.supp.and (h.supp.and (i.supp.and j.supp))))))).imp fun Z q=>?_;obtain⟨a,b,e,f,g,h,i,j⟩:=q;exact⟨dd,mm,pp,ww,kvs,x1,x2,x3,x4,d1,d3,d4,a,b,e,f,g,h,i,j⟩
theorem FB.supp{R:RP}{a:Addr}{tr ol hy jo:Bool}(i:FB R a tr ol hy jo):az R fun R=>FB R a tr ol hy jo:=by obtain⟨n,e⟩:=i; exact(az.one e).imp fun Z x=>⟨n,x⟩
noncomputable abbrev ay:List Str:=["script", "data", "flags", "asked", "text", "is_plain", "label", "told", "lost", "other", "sizes"]
noncomputable abbrev aB:List Str:=["_law_data", "range", "IdnaFlags", "_law_draw", "_law_ahead", "_law_told", "_law_words", "_law_is", "idna_opened", "idna_shown", "idna_written", "_law_codes", "list", "idna_length_words", "_law_are_long", "idna_settled", "sorted", "set", "idna_joined"]
abbrev V:Heap:=lw.g
abbrev L:Addr:=lw.L
abbrev fa:Addr:=lw.fa
abbrev sx:Addr:=lw.sx
abbrev cd:Value:=lw.cd
noncomputable def aw3:{ x:List Stmt×Scope×Str // au9 c.w.params x.1 x.2.1 x.2.2 }:=⟨(_,_,_),⟨_,_,_,_,_,_,_,_,_,_,_,_,by k_is⟩⟩
noncomputable def aT:Env:=envOfC aw3.1.2.2 aw3.1.2.1 L fa cd
noncomputable def A:Around:=callerA.deeper aT
theorem ar:Ar A 30:=⟨rfl,by show 1+claimMargin+1+30<900; decide,by show 4+3+8*30<9000; decide⟩
theorem aG:A.frames=some [aT]:=Around.frames_deeper rfl
noncomputable def fdO(o:Obj):FuncData:=match o.data with|.func fd=>fd|_=>default
noncomputable def ci1(o:Obj):List Stmt:=match (fdO o).body with|.stmts b=>b|_=>[]
theorem by5{P:Params}{body body':List Stmt}{scope scope':Scope}{qual qual':Str}(h:au9 P body scope qual)(h':au9 P body' scope' qual'):body'=body/\scope'=scope/\qual'=qual:=by
 obtain⟨Z,Z,Z,Z,Z,Z,Z,Z,Z,Z,Z,Z,h⟩:=h;obtain⟨Z,Z,Z,Z,Z,Z,Z,Z,Z,Z,Z,Z,h'⟩:=h';have e:=cK h' h;exact⟨congrArg ci1 e,congrArg (fun o=>(fdO o).scope) e,congrArg (fun o=>(fdO o).qualname) e⟩
abbrev aO(k:Nat)(h:Heap):Prop:=Wp c (fun Z Z=>False) A (execs (aw3.1.1.drop k) aT) (aj9 fun v h'=>v=.bool true/\V.StaysIn h'/\cw h') h
def dG(_:Cx)(ca:Addr)(o oc:Obj):Prop:=fb fun cs zs k l t tl tt=>bK (oc=listOf (List.toArray cs) k) (a78 c ca o l tl t tt) (IntsAre cs zs) (zs.length<=1000)
end
section
variable {E:VP} {gs ns:List Str} {A:Around} {env:Env} {V:Heap} {fx:ac} {l:ac} {vs:LO} {h:Heap}
theorem ac7{e:Nat}{dk ca:Addr}{o oc:Obj}{b:Int}{tb:Tok}{Q:VP}(p:ac)(S:Fs c gs ns env V fx vs (p++(dk,o)::(ca,oc)::l) h)(D:dG c ca o oc)(ar:Ar A e)(he:1<=e)(hb:0<b)(hb':b<1000)
  (k:∀ n u o' oc' h',0<=n->n<b->dG c ca o' oc'->h.objs.size<=h'.objs.size->Fs c gs ns env V fx vs (p++(dk,o')::(ca,oc')::l) h'->Q (.int n u) h'):Wp c E A (call (.ref 623) [.ref dk,.int b tb]) Q h:=by
 obtain⟨cs,zs,k0,x,t,tl,tt,rfl,D,hz,hn⟩:=D;have S:=Fs.front (a:=p) S;have S:=Fs.front (a:=(dk,o)::p) (b:=l) S;have S:=Fs.front1 (l:=p++l) S;refine am9 (m:=[(dk,o),(ca,listOf cs.toArray k0)]) (r:=p++l) S (b06 S.goodM D hz hn hb hb' tb) ar he fun v m' h' e S hs q'=>?_;obtain⟨n,u,o',cs',zs',k',l',t',tl',tt',e1,h0,h1,e2,D',hz',hn'⟩:=q';subst e1 e2;have S:=Fs.front1 (l:=p++l) S;have S:=Fs.behind (a:=(dk,o')::p) (b:=l) S;have S:=Fs.behind (a:=p) S;exact k n u o' _ h' h0 h1 ⟨_,_,_,_,_,_,_,rfl,D',hz',hn'⟩ hs S
end
mutual
theorem Fs.gainNf{h h' V:Heap}{env:Env}{gs ns:List Str}{fx:ac}{vs:LO}{l:ac}{P:(RP)->Prop}{p:Addr×Obj}(S:Fs c gs ns env V (p::fx) vs l h)(k:bU h h')(s:az (Nf h h') P):∃ fx',bB (Fs c gs ns env V (p::fx') vs l h') (∀ a o,In V (p::fx) a o->In V (p::fx') a o) (P (In V (p::fx'))):=by
 have s2:az (Nf h h') (fun R=>az R P):=by obtain⟨e,a,b⟩:=s; exact⟨e,a,fun R' k=>⟨e,k,b⟩⟩
 obtain⟨ents,S',x⟩:=Fs.takeNf (P:=fun R=>az R P) S k s2;exact⟨ents++p::fx,S'.refix1 (jh _ (.head _)),fun x o q=>q.imp id fun q=>.tail _ (jh _ q),x.mono fun a o q=>q.imp id (.tail _)⟩
theorem br6(a b d:Value):cu a b d=merged [] [(("cells" : Str),a),("left", b),("turn", d)]:=by simp [merged,stored,cu,dk1,dk2,dk3]
theorem b00{o:Obj}{ca:Addr}{l t:Int}{tl tt:Tok}(io:Obj.IsDictOf (sK c) o (merged [] [(("cells" : Str),.ref ca),("left", .int l tl),("turn", .int t tt)])):a78 c ca o l tl t tt:=by unfold a78; rw[br6]; exact io
theorem dm4{h:Heap}{o1 o2:Obj}{its:List Value}{zs:List Int}
  (S:Fs c aB ay aT V [] [some (.ref sx),none,none,none,none,none,none,none,none,none,none] [(L+1+1,o2),(L+1,o1)] h) (h1:o1.data=.cell none) (hs:V.IsList sx its.toArray) (hi:IntsAre its zs) (hn:zs.length<=63)
  (K:∀ h' dk ca o oc dc,dc.data=.cell (some (.ref dk))->dG c ca o oc->Fs c aB ay aT V [(L+1,dc)] [some (.ref sx),none,none,none,none,none,none,none,none,none,none] [(dk,o),(ca,oc),(L+1+1,o2)] h'->aO 1 h') :
  aO 0 h:=by
 walk_at"law";ext;refine bh5 (knd:=sK c) S (fun d h hd nm S=>?_);ext;refine bp3 S (hs.at fun o e=>S.keep e) .none (.int _ _) (by rw[hi.length]; exact b62 hn) ?_;intro r1 h Z Z S;have hsx:=bf hi none (some 40);have hsl:=ad1 its none (some 40);refine bp ar.handled S.toFix (.inr (.head _)) fun it h S src=>?_;have hsn:=hsx.length;have hsz:(bY its none (some 40)).length<=63:=by rw[hi.length] at hsl; exact cv9 hn hsl
 refine bJ (gs':=[]) (ns':=["cell"]) (src _ _) (b62 hsz) S (by walk_at"u") (by walk_at"u") (by walk_at"u") (fun i acc l'=>l'=[(d,dictOf [] 0),(L+1+1,o2),(L+1,o1)]/\∃ zs,IntsAre acc zs) ⟨rfl,[],.nil⟩ ?_ ?_
 ·rintro Z Z C g D i v acc k ov l' h' own sb hi hv ⟨rfl,zs',hz'⟩ ha ho S;obtain⟨ov,rfl⟩:=b9 ho;obtain⟨t,et⟩:=au hsx (k:=i) (z0 hsn hi);obtain rfl:=cK hv et;ext;refine cf9 (by decide) (by decide) (by decide) fun Z=>?_;ext;exact⟨_,_,rfl,⟨rfl,_,hz'.append (.cons _ _ .nil)⟩,S⟩
 ·rintro D acc k l' h' hD ⟨rfl,zs',hz'⟩ ha S;have hzl:=hz'.length;ext;refine bu4 S (S.own _ (.tail _ (.head _))) (.int _ _) (cw0 hsz ha) ?_;intro ca h Z Z S;ext;have S:=Fs.front2 S;refine⟨_,_,cr bi (cr bi (cr bi ba7)),S.unfix,fun o h io S=>?_⟩;have S:=Fs.front (a:=[_,_,_,_]) S;refine a34 S (by walk_at"u") (by walk_at"u") h1 ?_;intro dc h hdc Z S;walk_at"st";refine K _ d ca o _ dc hdc ⟨acc.reverse,zs'.reverse,0,0,0,_,_,rfl,b00 io,hz'.reverse,?_⟩ (Fs.front (a:=[_,_]) S.toFix).drop;rw[List.length_reverse]; exact c09 hsz ha hzl
theorem dm3{h:Heap}{dc o oc sc:Obj}{dk ca:Addr}
  (hdc:dc.data=.cell (some (.ref dk))) (D:dG c ca o oc) (S:Fs c aB ay aT V [(L+1,dc)] [some (.ref sx),none,none,none,none,none,none,none,none,none,none] [(dk,o),(ca,oc),(L+1+1,sc)] h)
  (K:∀ h' fx o oc dx fl tr ol hy jo,dG c ca o oc->aV c (In V ((L+1,dc)::fx)) dx->FB (In V ((L+1,dc)::fx)) fl tr ol hy jo->Fs c aB ay aT V ((L+1,dc)::fx) [some (.ref sx),some (.ref dx),some (.ref fl),none,none,none,none,none,none,none,none] [(dk,o),(ca,oc),(L+1+1,sc)] h'->aO 2 h') :
  aO 1 h:=by
 walk_at"law";refine cT ?_;refine bl ?_;ext;refine ba S (a87 S.good) ar fun v h' S1 k q'=>?_;obtain⟨dx,ev,D1⟩:=q';subst ev;obtain⟨fx,S,hfx,D1⟩:=Fs.gainNf (P:=fun R=>aV c R dx) S k D1.supp;ext;refine af8 S ?_;intro r t v h Z Z S;refine ad6 ar.handled S (by decide) (by decide) (by decide) (by decide) fun it h S src=>?_;refine bJ (gs':=["_law_draw"]) (ns':=["k"]) (src _ _) (by decide) S (by walk_at"u") (by walk_at"u") (by walk_at"u") (fun i acc l'=>(av fun o oc=>dG c ca o oc/\l'=[(dk,o),(ca,oc),(L+1+1,sc)])/\∃ bs,acc=bs.map Value.bool/\bs.length=i) ⟨⟨o,oc,D,rfl⟩,[],rfl,rfl⟩ ?_ ?_
 ·rintro Z Z C g D i v acc k ov l' h' own sb hi ⟨t,rfl⟩ ⟨⟨o,oc,D1,rfl⟩,bs,rfl,hb⟩ ha ho S;obtain⟨ov,rfl⟩:=b9 ho;have g1:g.get? (L+1)=some dc:=sb.fx _ (.head _);ext;refine ac7 [_] S D1 ar (by decide) (by decide) (by decide) fun n u o' oc' h n0 n1 D2 Z S=>?_;ext;exact⟨_,_,rfl,⟨⟨o',oc',D2,rfl⟩,bs++[_],by rw[List.map_append]; rfl,by simp [hb]⟩,S⟩
 ·rintro fl acc k l' h' hD ⟨⟨o,oc,D2,rfl⟩,bs,rfl,hb⟩ ha S;have hb4:bs.length=4:=hb;obtain⟨b1,b2,b3,b4,rfl⟩:cP fun a b d e=>bs=[a,b,d,e]:=by
   obtain⟨a,r,e1⟩:=List.exists_cons_of_length_eq_add_one hb4;obtain⟨b,d,e,e2⟩:=ap6 (l:=r) (by rw[e1] at hb4; exact Nat.succ.inj hb4);exact⟨a,b,d,e,by rw[e1,e2]⟩
  have S:=S.keepIt;ext;refine bD (items:=[_,_]) S ar.handled (S.own _ (.head _)) rfl fun h S=>⟨_,_,rfl,?_⟩;have S:=S.drop;walk_at"st";exact K _ _ o oc dx fl b1 b2 b3 b4 D2 ((D1.supp).mono In.mid) ⟨_,.inr (.tail _ (.head _))⟩ S
theorem bg8{n:Int}{m:Nat}(h0:0<=n)(h1:n<m):seqIndex? n m=some n.toNat:=by
 unfold seqIndex?;simp only[if_neg (show ¬ n<0 by exact cq2 h0)]
 simp [h0,h1]
def ax6(_:Cx)(R:RP)(dx fl ax:Addr)(tr ol hy jo:Bool):Prop:=aV c R dx/\FB R fl tr ol hy jo/\b8 R ax tr ol hy jo
theorem ax6.mono{R R':RP}{dx fl ax:Addr}{tr ol hy jo:Bool}(x:ax6 c R dx fl ax tr ol hy jo)(k:∀ a o,R a o->R' a o):ax6 c R' dx fl ax tr ol hy jo:=⟨x.1.supp.mono k,x.2.1.supp.mono k,x.2.2.supp.mono k⟩
theorem dm2{h:Heap}{dc:Obj}{l fx:ac}{dx fl:Addr}{tr ol hy jo:Bool}
  (F:FB (In V ((L+1,dc)::fx)) fl tr ol hy jo) (S:Fs c aB ay aT V ((L+1,dc)::fx) [some (.ref sx),some (.ref dx),some (.ref fl),none,none,none,none,none,none,none,none] l h)
  (K:∀ h' fx' ax,(∀ a o,In V ((L+1,dc)::fx) a o->In V ((L+1,dc)::fx') a o)->b8 (In V ((L+1,dc)::fx')) ax tr ol hy jo->Fs c aB ay aT V ((L+1,dc)::fx') [some (.ref sx),some (.ref dx),some (.ref fl),some (.ref ax),none,none,none,none,none,none,none] l h'->aO 3 h') :
  aO 2 h:=by
 walk_at"law";obtain⟨nf,ef⟩:=F;ext;refine bk (S.at' ef) (by decide) (by decide) rfl ?_;ext;refine bk (S.at' ef) (by decide) (by decide) rfl ?_;ext;refine bk (S.at' ef) (by decide) (by decide) rfl ?_;ext;refine bk (S.at' ef) (by decide) (by decide) rfl ?_;ext;refine ba S (ap5 S.good (bd9 S.good tr ol hy jo) (by k_is) (by k_is) (by k_is)) ar fun v h' S1 k q'=>?_;obtain⟨ax,ev,Z,I⟩:=q';subst ev;obtain⟨fx',S,hfx,I⟩:=Fs.gain (P:=fun R=>b8 R ax tr ol hy jo) S k (bt.supp I);walk_at"st";exact K _ fx' ax hfx I S
theorem dm1{h:Heap}{dc o oc sc:Obj}{dk ca:Addr}{fx:ac}{dx fl ax:Addr}
  (hdc:dc.data=.cell (some (.ref dk))) (D:dG c ca o oc) (S:Fs c aB ay aT V ((L+1,dc)::fx) [some (.ref sx),some (.ref dx),some (.ref fl),some (.ref ax),none,none,none,none,none,none,none] [(dk,o),(ca,oc),(L+1+1,sc)] h)
  (K:∀ h' o oc tx xs,dG c ca o oc->(∀ x∈xs,x∈ah)->xs.length<=6->∀ ts k,IntsAre ts xs->Fs c aB ay aT V ((L+1,dc)::(tx,listOf (List.toArray ts) k)::fx) [some (.ref sx),some (.ref dx),some (.ref fl),some (.ref ax),some (.ref tx),none,none,none,none,none,none] [(dk,o),(ca,oc),(L+1+1,sc)] h'->aO 4 h') :
  aO 3 h:=by
 walk_at"law";obtain⟨cits,cn,cl,ci⟩:=ax1 c.w.params;have cln:=ci.length;refine cT ?_;refine an0 ?_;ext;refine ac7 [] S D ar (by decide) (by decide) (by decide) fun b u o oc h b0 b1 D Z S=>?_;ext;refine af8 S ?_;intro r t v h Z Z S;refine ad6 ar.handled S (by decide) b0 (by decide) (cz6 b1) fun it h S src=>?_;refine ae9 (gs':=["_law_draw", "_law_codes"]) (ns':=["k"]) (vf:=fun v=>[some (.ref sx),some (.ref dx),some (.ref fl),some (.ref ax),some v,none,none,none,none,none,none]) (src _ _) (dc1 b1) S (by walk_at"u") (by walk_at"u") (by kernel_rfl) (fun i acc l'=>(av fun o oc=>dG c ca o oc/\l'=[(dk,o),(ca,oc),(L+1+1,sc)])/\∃ xs,IntsAre acc xs/\∀ x∈xs,x∈ah) ⟨⟨o,oc,D,rfl⟩,[],.nil,by simp⟩ ?_ (fun v=>by walk_at"put") ?_
 ·rintro Z Z C g D i v acc k ov l' h' own sb hi ⟨t,rfl⟩ ⟨⟨o,oc,D1,rfl⟩,xs,q1,q2⟩ ha ho S;obtain⟨ov,rfl⟩:=b9 ho;have g1:g.get? (L+1)=some dc:=sb.fx _ (.head _);ext;refine ac7 [_] S D1 ar (by decide) (by decide) (by decide) fun n u o' oc' h n0 n1 D2 Z S=>?_;obtain⟨t2,e2⟩:=au ci (k:=n.toNat) (by show _<14; exact b80 n1);refine bI (S.kin _ _ cl) (b66 n0) (cz5 n1) (j:=n.toNat) (bg8 n0 (by rw[cln]; show n<((14:Nat):Int); lia)) e2 ?_;have hm:ah.getD n.toNat 0∈ah:=by
   rw[jk,jj (show n.toNat<ah.length by show _<14; exact b80 n1)];exact List.getElem_mem _
  ext;refine⟨_,_,rfl,⟨⟨o',oc',D2,rfl⟩,xs++[_],q1.append (.cons _ _ .nil),fun x hx=>?_⟩,S⟩
  rcases jg.mp hx with hx|hx
  ·exact q2 x hx
  ·rw[je.mp hx]; exact hm
 ·rintro tx acc k l' h' hD ⟨⟨o,oc,D2,rfl⟩,xs,q1,q2⟩ ha S;have:=q1.length;walk_at"st";exact K _ o oc tx xs D2 q2 (dh6 b1 ha this) acc k q1 S.keepIt
theorem a92:∀ x∈aF,x∈ah:=by decide
theorem dm0{h:Heap}{dc o oc sc:Obj}{dk ca:Addr}{fx:ac}{dx fl ax tx:Addr}{xs:List Int}
  (hdc:dc.data=.cell (some (.ref dk))) (D:dG c ca o oc) (hx:LI (In V ((L+1,dc)::fx)) tx xs) (hT:∀ x∈xs,x∈ah) (hn:xs.length<=6) (S:Fs c aB ay aT V ((L+1,dc)::fx) [some (.ref sx),some (.ref dx),some (.ref fl),some (.ref ax),some (.ref tx),none,none,none,none,none,none] [(dk,o),(ca,oc),(L+1+1,sc)] h)
  (K:∀ h' fx' o oc tx xs,(∀ a o,In V ((L+1,dc)::fx) a o->In V ((L+1,dc)::fx') a o)->dG c ca o oc->LI (In V ((L+1,dc)::fx')) tx xs->(∀ x∈xs,x∈ah)->xs.length<=10->Fs c aB ay aT V ((L+1,dc)::fx') [some (.ref sx),some (.ref dx),some (.ref fl),some (.ref ax),some (.ref tx),none,none,none,none,none,none] [(dk,o),(ca,oc),(L+1+1,sc)] h'->aO 5 h') :
  aO 4 h:=by
 walk_at"law";refine br (fun h'=>dU fun fx' o oc tx xs=>eG (∀ a o,In V ((L+1,dc)::fx) a o->In V ((L+1,dc)::fx') a o) (dG c ca o oc) (LI (In V ((L+1,dc)::fx')) tx xs) (∀ x∈xs,x∈ah) (xs.length<=10) (Fs c aB ay aT V ((L+1,dc)::fx') [some (.ref sx),some (.ref dx),some (.ref fl),some (.ref ax),some (.ref tx),none,none,none,none,none,none] [(dk,o),(ca,oc),(L+1+1,sc)] h')) ?_ (fun h' q=>by obtain⟨fx',o,oc,tx,xs,k1,k2,k3,k4,k5,k6⟩:=q; exact K h' fx' o oc tx xs k1 k2 k3 k4 k5 k6);ext;refine ac7 [] S D ar (by decide) (by decide) (by decide) fun b u o oc h b0 b1 D Z S=>?_;ext;refine BB.dec (fun h1=>?_) fun h1=>?_
 ·obtain⟨pits,pn,pl,pi⟩:=af4 c.w.params;have hpl:pits.length=4:=pi.length;obtain⟨ts,n,et,hi⟩:=hx;have:=hi.length;ext;refine bj S (S.kin _ _ pl) (S.at' et) (c32 hn hpl this) ?_;intro r h Z Z S;have S:=S.keepIt;ext;refine⟨rfl,_,o,oc,r,aF++xs,In.mid,D,⟨_,_,.inr (.tail _ (.head _)),pi.append hi⟩,fun x hx=>?_,by simp [aF]; lia,S⟩
  rcases jg.mp hx with hx|hx
  ·exact a92 x hx
  ·exact hT x hx
 ·ext;exact⟨rfl,fx,o,oc,tx,xs,fun Z Z q=>q,D,hx,hT,by exact cr1 hn,S⟩
theorem dl9{h:Heap}{dc:Obj}{l fx:ac}{dx fl ax tx:Addr}{xs:List Int}
  (hx:LI (In V ((L+1,dc)::fx)) tx xs) (hn:xs.length<=10) (S:Fs c aB ay aT V ((L+1,dc)::fx) [some (.ref sx),some (.ref dx),some (.ref fl),some (.ref ax),some (.ref tx),none,none,none,none,none,none] l h)
  (K:∀ h',Fs c aB ay aT V ((L+1,dc)::fx) [some (.ref sx),some (.ref dx),some (.ref fl),some (.ref ax),some (.ref tx),some (.bool (!(xs.any fun x=>decide (127<x)))),none,none,none,none,none] l h'->aO 6 h') :
  aO 5 h:=by
 walk_at"law";obtain⟨ts,n,et,hi⟩:=hx;have hlen:=hi.length;ext;refine bp ar.handled S et fun it h S src=>?_;refine bJ (gs':=[]) (ns':=["code"]) (src _ _) (cv0 hn hlen) S (by walk_at"u") (by walk_at"u") (by walk_at"u") (fun i acc l'=>l'=l/\IntsAre acc ((xs.take i).filter fun x=>decide (127<x))) ⟨rfl,.nil⟩ ?_ ?_
 ·rintro Z Z C g D i v acc k ov l' h' own sb hii hv ⟨rfl,q1⟩ ha ho S;obtain⟨ov,rfl⟩:=b9 ho;have hix:i<xs.length:=by exact z0 hlen hii
  obtain⟨tv,ev⟩:=au hi hix;obtain rfl:=cK hv ev;have htk:(xs.take (i+1)).filter (fun x=>decide (127<x))=(xs.take i).filter (fun x=>decide (127<x))++[xs.getD i 0].filter (fun x=>decide (127<x)):=by rw[bH hix,jN]
  generalize xs.getD i 0=y at htk ⊢;ext;refine BB.dec (fun h1=>?_) fun h1=>?_
  ·have e:[y].filter (fun x=>decide (127<x))=[y]:=by simp; lia
   ext;rw[htk,e];exact⟨_,_,rfl,⟨rfl,q1.append (.cons _ _ .nil)⟩,S⟩
  ·have e:[y].filter (fun x=>decide (127<x))=[]:=by simp; exact cw3 h1
   ext;rw[htk,e,jD];exact⟨_,_,rfl,⟨rfl,q1⟩,S⟩
 ·rintro r acc k l' h' hD ⟨rfl,q1⟩ ha S;rw[hlen,jF] at q1;ext;refine ad S (by decide) ?_;intro er h Z Z Z S;refine cE ar (S.own _ (.tail _ (.head _))) (S.own _ (.head _)) q1 .nil ?_;have S:=S.drop.drop;have e:decide ((xs.filter fun x=>decide (127<x))=[])=!(xs.any fun x=>decide (127<x)):=by
   rw[Bool.eq_iff_iff]
   simp
  rw[e];walk_at"st";exact K _ S
theorem a69:∀ x∈ah,0<=x/\x<44032:=by decide
theorem LS.supp{R:RP}{a:Addr}{ws:List Str}(i:LS R a ws):az R fun R=>LS R a ws:=by obtain⟨vs,n,e,h⟩:=i; exact(az.one e).imp fun Z x=>⟨vs,n,x,h⟩
theorem ak4(xs:List Int)(tr ol hy jo enc:Bool):(cH xs tr ol hy jo enc).length<=5+xs.length:=by
 have h1:(w1 xs).length<=1:=by unfold w1; split<;>simp
 have h2:(bP xs hy).length<=1:=by unfold bP; split<;>split<;>simp
 have h3:(w3 xs).length<=1:=by unfold w3; split<;>simp
 have h4:(w4 xs).length<=1:=by unfold w4; split<;>simp
 have h5:(w5 xs tr ol enc).length<=1:=by unfold w5; split<;>simp
 have h6:(w6 xs jo).length<=xs.length:=by unfold w6; rw[List.length_map]; exact List.length_filter_le _ _
 unfold cH;simp only[jl];exact di7 h1 h2 h3 h4 h5 h6
theorem dl8{h:Heap}{dc:Obj}{l fx:ac}{dx fl ax tx:Addr}{xs:List Int}{tr ol hy jo:Bool}
  (hx:LI (In V ((L+1,dc)::fx)) tx xs) (hT:∀ x∈xs,x∈ah) (hn:xs.length<=10) (F:FB (In V ((L+1,dc)::fx)) fl tr ol hy jo) (S:Fs c aB ay aT V ((L+1,dc)::fx) [some (.ref sx),some (.ref dx),some (.ref fl),some (.ref ax),some (.ref tx),some (.bool (!(xs.any fun x=>decide (127<x)))),none,none,none,none,none] l h)
  (K:∀ h' fx' lx wx,(∀ a o,In V ((L+1,dc)::fx) a o->In V ((L+1,dc)::fx') a o)->(aR xs).length<=500->LI (In V ((L+1,dc)::fx')) lx (aF++aR xs)->LS (In V ((L+1,dc)::fx')) wx (cy xs tr ol hy jo)->Fs c aB ay aT V ((L+1,dc)::fx') [some (.ref sx),some (.ref dx),some (.ref fl),some (.ref ax),some (.ref tx),some (.bool (!(xs.any fun x=>decide (127<x)))),some (.ref lx),some (.ref wx),none,none,none] l h'->aO 7 h') :
  aO 6 h:=by
 walk_at"law";obtain⟨pits,pn,pl,pi⟩:=af4 c.w.params;have hpl:pits.length=4:=pi.length;refine cT ?_;refine bl ?_;ext;refine ba S (b01 S.good (hx.mono S.hs) (fun x hx=>a69 x (hT x hx)) (b55 hn)) ar fun v h' S1 k q'=>?_;obtain⟨ht,r1,ev,I⟩:=q';subst ev;have ht:(aR xs).length<=500:=by exact c48 hn ht
 obtain⟨f1,S,hf1,I⟩:=Fs.gain (P:=fun R=>LI R r1 (aR xs)) S k I.supp;obtain⟨ts,n,et,hi⟩:=I;have hil:=hi.length;refine bj S (S.kin _ _ pl) (S.at' et) (de5 hpl ht hil) ?_;intro lx h Z Z S;have S:=S.keepIt;ext;refine ba S (ao4 S.good ((hx.supp.mono fun a o q=>In.mid a o (hf1 a o q)).mono S.hs) (bm4 hn) ((F.supp.mono fun a o q=>In.mid a o (hf1 a o q)).mono S.hs)) ar fun v h' S1 k q'=>?_;obtain⟨r2,ev,I⟩:=q';subst ev;obtain⟨f2,S,hf2,I⟩:=Fs.gain (P:=fun R=>LS R r2 (cH xs tr ol hy jo true)) S k (LS.supp I);obtain⟨ws,m,ew,hw⟩:=I;have hwl:=hw.length;have S0:=S
 try dsimp +zetaDelta only at S
 generalize hbb:(xs.any fun x=>decide (127<x))=bb at S0 S K;refine c9 (fun v h=>b5 fun q sv k2=>bB (v=.ref q) (StrsAre sv (if bb then[] else[("ascii" : Str)])) (S0.lk ((q,listOf (List.toArray sv) k2)::l) h)) ?_ ?_
 ·walk_at"s";refine aJ ?_;ext
  cases bb with
  | true =>
   ext;refine ad S (by decide) ?_;intro q h Z Z Z S;ext;exact⟨q,[],_,rfl,.nil,S⟩
  | false =>
   ext;refine ad S (bd (by simp)) ?_;intro q h Z Z Z S;ext;exact⟨q,_,_,rfl,.cons _ _ .nil,S⟩
 rintro Z h ⟨q,sv,k2,rfl,hsv,S⟩;unfold Fs.lk at S;have hsl:sv.length<=1:=by rw[hsv.length]; split<;>simp
 refine bj S (S.at' ew) (S.own _ (.head _)) (by rw[hwl]; have:=ak4 xs tr ol hy jo true; exact db6 hn hsl this) ?_;intro wx h Z Z S;have S:=S.keepIt.drop;ext;refine bD (items:=[_,_]) S ar.handled (S.own _ (.head _)) rfl fun h S=>⟨_,_,rfl,?_⟩;have S:=S.drop;walk_at"st";refine K _ _ lx wx (fun a o q=>In.mid a o (hf2 a o (In.mid a o (hf1 a o q)))) ht ?_ ⟨_,_,.inr (.tail _ (.head _)),?_⟩ S
 ·exact LI.mono ⟨_,_,.inr (.tail _ (.head _)),pi.append hi⟩ fun a o q=>In.mid a o (hf2 a o q)
 ·unfold cy;rw[hbb];exact aL hw hsv
end
section
variable {E:VP} {gs ns:List Str} {A:Around} {env:Env} {V:Heap} {fx:ac} {l:ac} {vs:LO} {h g:Heap}
mutual
theorem Fs.nwHs(S:Fs c gs ns env V fx vs l g)(a:Addr)(o:Obj)(x:Nw g h a o):Hs h a o:=⟨x.1,jJ (js (jK S.lt S.fr.ns.lt) x.2)⟩
theorem Fs.hsl(S:Fs c gs ns env V fx vs l h){a:Addr}{o:Obj}(x:(a,o)∈l):Hs h a o:=⟨S.own _ x,(S.ap _ x).2.1⟩
theorem ai3{e:Nat}{a ta wa tx la:Addr}{n:Nat}{xs:List Int}{ws:List Str}{Q:VP}(S:Fs c gs ns env V fx vs l h)(ar:Ar A e)(he:2<=e)(hf:h.get? a=some { cls:=.type "tuple", data:=.seq #[.ref ta,.ref wa] n })
  (h1:LI (Hs h) ta xs) (h2:LS (Hs h) wa ws) (h3:LI (Hs h) tx xs) (h4:LS (Hs h) la ws) (hn:xs.length<=1000) (hw:ws.length<=1000) (hok:∀ w∈ws,PyData.strOk w=true) (q:∀ h',Fs c gs ns env V fx vs l h'->Q (.bool true) h') :
  Wp c E A (call (.ref 668) [.ref a,.ref tx,.ref la]) Q h:=by
 have ht:a≠ag:=by
  rintro rfl;obtain⟨ps,e,Z⟩:=S.tab;rw[hf] at e
  cases e
 exact bq S (bs4 S.good ⟨hf,ht⟩ h1 h2 h3 h4 hn hw hok) ar (fun h' S Z=>q h' S) he
end
end
mutual
theorem a22(xs:List Int)(tr ol hy jo enc:Bool):∀ w∈cH xs tr ol hy jo enc,w∈([("form" : Str), "hyphens", "prefix", "dot", "mark", "disallowed", "joiner", "ascii", "punycode"]:List Str):=by
 have h1:∀ w∈w1 xs,w = "form" := by unfold w1; split<;>simp
 have h2:∀ w∈bP xs hy,w = "hyphens" \/ w = "prefix" := by unfold bP; split<;>split<;>simp
 have h3:∀ w∈w3 xs,w = "dot" := by unfold w3; split<;>simp
 have h4:∀ w∈w4 xs,w = "mark" := by unfold w4; split<;>simp
 have h5:∀ w∈w5 xs tr ol enc,w = "disallowed" := by unfold w5; split<;>simp
 have h6:∀ w∈w6 xs jo,w = "joiner" := by unfold w6; intro w hw; obtain⟨Z,Z,e⟩:=jM.mp hw; exact e.symm
 intro w hw;unfold cH at hw;simp only[jg] at hw
 rcases hw with((((hw|hw)|hw)|hw)|hw)|hw
 ·rw[h1 w hw]; simp
 ·rcases h2 w hw with e|e<;>rw[e]<;>simp
 ·rw[h3 w hw]; simp
 ·rw[h4 w hw]; simp
 ·rw[h5 w hw]; simp
 ·rw[h6 w hw]; simp
theorem al2(xs:List Int)(tr ol hy jo:Bool):∀ w∈cy xs tr ol hy jo,w∈([("form" : Str), "hyphens", "prefix", "dot", "mark", "disallowed", "joiner", "ascii", "punycode"]:List Str):=by
 intro w hw;unfold cy at hw
 rcases jg.mp hw with hw|hw
 ·exact a22 _ _ _ _ _ _ w hw
 ·split at hw
  ·cases hw
  ·rw[je.mp hw]; simp
theorem ab2:∀ w∈([("form" : Str), "hyphens", "prefix", "dot", "mark", "disallowed", "joiner", "ascii", "punycode"]:List Str),PyData.strOk w=true:=by decide +kernel
theorem as0(xs:List Int)(tr ol hy jo:Bool):(cy xs tr ol hy jo).length<=6+xs.length:=by
 unfold cy;rw[jl];have:=ak4 xs tr ol hy jo true
 split<;>simp<;>lia
theorem dl7{h:Heap}{dc:Obj}{l fx:ac}{dx fl ax tx lx wx:Addr}{xs:List Int}{tr ol hy jo:Bool}{pv:Value}
  (I:ax6 c (In V ((L+1,dc)::fx)) dx fl ax tr ol hy jo) (hx:LI (In V ((L+1,dc)::fx)) tx xs) (hT:∀ x∈xs,x∈ah) (hn:xs.length<=10) (ht:(aR xs).length<=500) (hlx:LI (In V ((L+1,dc)::fx)) lx (aF++aR xs)) (hw:LS (In V ((L+1,dc)::fx)) wx (cy xs tr ol hy jo))
  (S:Fs c aB ay aT V ((L+1,dc)::fx) [some (.ref sx),some (.ref dx),some (.ref fl),some (.ref ax),some (.ref tx),some pv,some (.ref lx),some (.ref wx),none,none,none] l h)
  (K:∀ h',Fs c aB ay aT V ((L+1,dc)::fx) [some (.ref sx),some (.ref dx),some (.ref fl),some (.ref ax),some (.ref tx),some pv,some (.ref lx),some (.ref wx),none,none,none] l h'->aO 8 h') :
  aO 7 h:=by
 walk_at"law";obtain⟨I1,I2,I3⟩:=I;have hwl:=as0 xs tr ol hy jo;ext;have S0:=S;refine ba S (az3 S.good S.hs I1 hlx hT (bm4 hn) (b37 ht) I3) ar fun v h' S k q'=>?_;obtain⟨a,n,ta,wa,ev,q1,q2,q3⟩:=q';subst ev;ext;refine ai3 S ar (by decide) q1 (q2.mono S0.nwHs) ((LS.supp q3).mono S0.nwHs) (hx.mono S.hs) ((LS.supp hw).mono S.hs) (bb1 hn) (b64 hn hwl) (fun w hw=>ab2 w (al2 _ _ _ _ _ w hw)) fun h S=>?_;ext;have S0:=S;refine ba S (a62 S.good S.hs I1 hlx hT (bm4 hn) (b37 ht) I3) ar fun v h' S k q'=>?_;obtain⟨a,n,ta,wa,ev,q1,q2,q3⟩:=q';subst ev;ext;refine ai3 S ar (by decide) q1 (q2.mono S0.nwHs) ((LS.supp q3).mono S0.nwHs) (hx.mono S.hs) ((LS.supp hw).mono S.hs) (bb1 hn) (b64 hn hwl) (fun w hw=>ab2 w (al2 _ _ _ _ _ w hw)) fun h S=>?_;walk_at"st";exact K _ S
theorem Fs.see{h V:Heap}{env:Env}{gs ns:List Str}{fx:ac}{vs:LO}{l:ac}{p:Addr×Obj}(S:Fs c gs ns env V (p::fx) vs l h){a:Addr}{its:Array Value}{n:Nat}(hf:h.get? a=some { cls:=.type "tuple", data:=.seq its n }) :
  ∃ fx',bB (Fs c gs ns env V (p::fx') vs l h) (∀ b o,In V (p::fx) b o->In V (p::fx') b o) (In V (p::fx') a { cls:=.type "tuple", data:=.seq its n }\/(a,{ cls:=.type "tuple", data:=.seq its n })∈l):=by
 cases e0:V.get? a with
 | some o =>
  have:=S.keep e0;rw[hf] at this
  cases this
  exact⟨fx,S,fun Z Z q=>q,.inl (.inl e0)⟩
 | none =>
  by_cases hq:∃ q∈l,q.1=a
  ·obtain⟨q,hq,rfl⟩:=hq;have:=S.own q hq;rw[hf] at this;have e2:q=(q.1,({ cls:=.type "tuple", data:=.seq its n }:Obj)):=by rw[<- Option.some.inj this.symm]
   exact⟨fx,S,fun Z Z q=>q,.inr (e2▸hq)⟩
  ·have ht:a≠ag:=by
    rintro rfl;obtain⟨ps,e,Z⟩:=S.tab;rw[hf] at e
    cases e
   have hL:a≠env.locals:=by
    rintro rfl;obtain⟨o,es,n,e1,e2,Z⟩:=S.fr.ns;rw[hf] at e1
    cases e1
    cases e2
   have S':=S.addFix (own:=[(a,({ cls:=.type "tuple", data:=.seq its n }:Obj))]) (fun p hp=>by rw[je.mp hp]; exact hf) fun p hp=>by
    rw[je.mp hp];exact⟨⟨hL,ht,e0⟩,fun q hq' e=>hq ⟨q,hq',e.symm⟩⟩
   exact⟨(a,({ cls:=.type "tuple", data:=.seq its n }:Obj))::fx,S'.refix fun r hr=>by
    rcases jf.mp hr with rfl|hr
    ·exact .tail _ (.head _)
    ·rcases jf.mp hr with rfl|hr
     ·exact .head _
     ·exact .tail _ (.tail _ hr),In.mid,.inl (.inr (.tail _ (.head _)))⟩
theorem dl6{h:Heap}{dc:Obj}{l fx:ac}{dx fl ax tx lx wx:Addr}{xs:List Int}
  (hx:LI (In V ((L+1,dc)::fx)) tx xs) (hT:∀ x∈xs,x∈ah) (hn:xs.length<=10) (ht:(aR xs).length<=500) (hlx:LI (In V ((L+1,dc)::fx)) lx (aF++aR xs))
  (S:Fs c aB ay aT V ((L+1,dc)::fx) [some (.ref sx),some (.ref dx),some (.ref fl),some (.ref ax),some (.ref tx),some (.bool (!(xs.any fun x=>decide (127<x)))),some (.ref lx),some (.ref wx),none,none,none] l h)
  (K:∀ h' fx',(∀ a o,In V ((L+1,dc)::fx) a o->In V ((L+1,dc)::fx') a o)->Fs c aB ay aT V ((L+1,dc)::fx') [some (.ref sx),some (.ref dx),some (.ref fl),some (.ref ax),some (.ref tx),some (.bool (!(xs.any fun x=>decide (127<x)))),some (.ref lx),some (.ref wx),none,none,none] l h'->aO 9 h') :
  aO 8 h:=by
 walk_at"law";ext
 cases hbb:(xs.any fun x=>decide (127<x)) with
 | true =>
  try dsimp +zetaDelta only at S
  rw[hbb] at S K;refine ba S (aw7 S.good (hx.mono S.hs) (fun x hx=>a69 x (hT x hx)) (by exact b55 hn) (by exact cs4 ht) hbb) ar fun v h' S1 k q'=>?_;obtain⟨a,n,ta,wa,ev,q1,q2,q3⟩:=q';subst ev;obtain⟨f1,S,hf1,q2,q3⟩:=Fs.gain (P:=fun R=>LI R ta (aF++aR xs)/\LS R wa []) S k (q2.supp.and (LS.supp q3));obtain⟨f2,S,hf2,q1⟩:=S.see q1;have q2:=q2.mono hf2;have q3:=(LS.supp q3).mono hf2;have hl2:=(hlx.mono hf1).mono hf2;walk_at"s";refine aJ ?_;ext;refine ad S (by decide) ?_;intro la h Z Z Z S;ext;refine ai3 S ar (by decide) (q1.elim S.at' fun q=>S.own _ (.tail _ q)) (q2.mono S.hs) ((LS.supp q3).mono S.hs) (hl2.mono S.hs) ⟨[],_,S.hsl (.head _),.nil⟩ (by simp [aF]; exact cs3 ht) (by simp) (by simp) fun h S=>?_;have S:=S.drop;walk_at"st";exact K _ f2 (fun a o q=>hf2 a o (hf1 a o q)) S
 | false =>
  try dsimp +zetaDelta only at S
  rw[hbb] at S K;refine ba S (aq5 S.good (hx.mono S.hs) (by exact bb1 hn) hbb) ar fun v h' S1 k q'=>?_;obtain⟨a,n,ta,wa,ev,q1,q2,q3⟩:=q';subst ev q2;obtain⟨f1,S,hf1,q3⟩:=Fs.gain (P:=fun R=>LS R wa []) S k (LS.supp q3);obtain⟨f2,S,hf2,q1⟩:=S.see q1;have q3:=(LS.supp q3).mono hf2;have hx2:=(hx.mono hf1).mono hf2;walk_at"s";refine aJ ?_;ext;refine ad S (by decide) ?_;intro la h Z Z Z S;ext;refine ai3 S ar (by decide) (q1.elim S.at' fun q=>S.own _ (.tail _ q)) (hx2.mono S.hs) ((LS.supp q3).mono S.hs) (hx2.mono S.hs) ⟨[],_,S.hsl (.head _),.nil⟩ (by exact bb1 hn) (by simp) (by simp) fun h S=>?_;have S:=S.drop;walk_at"st";exact K _ f2 (fun a o q=>hf2 a o (hf1 a o q)) S
theorem b07:∀ x∈ah,bG x=true:=by decide
theorem dl5{h:Heap}{dc:Obj}{l fx:ac}{dx fl ax tx lx wx:Addr}{xs:List Int}{pv:Value}
  (hx:LI (In V ((L+1,dc)::fx)) tx xs) (hT:∀ x∈xs,x∈ah) (hn:xs.length<=10)
  (S:Fs c aB ay aT V ((L+1,dc)::fx) [some (.ref sx),some (.ref dx),some (.ref fl),some (.ref ax),some (.ref tx),some pv,some (.ref lx),some (.ref wx),none,none,none] l h)
  (K:∀ h' fx',(∀ a o,In V ((L+1,dc)::fx) a o->In V ((L+1,dc)::fx') a o)->Fs c aB ay aT V ((L+1,dc)::fx') [some (.ref sx),some (.ref dx),some (.ref fl),some (.ref ax),some (.ref tx),some pv,some (.ref lx),some (.ref wx),none,none,none] l h'->aO 10 h') :
  aO 9 h:=by
 walk_at"law";obtain⟨ts,n,et,hi⟩:=hx;have htl:=hi.length;ext;refine ad S (bd (by simp)) ?_;intro r0 h Z Z Z S;refine bj S (S.at' et) (S.own _ (.head _)) (by simp; exact b74 hn htl) ?_;intro r1 h Z Z S;have hi1:=fun t=>hi.append (IntsAre.cons 55296 t .nil);have S:=S.keepIt.drop;ext;have hat:∀ j,j<xs.length->bG ((xs++[55296]).getD j 0)=true:=fun j hj=>by
  rw[jk,List.getElem?_append_left hj,jj hj];exact b07 _ (hT _ (List.getElem_mem _))
 have hlen:(xs++[(55296:Int)]).length<=11:=by simp; lia
 refine bc5 S aG rfl (fun oL st G hB=>at4 G st (xs:=xs++[55296]) (k:=xs.length) ⟨_,_,hB _ _ (.inr (.tail _ (.head _))),hi1 _⟩ (by exact b65 hlen) (by simp) hat (by rw[jk]; simp; decide) (by simp)) ar (by decide) fun v h' S1 kb q=>?_;obtain⟨a,m,wa,ev,q1,q3⟩:=q;subst ev;obtain⟨f1,S,hf1,q3⟩:=Fs.gainB (P:=fun R=>LS R wa ["punycode"]) S1 S (LS.supp q3);obtain⟨f2,S,hf2,q1⟩:=S.see q1;have q3:=(LS.supp q3).mono hf2;have et2:=hf2 _ _ (hf1 _ _ (In.mid _ _ et));have q2:=hf2 _ _ (hf1 _ _ (.inr (.tail _ (.head _))));ext;refine ad S (bd (by simp)) ?_;intro r2 h Z Z Z S;refine bj S (S.at' et2) (S.own _ (.head _)) (by simp; exact b74 hn htl) ?_;intro r3 h Z Z S;ext;refine ad S (bd (by simp)) ?_;intro la h Z Z Z S;ext;refine ai3 S ar (by decide) (q1.elim S.at' fun q=>S.own _ (.tail _ (.tail _ (.tail _ q)))) ⟨_,_,S.hs _ _ q2,hi1 _⟩ ((LS.supp q3).mono S.hs) ⟨_,_,S.hsl (.tail _ (.head _)),hi1 _⟩ ⟨_,_,S.hsl (.head _),.cons _ _ .nil⟩ (by exact b65 hlen) (by simp) (fun w hw=>ab2 w (by rw[je.mp hw]; simp)) fun h S=>?_;have S:=S.drop.drop.drop;walk_at"st";exact K _ f2 (fun a o q=>hf2 a o (hf1 a o (In.mid a o q))) S
def au8(ks:List Int):Prop:=ks=[122]\/ks=[95]\/ks=[97,45,46]
theorem ch7{h:Heap}{dc o oc sc:Obj}{dk ca:Addr}{fx:ac}{v0 v1 v2 v3 v4 v5 v6 v7:Option Value}
  (hdc:dc.data=.cell (some (.ref dk))) (D:dG c ca o oc) (S:Fs c aB ay aT V ((L+1,dc)::fx) [v0,v1,v2,v3,v4,v5,v6,v7,none,none,none] [(dk,o),(ca,oc),(L+1+1,sc)] h)
  (K:∀ h' fx' o oc ox ks,(∀ a o,In V ((L+1,dc)::fx) a o->In V ((L+1,dc)::fx') a o)->dG c ca o oc->au8 ks->LI (In V ((L+1,dc)::fx')) ox (aF++ks)->Fs c aB ay aT V ((L+1,dc)::fx') [v0,v1,v2,v3,v4,v5,v6,v7,some (.ref ox),none,none] [(dk,o),(ca,oc),(L+1+1,sc)] h'->aO 11 h') :
  aO 10 h:=by
 walk_at"law";obtain⟨pits,pn,pl,pi⟩:=af4 c.w.params;have hpl:pits.length=4:=pi.length;ext;refine ad S (bd (by simp)) ?_;intro r1 h Z Z Z S;ext;refine ad S (bd (by simp)) ?_;intro r2 h Z Z Z S;ext;refine ad S (bd (by simp)) ?_;intro r3 h Z Z Z S;ext;refine ad S (bd (by simp)) ?_;intro r4 h Z Z Z S;ext;refine ac7 [_,_,_,_] S D ar (by decide) (by decide) (by decide) fun n u o oc h n0 n1 D Z S=>?_;have S0:=S;refine Wp.mono (Q:=fun v h=>dU fun r ks ts k p=>bK (v=.ref r) (IntsAre ts ks) (au8 ks) (S0.lk ((r,listOf (List.toArray ts) k)::p::(dk,o)::(ca,oc)::[(L+1+1,sc)]) h)) ?_ ?_ (fun Z Z x=>x)
 ·rcases show n=0\/n=1\/n=2 by exact c16 n0 n1 with rfl|rfl|rfl
  ·refine bk (S.own _ (.head _)) (by decide) (by decide) rfl ?_;exact⟨r1,_,_,_,_,rfl,.cons _ _ .nil,.inl rfl,S.drop.drop.front1⟩
  ·refine bk (S.own _ (.head _)) (by decide) (by decide) rfl ?_;exact⟨r2,_,_,_,_,rfl,.cons _ _ .nil,.inr (.inl rfl),S.drop.drop⟩
  ·refine bk (S.own _ (.head _)) (by decide) (by decide) rfl ?_;exact⟨r3,_,_,_,_,rfl,.cons _ _ (.cons _ _ (.cons _ _ .nil)),.inr (.inr rfl),S.drop.drop2⟩
 rintro Z h ⟨r,ks,ts,k,p,rfl,hk,hlo,S⟩;unfold Fs.lk at S;have hkl:=hk.length;have:ks.length<=3:=by rcases hlo with rfl|rfl|rfl<;>simp
 refine bj S (S.kin _ _ pl) (S.own _ (.head _)) (by exact c31 hpl hkl this) ?_;intro ox h Z Z S;have S:=S.keepIt.drop.drop;walk_at"st";exact K _ _ o oc ox ks In.mid D hlo ⟨_,_,.inr (.tail _ (.head _)),pi.append hk⟩ S
theorem bq1{ks:List Int}(h:au8 ks):(∀ x∈ks,0<=x/\x<256)/\ks.length<=3/\(∀ x∈(aY ks).1,x<128)/\(aY ks).2<ks.length/\(aY ks).1.length<=1000/\((aF++ks).any fun x=>decide (127<x))=false:=by
 rcases h with rfl|rfl|rfl<;>refine⟨?_,?_,?_,?_,?_,?_⟩<;>decide
theorem ba1{ks:List Int}(h:au8 ks):cY ks 72 (aY ks).2 1:=by
 rcases h with rfl|rfl|rfl
 ·show cY _ _ 0 _
  exact .on (k:=25) (by decide) (by decide) (by decide) (by decide) (.short (by decide))
 ·show cY _ _ 0 _
  exact .fgx (by decide) (by decide)
 ·show cY _ _ 2 _
  exact .fgx (by decide) (by decide)
theorem ch6{h:Heap}{dc:Obj}{l fx:ac}{dx ax ox:Addr}{ks:List Int}{v0 v2 v4 v5 v6 v7:Option Value}
  (hlo:au8 ks) (hx:LI (In V ((L+1,dc)::fx)) ox (aF++ks)) (S:Fs c aB ay aT V ((L+1,dc)::fx) [v0,some (.ref dx),v2,some (.ref ax),v4,v5,v6,v7,some (.ref ox),none,none] l h)
  (K:∀ h' fx',(∀ a o,In V ((L+1,dc)::fx) a o->In V ((L+1,dc)::fx') a o)->Fs c aB ay aT V ((L+1,dc)::fx') [v0,some (.ref dx),v2,some (.ref ax),v4,v5,v6,v7,some (.ref ox),none,none] l h'->aO 12 h') :
  aO 11 h:=by
 walk_at"law";obtain⟨hr,hn,hs,hat,hsl,hlow⟩:=bq1 hlo;have hll:(aF++ks).length<=7:=by simp [aF]; lia
 ext;refine bc5 S aG rfl (fun oL st G hB=>ah8 G st (hx.mono hB) hr (by exact cr0 hn) hs hat (ba1 hlo) hsl) ar (by decide) fun v h' S1 kb q'=>?_;obtain⟨a,m,wa,ev,q1,q3⟩:=q';subst ev;obtain⟨f1,S,hf1,q3⟩:=Fs.gainB (P:=fun R=>LS R wa ["punycode"]) S1 S (LS.supp q3);obtain⟨f2,S,hf2,q1⟩:=S.see q1;have q3:=(LS.supp q3).mono hf2;have hx2:=(hx.mono hf1).mono hf2;ext;refine ad S (bd (by simp)) ?_;intro la h Z Z Z S;ext;refine ai3 S ar (by decide) (q1.elim S.at' fun q=>S.own _ (.tail _ q)) (hx2.mono S.hs) ((LS.supp q3).mono S.hs) (hx2.mono S.hs) ⟨_,_,S.hsl (.head _),.cons _ _ .nil⟩ (by exact b63 hll) (by simp) (fun w hw=>ab2 w (by rw[je.mp hw]; simp)) fun h S=>?_;have S:=S.drop;ext;refine bc5 S aG rfl (fun oL st G hB=>a05 G st (hx2.mono hB) hr (by exact cq9 hn) hs hat (ba1 hlo) hsl hlow) ar (by decide) fun v h' S1 kb q'=>?_;obtain⟨a,m,wa,ev,q1,q3⟩:=q';subst ev;obtain⟨f3,S,hf3,q3⟩:=Fs.gainB (P:=fun R=>LS R wa ["punycode"]) S1 S (LS.supp q3);obtain⟨f4,S,hf4,q1⟩:=S.see q1;have q3:=(LS.supp q3).mono hf4;have hx2:=(hx2.mono hf3).mono hf4;ext;refine ad S (bd (by simp)) ?_;intro la h Z Z Z S;ext;refine ai3 S ar (by decide) (q1.elim S.at' fun q=>S.own _ (.tail _ q)) (hx2.mono S.hs) ((LS.supp q3).mono S.hs) (hx2.mono S.hs) ⟨_,_,S.hsl (.head _),.cons _ _ .nil⟩ (by exact b63 hll) (by simp) (fun w hw=>ab2 w (by rw[je.mp hw]; simp)) fun h S=>?_;have S:=S.drop;walk_at"st";exact K _ f4 (fun a o q=>hf4 a o (hf3 a o (hf2 a o (hf1 a o q)))) S
theorem ch5{h:Heap}{dc:Obj}{l fx:ac}{dx ax:Addr}{v0 v2 v4 v5 v6 v7 v8:Option Value}
  (S:Fs c aB ay aT V ((L+1,dc)::fx) [v0,some (.ref dx),v2,some (.ref ax),v4,v5,v6,v7,v8,none,none] l h)
  (K:∀ h' fx',(∀ a o,In V ((L+1,dc)::fx) a o->In V ((L+1,dc)::fx') a o)->Fs c aB ay aT V ((L+1,dc)::fx') [v0,some (.ref dx),v2,some (.ref ax),v4,v5,v6,v7,v8,none,none] l h'->aO 13 h') :
  aO 12 h:=by
 walk_at"law";obtain⟨pits,pn,pl,pi⟩:=af4 c.w.params;have hpl:pits.length=4:=pi.length;have hi1:=fun t=>pi.append (IntsAre.cons 233 t .nil);ext;refine ad S (bd (by simp)) ?_;intro r0 h Z Z Z S;refine bj S (S.kin _ _ pl) (S.own _ (.head _)) (by simp; exact b61 hpl) ?_;intro r1 h Z Z S;have S:=S.keepIt.drop;ext;refine ba S (a04 S.good S.hs ⟨_,_,.inr (.tail _ (.head _)),hi1 _⟩ (by decide) (by decide) (by decide)) ar fun v h' S1 k q'=>?_;obtain⟨a,n,ta,wa,ev,q1,q2,q3⟩:=q';subst ev q2;obtain⟨f1,S,hf1,q3⟩:=Fs.gain (P:=fun R=>LS R wa ["punycode"]) S k (LS.supp q3);obtain⟨f2,S,hf2,q1⟩:=S.see q1;have q3:=(LS.supp q3).mono hf2;have q2:=hf2 _ _ (hf1 _ _ (.inr (.tail _ (.head _))));ext;refine ad S (bd (by simp)) ?_;intro r2 h Z Z Z S;refine bj S (S.kin _ _ pl) (S.own _ (.head _)) (by simp; exact b61 hpl) ?_;intro r3 h Z Z S;ext;refine ad S (bd (by simp)) ?_;intro la h Z Z Z S;ext;refine ai3 S ar (by decide) (q1.elim S.at' fun q=>S.own _ (.tail _ (.tail _ (.tail _ q)))) ⟨_,_,S.hs _ _ q2,hi1 _⟩ ((LS.supp q3).mono S.hs) ⟨_,_,S.hsl (.tail _ (.head _)),hi1 _⟩ ⟨_,_,S.hsl (.head _),.cons _ _ .nil⟩ (by decide) (by simp) (fun w hw=>ab2 w (by rw[je.mp hw]; simp)) fun h S=>?_;have S:=S.drop.drop.drop;walk_at"st";exact K _ f2 (fun a o q=>hf2 a o (hf1 a o (In.mid a o q))) S
noncomputable def am7:List Int:=ah.filter fun x=>!(([101,769,46]:List Int).any (·==x))
theorem ch4{h:Heap}{dc o oc sc:Obj}{dk ca:Addr}{fx:ac}{v0 v1 v2 v3 v4 v5 v6 v7 v8:Option Value}
  (hsc:sc.data=.cell none) (S:Fs c aB ay aT V ((L+1,dc)::fx) [v0,v1,v2,v3,v4,v5,v6,v7,v8,none,none] [(dk,o),(ca,oc),(L+1+1,sc)] h)
  (K:∀ h' fx' sc so ts k,(∀ a o,In V ((L+1,dc)::fx) a o->In V ((L+1,dc)::fx') a o)->sc.data=.cell (some (.ref so))->IntsAre ts am7->Fs c aB ay aT V ((L+1,dc)::(L+1+1,sc)::(so,listOf (List.toArray ts) k)::fx') [v0,v1,v2,v3,v4,v5,v6,v7,v8,none,none] [(dk,o),(ca,oc)] h'->aO 14 h') :
  aO 13 h:=by
 walk_at"law";obtain⟨cits,cn,cl,ci⟩:=ax1 c.w.params;have cln:=ci.length;ext;refine as6 ar.handled S (.inl (S.gd.X _ _ cl)) fun it h S src=>?_;refine bJ (gs':=[]) (ns':=["code"]) (src _ _) (by rw[cln]; decide) S (by walk_at"u") (by walk_at"u") (by walk_at"u") (fun i acc l'=>l'=[(dk,o),(ca,oc),(L+1+1,sc)]/\IntsAre acc ((ah.take i).filter fun x=>!(([101,769,46]:List Int).any (·==x)))) ⟨rfl,.nil⟩ ?_ ?_
 ·rintro Z Z C g D i v acc k ov l' h' own sb hii hv ⟨rfl,q1⟩ ha ho S;obtain⟨ov,rfl⟩:=b9 ho;have hix:i<ah.length:=by exact z0 cln hii
  obtain⟨tv,ev⟩:=au ci hix;obtain rfl:=cK hv ev;have htk:(ah.take (i+1)).filter (fun x=>!(([101,769,46]:List Int).any (·==x)))=(ah.take i).filter (fun x=>!(([101,769,46]:List Int).any (·==x)))++[ah.getD i 0].filter (fun x=>!(([101,769,46]:List Int).any (·==x))):=by rw[bH hix,jN]
  generalize ah.getD i 0=y at htk ⊢;ext;refine bi2 (xs:=[101,769,46]) (S.own _ (.head _)) (.cons _ _ (.cons _ _ (.cons _ _ .nil))) ?_;have S:=S.drop;ext;refine⟨fun h1=>?_,fun h1=>?_⟩
  ·have e:[y].filter (fun x=>!(([101,769,46]:List Int).any (·==x)))=[]:=by rw[jG,h1]; rfl
   ext;rw[htk,e,jD];exact⟨_,_,rfl,⟨rfl,q1⟩,S⟩
  ·have e:[y].filter (fun x=>!(([101,769,46]:List Int).any (·==x)))=[y]:=by rw[jG,h1]; rfl
   ext;rw[htk,e];exact⟨_,_,rfl,⟨rfl,q1.append (.cons _ _ .nil)⟩,S⟩
 ·rintro so acc k l' h' hD ⟨rfl,q1⟩ ha S;rw[cln,jF] at q1;have S:=S.keepIt;ext;have S:=Fs.front2 S;refine a34 S (by walk_at"u") (by walk_at"u") hsc ?_;intro sc h hsc Z S;walk_at"st";exact K _ fx sc so acc k (fun Z Z q=>q) hsc q1 S.keepIt
theorem bc1:∀ x∈am7,x∈ah:=fun x hx=>(List.mem_filter.mp hx).1
theorem ch3{h:Heap}{so:Addr}{dc o oc sc:Obj}{dk ca:Addr}{fx:ac}{v0 v1 v2 v3 v4 v5 v6 v7 v8:Option Value}{ss:List Value}{sn:Nat}
  (hdc:dc.data=.cell (some (.ref dk))) (hsc:sc.data=.cell (some (.ref so))) (hs:IntsAre ss am7) (D:dG c ca o oc) (S:Fs c aB ay aT V ((L+1,dc)::(L+1+1,sc)::(so,listOf ss.toArray sn)::fx) [v0,v1,v2,v3,v4,v5,v6,v7,v8,none,none] [(dk,o),(ca,oc)] h)
  (K:∀ h' fx' o oc ot ys,(∀ a o,In V ((L+1,dc)::fx) a o->In V ((L+1,dc)::fx') a o)->dG c ca o oc->(∀ y∈ys,y∈ah)->ys.length<=5->LI (In V ((L+1,dc)::fx')) ot ys->Fs c aB ay aT V ((L+1,dc)::fx') [v0,v1,v2,v3,v4,v5,v6,v7,v8,some (.ref ot),none] [(dk,o),(ca,oc)] h'->aO 15 h') :
  aO 14 h:=by
 walk_at"law";have ssn:=hs.length;refine cT ?_;refine an0 ?_;ext;refine ac7 [] S D ar (by decide) (by decide) (by decide) fun b u o oc h b0 b1 D Z S=>?_;ext;refine af8 S ?_;intro r t v h Z Z S;refine ad6 ar.handled S (by decide) (by exact b68 b0) (by decide) (by exact b99 b1) fun it h S src=>?_;refine ae9 (gs':=["_law_draw"]) (ns':=["k"]) (vf:=fun v=>[v0,v1,v2,v3,v4,v5,v6,v7,v8,some v,none]) (src _ _) (by exact z63 b1) S (by walk_at"u") (by walk_at"u") (by kernel_rfl) (fun i acc l'=>(av fun o oc=>dG c ca o oc/\l'=[(dk,o),(ca,oc)])/\∃ xs,IntsAre acc xs/\∀ x∈xs,x∈ah) ⟨⟨o,oc,D,rfl⟩,[],.nil,by simp⟩ ?_ (fun v=>by walk_at"put") ?_
 ·rintro Z Z C g D i v acc k ov l' h' own sb hi ⟨t,rfl⟩ ⟨⟨o,oc,D1,rfl⟩,xs,q1,q2⟩ ha ho S;obtain⟨ov,rfl⟩:=b9 ho;have g1:g.get? (L+1)=some dc:=sb.fx _ (.head _);have g2:g.get? (L+1+1)=some sc:=sb.fx _ (.tail _ (.head _));have g3:g.get? so=some (listOf ss.toArray sn):=sb.fx _ (.tail _ (.tail _ (.head _)));ext;refine ac7 [_] S D1 ar (by decide) (by decide) (by decide) fun n u o' oc' h n0 n1 D2 Z S=>?_;obtain⟨t2,e2⟩:=au hs (k:=n.toNat) (by show _<11; exact b79 n1);refine bk (S.keep g3) n0 (by exact cz4 n1) e2 ?_;have hm:am7.getD n.toNat 0∈am7:=by
   rw[jk,jj (show n.toNat<am7.length by show _<11; exact b79 n1)];exact List.getElem_mem _
  ext;refine⟨_,_,rfl,⟨⟨o',oc',D2,rfl⟩,xs++[_],q1.append (.cons _ _ .nil),fun x hx=>?_⟩,S⟩
  rcases jg.mp hx with hx|hx
  ·exact q2 x hx
  ·rw[je.mp hx]; exact bc1 _ hm
 ·rintro tx acc k l' h' hD ⟨⟨o,oc,D2,rfl⟩,xs,q1,q2⟩ ha S;have:=q1.length;walk_at"st";exact K _ _ o oc tx xs (fun a o q=>In.mid a o (In.mid a o (In.mid a o q))) D2 q2 (by exact z36 b1 ha this) ⟨_,_,.inr (.tail _ (.head _)),q1⟩ S.keepIt
theorem ch2{h:Heap}{ot:Addr}{dc:Obj}{l fx:ac}{v0 v1 v2 v3 v4 v5 v6 v7 v8:Option Value}{ys:List Int}
  (hy:∀ y∈ys,y∈ah) (hn:ys.length<=5) (hx:LI (In V ((L+1,dc)::fx)) ot ys) (S:Fs c aB ay aT V ((L+1,dc)::fx) [v0,v1,v2,v3,v4,v5,v6,v7,v8,some (.ref ot),none] l h)
  (K:∀ h' fx' ot ys,(∀ a o,In V ((L+1,dc)::fx) a o->In V ((L+1,dc)::fx') a o)->(∀ y∈ys,y∈ah)->ys.length<=6->ys.take 4≠aF->LI (In V ((L+1,dc)::fx')) ot ys->Fs c aB ay aT V ((L+1,dc)::fx') [v0,v1,v2,v3,v4,v5,v6,v7,v8,some (.ref ot),none] l h'->aO 16 h') :
  aO 15 h:=by
 walk_at"law";obtain⟨pits,pn,pl,pi⟩:=af4 c.w.params;obtain⟨ts,n,et,hi⟩:=hx;have htl:=hi.length;refine br (fun h'=>b5 fun fx' ot ys=>eG (∀ a o,In V ((L+1,dc)::fx) a o->In V ((L+1,dc)::fx') a o) (∀ y∈ys,y∈ah) (ys.length<=6) (ys.take 4≠aF) (LI (In V ((L+1,dc)::fx')) ot ys) (Fs c aB ay aT V ((L+1,dc)::fx') [v0,v1,v2,v3,v4,v5,v6,v7,v8,some (.ref ot),none] l h')) ?_ (fun h' q=>by obtain⟨fx',ot,ys,k1,k2,k3,k4,k5,k6⟩:=q; exact K h' fx' ot ys k1 k2 k3 k4 k5 k6);ext;refine aQ S (S.at' et) .none (.int _ _) (by exact b73 hn htl) ?_;intro r1 h Z Z S;ext;have hsx:=bf hi none (some 4);refine cE ar (S.own _ (.head _)) (S.kin _ _ pl) hsx pi ?_;have S:=S.drop;have e4:bY ys none (some 4)=ys.take 4:=cx ys 4;rw[e4];ext;refine BB.dec (fun h1=>?_) fun h1=>?_
 ·ext;refine ad S (bd (by simp)) ?_;intro r2 h Z Z Z S;ext;refine bj S (S.own _ (.head _)) (S.at' et) (by simp; exact cy9 hn htl) ?_;intro r3 h Z Z S;have S:=S.keepIt.drop;ext;refine⟨rfl,_,r3,97::ys,In.mid,fun y h=>?_,by simp; lia,?_,⟨_,_,.inr (.tail _ (.head _)),.cons _ _ hi⟩,S⟩
  ·rcases jf.mp h with rfl|h
   ·decide
   ·exact hy y h
  ·intro q;have:=congrArg List.head? q
   simp [aF] at this
 ·ext;exact⟨rfl,fx,ot,ys,fun Z Z q=>q,hy,by exact b59 hn,h1,⟨_,_,et,hi⟩,S⟩
theorem ch1{h:Heap}{dc:Obj}{l fx:ac}{dx fl ax ot:Addr}{ys:List Int}{tr ol hy jo:Bool}{v0 v4 v5 v6 v7 v8:Option Value}
  (I:ax6 c (In V ((L+1,dc)::fx)) dx fl ax tr ol hy jo) (hx:LI (In V ((L+1,dc)::fx)) ot ys) (hT:∀ x∈ys,x∈ah) (hn:ys.length<=6) (hne:ys.take 4≠aF)
  (S:Fs c aB ay aT V ((L+1,dc)::fx) [v0,some (.ref dx),some (.ref fl),some (.ref ax),v4,v5,v6,v7,v8,some (.ref ot),none] l h)
  (K:∀ h' fx',(∀ a o,In V ((L+1,dc)::fx) a o->In V ((L+1,dc)::fx') a o)->Fs c aB ay aT V ((L+1,dc)::fx') [v0,some (.ref dx),some (.ref fl),some (.ref ax),v4,v5,v6,v7,v8,some (.ref ot),none] l h'->aO 17 h') :
  aO 16 h:=by
 walk_at"law";obtain⟨I1,I2,I3⟩:=I;have hwl:=ak4 ys tr ol hy jo false;ext;refine ba S (aw8 S.good S.hs I1 hx hT (by exact b36 hn) hne I3) ar fun v h' S1 k q'=>?_;obtain⟨a,n,ta,wa,ev,q1,q2,q3⟩:=q';subst ev q2;obtain⟨f1,S,hf1,q3⟩:=Fs.gain (P:=fun R=>LS R wa (cH ys tr ol hy jo false)) S k (LS.supp q3);obtain⟨f2,S,hf2,q1⟩:=S.see q1;have q3:=(LS.supp q3).mono hf2;have hx2:=(hx.mono hf1).mono hf2;have I2:=I2.supp.mono fun a o q=>hf2 a o (hf1 a o q);ext;refine ba S (ao4 S.good (hx2.mono S.hs) (by exact b36 hn) (I2.supp.mono S.hs)) ar fun v h' S1 k q'=>?_;obtain⟨r2,ev,q4⟩:=q';subst ev;have q1:In V _ a _\/_:=q1;obtain⟨f3,S,hf3,q4⟩:=Fs.gain (P:=fun R=>LS R r2 (cH ys tr ol hy jo false)) S k (LS.supp q4);ext;refine ai3 S ar (by decide) (q1.elim (fun q=>S.at' (hf3 _ _ q)) fun q=>S.own _ q) ((hx2.mono hf3).mono S.hs) (((LS.supp q3).mono hf3).supp.mono S.hs) ((hx2.mono hf3).mono S.hs) (q4.supp.mono S.hs) (by exact cq8 hn) (by exact c45 hn hwl) (fun w hw=>ab2 w (a22 _ _ _ _ _ _ w hw)) fun h S=>?_;walk_at"st";exact K _ f3 (fun a o q=>hf3 a o (hf2 a o (hf1 a o q))) S
theorem a38{A:Around}{E:VP}{h:Heap}{a b:Addr}{xs ys:List Value}{m n k:Nat}{ws:List Str}{Q:VP}(ar:Ar A k)(ha:h.get? a=some (listOf xs.toArray m))(hb:h.get? b=some (listOf ys.toArray n))(ia:StrsAre xs ws)(ib:StrsAre ys ws)(hok:∀ w∈ws,PyData.strOk w=true)
  (q:Q (.bool false) h):Wp c E A (compareOp .NotEq (.ref a) (.ref b)) Q h:=by
 refine af6 ar ha hb (aw.strs (R:=Is h) ia hok) (aw.strs (R:=Is h) ib hok) (ab4 ws) (ab4 ws) ?_;rw[a58];exact q
noncomputable def ac6:List Int:=[0,1,62,63,64,100]
theorem cf8{A:Around}{E:VP}{h:Heap}{value slice:Expr}{a:Addr}{n:Int}{u t0 t1 t2 t3 t4 t5:Tok}{Q:VP}(ha:h.get? a=some (ai0 [.int 0 t0,.int 1 t1,.int 62 t2,.int 63 t3,.int 64 t4,.int 100 t5]))(n0:0<=n)(n1:n<6)(q:∀ t,Q (.int (ac6.getD n.toNat 0) t) h)
  (hs:autoParam (∃ ops,subscripted slice false (.ref a) (.int n u)=operate ops (getItem (.ref a) (.int n u))) aX):Wp c E A (subscriptTail value slice (.ref a) (.int n u)) Q h:=by
 have hz:IntsAre [.int 0 t0,.int 1 t1,.int 62 t2,.int 63 t3,.int 64 t4,.int 100 t5] ac6:=.cons 0 _ (.cons 1 _ (.cons 62 _ (.cons 63 _ (.cons 64 _ (.cons 100 _ .nil)))));obtain⟨t,e2⟩:=au hz (k:=n.toNat) (by show _<6; exact z68 n1);exact bI ha (by exact b66 n0) (by exact cz3 n1) (j:=n.toNat) (bg8 n0 (by show n<((6:Nat):Int); lia)) e2 (q t) hs
theorem ch0{h:Heap}{dc o oc:Obj}{dk ca:Addr}{fx:ac}{v0 v1 v2 v3 v4 v5 v6 v7 v8 v9:Option Value}
  (hdc:dc.data=.cell (some (.ref dk))) (D:dG c ca o oc) (S:Fs c aB ay aT V ((L+1,dc)::fx) [v0,v1,v2,v3,v4,v5,v6,v7,v8,v9,none] [(dk,o),(ca,oc)] h)
  (K:∀ h' fx' zx zs,(∀ a o,In V ((L+1,dc)::fx) a o->In V ((L+1,dc)::fx') a o)->(∀ z∈zs,z∈ac6)->zs.length<=5->LI (In V ((L+1,dc)::fx')) zx zs->Fs c aB ay aT V ((L+1,dc)::fx') [v0,v1,v2,v3,v4,v5,v6,v7,v8,v9,some (.ref zx)] [] h'->aO 18 h') :
  aO 17 h:=by
 walk_at"law";refine cT ?_;refine an0 ?_;ext;refine ac7 [] S D ar (by decide) (by decide) (by decide) fun b u o oc h b0 b1 D Z S=>?_;ext;refine af8 S ?_;intro r t v h Z Z S;refine ad6 ar.handled S (by decide) (by exact b68 b0) (by decide) (by exact b99 b1) fun it h S src=>?_;refine ae9 (gs':=["_law_draw"]) (ns':=["k"]) (vf:=fun v=>[v0,v1,v2,v3,v4,v5,v6,v7,v8,v9,some v]) (src _ _) (by exact z63 b1) S (by walk_at"u") (by walk_at"u") (by kernel_rfl) (fun i acc l'=>(av fun o oc=>dG c ca o oc/\l'=[(dk,o),(ca,oc)])/\∃ xs,IntsAre acc xs/\∀ x∈xs,x∈ac6) ⟨⟨o,oc,D,rfl⟩,[],.nil,by simp⟩ ?_ (fun v=>by walk_at"put") ?_
 ·rintro Z Z C g D i v acc k ov l' h' own sb hi ⟨t,rfl⟩ ⟨⟨o,oc,D1,rfl⟩,xs,q1,q2⟩ ha ho S;obtain⟨ov,rfl⟩:=b9 ho;have g1:g.get? (L+1)=some dc:=sb.fx _ (.head _);ext;refine ac7 [_,_] S D1 ar (by decide) (by decide) (by decide) fun n u o' oc' h n0 n1 D2 Z S=>?_;refine cf8 (S.own _ (.head _)) n0 n1 fun t2=>?_;have S:=S.drop;have hm:ac6.getD n.toNat 0∈ac6:=by
   rw[jk,jj (show n.toNat<ac6.length by show _<6; exact z68 n1)];exact List.getElem_mem _
  ext;refine⟨_,_,rfl,⟨⟨o',oc',D2,rfl⟩,xs++[_],q1.append (.cons _ _ .nil),fun x hx=>?_⟩,S⟩
  rcases jg.mp hx with hx|hx
  ·exact q2 x hx
  ·rw[je.mp hx]; exact hm
 ·rintro tx acc k l' h' hD ⟨⟨o,oc,D2,rfl⟩,xs,q1,q2⟩ ha S;have:=q1.length;walk_at"st";exact K _ _ tx xs In.mid q2 (by exact z36 b1 ha this) ⟨_,_,.inr (.tail _ (.head _)),q1⟩ S.keepIt.drop.drop
theorem bg7:∀ z∈ac6,0<=z/\z<=1000:=by decide
theorem by3(xs:List Int):∀ w∈ag4 xs,PyData.strOk w=true:=by
 intro w hw;unfold ag4 at hw
 rcases jg.mp hw with hw|hw
 ·obtain⟨x,Z,hx⟩:=List.mem_flatMap.mp hw;unfold cj at hx
  split at hx
  ·rw[je.mp hx]; decide +kernel
  ·split at hx
   ·rw[je.mp hx]; decide +kernel
   ·cases hx
 ·split at hw
  ·rw[je.mp hw]; decide +kernel
  ·cases hw
theorem bq2(xs:List Int):(ag4 xs).length<=xs.length+1:=by
 have h1:∀ rs:List Int,(rs.flatMap cj).length<=rs.length:=by
  intro rs
  induction rs with
  | nil=>simp
  | cons x r ih =>
   have:(cj x).length<=1:=by unfold cj; split<;>(try split)<;>simp
   rw[List.flatMap_cons,jl,jA];exact c39 ih this
 have h2:(bF xs).length<=xs.length:=by unfold bF; split<;>simp
 have:=h1 (bF xs);unfold ag4;have h3:(if 253<(bF xs).sum+(bF xs).length-1 then[("domain-length" : Str)] else[]).length<=1:=by split<;>simp
 rw[jl];exact di3 h2 this h3
theorem cg5{R:RP}{p:Addr}{xs:List Int}{vs:List Value}{xss:List (List Int)}(x:bW R vs xss)(q:LI R p xs):bW R (vs++[.ref p]) (xss++[xs]):=by
 induction x with
 | nil=>exact .cons q .nil
 | cons a _ ih=>exact .cons a ih
theorem a52(x:Int)(t:Tok):∀ m:Nat,IntsAre (List.replicate m (.int x t)) (List.replicate m x)
 | 0=>.nil
 | m+1=>.cons x t (a52 x t m)
theorem cg9{h:Heap}{zx:Addr}{dc:Obj}{fx:ac}{v0 v1 v2 v3 v4 v5 v6 v7 v8 v9:Option Value}{zs:List Int}
  (hz:∀ z∈zs,z∈ac6) (hn:zs.length<=5) (hx:LI (In V ((L+1,dc)::fx)) zx zs) (S:Fs c aB ay aT V ((L+1,dc)::fx) [v0,v1,v2,v3,v4,v5,v6,v7,v8,v9,some (.ref zx)] [] h)
  (K:∀ h',Fs c aB ay aT V ((L+1,dc)::fx) [v0,v1,v2,v3,v4,v5,v6,v7,v8,v9,some (.ref zx)] [] h'->aO 19 h') :
  aO 18 h:=by
 walk_at"law";have hzr:=fun z q=>bg7 z (hz z q);obtain⟨ts,n,et,hi⟩:=id hx;have htl:=hi.length;ext;refine bp ar.handled S et fun it h S src=>?_;refine bJ (gs':=[]) (ns':=["size"]) (src _ _) (by exact b73 hn htl) S (by walk_at"u") (by walk_at"u") (by walk_at"u") (fun i acc l'=>bW (fun a o=>(a,o)∈l') acc ((zs.take i).map fun x=>List.replicate x.toNat 97)) .nil ?_ ?_
 ·rintro Z Z C g D i v acc k ov l' h' own sb hii hv q1 ha ho S;obtain⟨ov,rfl⟩:=b9 ho;have hix:i<zs.length:=by exact z0 htl hii
  obtain⟨tv,ev⟩:=au hi hix;obtain rfl:=cK hv ev;have htk:=bH hix;have hy:zs.getD i 0∈zs:=by
   rw[jk,jj hix];exact List.getElem_mem _
  have hyr:=hzr _ hy;generalize zs.getD i 0=y at hyr htk;obtain⟨m,rfl⟩:∃ m:Nat,y=(m:Int):=⟨y.toNat,by exact da3 hyr⟩;ext;refine ad S (bd (by simp)) ?_;intro r1 h Z Z Z S;ext;refine bu5 S (S.own _ (.head _)) (by exact cx9 hyr) ?_;intro r2 h Z Z S;have S:=Fs.front1 S.drop2;ext;rw[htk,List.map_append];refine⟨_,_,rfl,cg5 (q1.mono fun a o q=>.tail _ q) ⟨_,_,.head _,?_⟩,S⟩
  show IntsAre _ (List.replicate (Int.toNat (m:Int)) 97)
  rw[Int.toNat_natCast];exact a52 _ _ m
 ·rintro rx acc k l' h' hD q1 ha S;rw[htl,jF] at q1;ext;have q1:=q1.mono fun a o (q:(a,o)∈l')=>S.hsl (.tail _ q);refine ba S (be7 S.good (R:=Hs h') (fun Z Z q=>q) (S.hsl (.head _)) q1 (by simp; exact b54 hn) (fun xs hxs=>?_)) ar fun v h' S k q=>?_
  ·obtain⟨z,hz,rfl⟩:=jM.mp hxs;have:=hzr z hz;rw[List.length_replicate]; exact db5 this
  obtain⟨a,ev,q2⟩:=q;subst ev;rw[bq3 zs fun z q=>(hzr z q).1] at q2;obtain⟨ws,m,ew,hw⟩:=q2;have hwl:=hw.length;have hll:=bq2 zs;ext;refine af7 S ew.1 (by exact c19 hn hwl hll) ?_;intro r3 m h Z Z S;ext;refine ba S (bf3 S.good (hx.mono S.hs) (by exact b54 hn) hzr) ar fun v h' S k q'=>?_;obtain⟨a,ev,⟨us,m2,eu,hu⟩⟩:=q';subst ev;refine a38 ar (S.own _ (.head _)) eu.1 hw hu (by3 zs) ?_;walk_at"st";exact K _ (S.pick (fun p hp=>absurd hp jm) trivial)
theorem cd3:∀ {ws:List Str},(∀ w∈ws,PyData.strOk w=true)->PyData.canLayAll0 (ws.map .str)=true
 | [],_=>by simp [PyData.canLayAll0]
 | w::r,h=>by simp [PyData.canLayAll0,PyData.canLay0,h w (.head _),cd3 fun x hx=>h x (.tail _ hx)]
theorem bu2:∀ {ws:List Str},(∀ w∈ws,w.cps.size<=11)->PyData.weightAll (ws.map .str)<=12*ws.length
 | [],_=>by simp [PyData.weightAll]
 | w::r,h=>by
  have h1:=h w (.head _);have h2:=bu2 fun x hx=>h x (.tail _ hx);simp only[List.map_cons,PyData.weightAll,PyData.weight,jA];exact c95 h1 h2
theorem bv9:∀ w∈([("form" : Str), "hyphens", "prefix", "dot", "mark", "disallowed", "joiner", "ascii", "punycode"]:List Str),w.cps.size<=11:=by decide +kernel
theorem bg1{ws:List Str}(h:∀ w∈ws,w∈([("form" : Str), "hyphens", "prefix", "dot", "mark", "disallowed", "joiner", "ascii", "punycode"]:List Str)) (hn:ws.length<=1000):PyData.layable0 (.list (ws.map .str))=true:=by
 unfold PyData.layable0;have h1:(PyData.list (ws.map .str)).canLay0=true:=by simp only[PyData.canLay0]; exact cd3 fun w hw=>ab2 w (h w hw)
 have h2:=bu2 (ws:=ws) fun w hw=>bv9 w (h w hw);have h3:(PyData.list (ws.map .str)).weight<=2 ^ 20:=by simp only[PyData.weight]; exact c02 hn h2
 rw[h1,jz (ab4 ws),jz h3]
 rfl
abbrev ky(w:Str):List Nat:=w.cps.toList
theorem cd5{a b:Str}(h:ky a=ky b):a=b:=by
 cases a; cases b
 simp only[ky] at h
 congr 1
 exact Array.toList_inj.mp h
theorem bh0{l:List Str}:∀ {p:Str},risingS p l=true->(p::l).Pairwise fun a b=>ky a<=ky b:=by
 induction l with
 | nil=>exact fun Z=>List.pairwise_singleton _ _
 | cons x r ih =>
  intro p h;simp only[risingS,jC,Bool.not_eq_true',ltCps_eq,decide_eq_false_iff_not] at h;have ih:=ih h.2;have hpx:ky p<=ky x:=h.1;exact List.pairwise_cons.mpr ⟨af hpx fun y hy=>List.le_trans hpx ((List.pairwise_cons.mp ih).1 y hy),ih⟩
theorem ay3{l:List Str}(h:sortedS l=true):l.Pairwise fun a b=>ky a<=ky b:=by
 cases l with
 | nil=>exact .nil
 | cons x r=>exact bh0 h
theorem bu9{a b:Str}(h:ky a<=ky b)(hn:a≠b):ky a<ky b:=by
 rcases Classical.em (ky a<ky b) with q|q
 ·exact q
 ·exact absurd (cd5 (List.le_antisymm h (List.not_lt.mp q))) hn
theorem cd4(a:Str):¬ ky a<ky a:=List.lt_irrefl _
theorem bg6{l:List Str}(h1:l.Nodup)(h2:l.Pairwise fun a b=>ky a<=ky b):l.Pairwise fun a b=>ky a<ky b:=(List.Pairwise.and h2 h1).imp fun h=>bu9 h.1 h.2
theorem a01{xs ys:List Str}(h1:xs.Pairwise fun a b=>ky a<ky b)(h2:ys.Pairwise fun a b=>ky a<ky b)(h:∀ k,k∈xs↔k∈ys):xs=ys:=ay4 (lt:=fun a b=>ky a<ky b) List.lt_trans cd4 h1 h2 h
theorem bx5{F:List Str}:∀ {w:Str},(F.Pairwise fun a b=>ky a<ky b)->(∀ f∈F,ky f<=ky w)->w∈F->F.getLast?=some w:=by
 induction F with
 | nil=>exact fun Z Z h=>absurd h jm
 | cons x r ih =>
  intro w h1 h2 h;obtain⟨a1,a2⟩:=List.pairwise_cons.mp h1
  cases r with
  | nil=>rw[je.mp h]; rfl
  | cons y r =>
   have hw:w∈y::r:=(jf.mp h).elim (fun e=>absurd (e▸a1 y (.head _)) (h2 y (.tail _ (.head _)))) id;rw[List.getLast?_cons_cons];exact ih a2 (fun f hf=>h2 f (.tail _ hf)) hw
theorem bz9{ss:List Str}:∀ {F:List Str},(F.Pairwise fun a b=>ky a<ky b)->(ss.Pairwise fun a b=>ky a<=ky b)->(∀ f∈F,∀ s∈ss,ky f<=ky s)->((ss.foldl cF F).Pairwise fun a b=>ky a<ky b)/\∀ k,k∈ss.foldl cF F↔k∈F\/k∈ss:=by
 induction ss with
 | nil=>exact fun h1 Z Z=>⟨h1,fun k=>⟨.inl,fun h=>h.elim id fun h=>absurd h jm⟩⟩
 | cons w r ih =>
  intro F h1 h2 h3;obtain⟨b1,b2⟩:=List.pairwise_cons.mp h2;rw[List.foldl_cons]
  by_cases q:F.getLast?=some w
  ·rw[show cF F w=F from if_pos q];obtain⟨i1,i2⟩:=ih h1 b2 fun f hf s hs=>h3 f hf s (.tail _ hs);exact⟨i1,fun k=>(i2 k).trans ⟨fun x=>x.imp id (.tail _),fun x=>x.elim .inl fun x=>(jf.mp x).elim (fun e=>.inl (e▸List.mem_of_getLast? q)) .inr⟩⟩
  ·rw[show cF F w=F++[w] from if_neg q];have hlt:∀ f∈F,ky f<ky w:=fun f hf=>bu9 (h3 f hf w (.head _)) fun e=>q (bx5 h1 (fun f hf=>h3 f hf w (.head _)) (e▸hf));obtain⟨i1,i2⟩:=ih (F:=F++[w]) (List.pairwise_append.mpr ⟨h1,List.pairwise_singleton _ _,fun f hf s hs=>by rw[je.mp hs]; exact hlt f hf⟩) b2 fun f hf s hs=>(jg.mp hf).elim (fun hf=>h3 f hf s (.tail _ hs)) fun hf=>by rw[je.mp hf]; exact b1 s hs
   exact⟨i1,fun k=>(i2 k).trans ⟨fun x=>x.elim (fun x=>(jg.mp x).elim .inl fun x=>.inr (je.mp x▸.head _)) fun x=>.inr (.tail _ x),fun x=>x.elim (fun x=>.inl (ji _ x)) fun x=>(jf.mp x).elim (fun e=>.inl (jh _ (e▸.head _))) .inr⟩⟩
theorem a83{ws ss xs:List Str}(hp:ss.Perm (ws++ws.reverse))(hs:sortedS ss=true)(hn:xs.Nodup)(hx:sortedS xs=true)(hm:∀ k,k∈xs↔k∈ws):dY ss=xs:=by
 obtain⟨i1,i2⟩:=bz9 (ss:=ss) (F:=[]) .nil (ay3 hs) (fun f hf=>absurd hf jm);refine a01 i1 (bg6 hn (ay3 hx)) fun k=>(i2 k).trans ?_;rw[hm k,hp.mem_iff]
 simp
theorem bn7{vs:List Value}{ws:List Str}(x:StrsAre vs ws):StrsAre vs.reverse ws.reverse:=by
 induction x with
 | nil=>exact .nil
 | cons x t _ ih =>
  rw[List.reverse_cons,List.reverse_cons];exact aL ih (.cons x t .nil)
theorem ba6:∀ (ss F:List Str),(ss.foldl cF F).length<=F.length+ss.length
 | [],_=>Nat.le_refl _
 | w::r,F=>by
  have h1:=ba6 r (cF F w);have h2:=ay9 F w;rw[List.foldl_cons,jA];exact z91 h1 h2
theorem cg8{h:Heap}{wx:Addr}{dc:Obj}{fx:ac}{v0 v1 v2 v3 v4 v5 v6 v8 v9 v10:Option Value}{ws:List Str}
  (hw:∀ w∈ws,w∈([("form" : Str), "hyphens", "prefix", "dot", "mark", "disallowed", "joiner", "ascii", "punycode"]:List Str)) (hn:ws.length<=20) (hx:LS (In V ((L+1,dc)::fx)) wx ws) (S:Fs c aB ay aT V ((L+1,dc)::fx) [v0,v1,v2,v3,v4,v5,v6,some (.ref wx),v8,v9,v10] [] h)
  (K:∀ h',Fs c aB ay aT V ((L+1,dc)::fx) [v0,v1,v2,v3,v4,v5,v6,some (.ref wx),v8,v9,v10] [] h'->aO 20 h') :
  aO 19 h:=by
 walk_at"law";obtain⟨ts,n,et,hi⟩:=id hx;have htl:=hi.length;ext;refine bu4 S (S.at' et) (.int _ _) (by exact cv5 hn htl) ?_;intro r1 h Z Z S;refine bj S (S.at' et) (S.own _ (.head _)) (by rw[List.length_reverse]; exact c36 hn htl) ?_;intro r2 h Z Z S;ext;refine ba S (be3 S.good (ws:=ws++ws.reverse) ⟨_,_,S.hsl (.head _),aL hi (bn7 hi)⟩ (by rw[jl,List.length_reverse]; exact c47 hn) (bg1 (fun w hq=>hw w (by rcases jg.mp hq with q|q; exact q; exact List.mem_reverse.mp q)) (by rw[jl,List.length_reverse]; exact cy2 hn))) ar fun v h' S k q'=>?_;obtain⟨a,ss,ev,hp,hs,⟨us,m,eu,hu⟩⟩:=q';subst ev;ext;have hul:=hu.length;have hsl:=hp.length_eq;rw[jl,List.length_reverse] at hsl;have hdl:=ba6 ss [];rw[jO] at hdl;refine af7 S eu.1 (by rw[hul]; unfold dY; exact da2 hn hsl hdl) ?_;intro r3 m h Z Z S;ext;refine cc9 S ar.handled (S.at' et) hi (by exact c30 hn htl) ?_;intro r4 so sn h hsn hset Z S;ext;refine bh9 S ar.handled (S.own _ (.head _)) hset hsn ?_;intro r5 its xs' m5 h hi5 hnd hs5 hm5 Z S;have e5:=a83 hp hs hnd hs5 hm5;rw[e5] at hu;refine a38 ar (S.own _ (.tail _ (.tail _ (.head _)))) (S.own _ (.head _)) hu hi5 (fun w hq=>ab2 w (hw w ((hm5 w).mp hq))) ?_;ext;refine ad S (by decide) ?_;intro r6 h Z Z Z S;ext;refine ba S (am3 S.good (R:=Hs h) (fun Z Z q=>q) (S.hsl (.head _)) (xss:=[]) .nil (by decide) (fun Z hq=>absurd hq jm)) ar fun v h' S k q'=>?_;obtain⟨a2,ev,⟨vs2,m2,eu2,hu2⟩⟩:=q';subst ev;have hu2:IntsAre vs2 []:=hu2;have hv2:=hu2.length;ext;refine af7 S eu2.1 (by rw[hv2]; decide) ?_;intro r7 m h Z Z S;ext;refine ad S (by decide) ?_;intro r8 h Z Z Z S;refine dy ar (S.own _ (.tail _ (.head _))) (S.own _ (.head _)) hu2 .nil ?_;rw[jz (rfl:([]:List Int)=[])];walk_at"st";exact K _ (S.pick (fun p hp=>absurd hp jm) trivial)
theorem cg7{h:Heap}{tx ot:Addr}{dc:Obj}{fx:ac}{v0 v1 v2 v3 v5 v6 v7 v8 v10:Option Value}{xs ys:List Int}
  (hx:LI (In V ((L+1,dc)::fx)) tx xs) (hy:LI (In V ((L+1,dc)::fx)) ot ys) (hn:xs.length<=100) (hm:ys.length<=100) (S:Fs c aB ay aT V ((L+1,dc)::fx) [v0,v1,v2,v3,some (.ref tx),v5,v6,v7,v8,some (.ref ot),v10] [] h) :
  aO 20 h:=by
 walk_at"law";obtain⟨ts,n,et,hi⟩:=id hx;have htl:=hi.length;obtain⟨us,m,eu,hu⟩:=id hy;have hul:=hu.length;ext;refine ad S (by decide) ?_;intro r1 h Z Z Z S;ext;refine ad S (bd (by simp)) ?_;intro r2 h Z Z Z S;ext;refine ba S (am3 S.good (R:=Hs h) (fun Z Z q=>q) (S.hsl (.head _)) (xss:=[xs,ys,[]]) (.cons (hx.mono S.hs) (.cons (hy.mono S.hs) (.cons ⟨[],_,S.hsl (.tail _ (.head _)),.nil⟩ .nil))) (by simp) (fun zs hq=>?_)) ar fun v h' S k q=>?_
 ·rcases jf.mp hq with rfl|hq
  ·exact b53 hn
  ·rcases jf.mp hq with rfl|hq
   ·exact b53 hm
   ·rw[je.mp hq]; simp
 obtain⟨a2,ev,vs2,m2,eu2,hu2⟩:=q;subst ev;have hj:bV [xs,ys,[]]=xs++[46]++ys++[46]:=by simp [bV]
 rw[hj] at hu2;have hv2:=hu2.length;simp only[jl,jA,jO] at hv2;ext;refine af7 S eu2.1 (by exact c98 hn hm hv2) ?_;intro r7 m h Z Z S;ext;refine ad S (bd (by simp)) ?_;intro r8 h Z Z Z S;refine bj S (S.at' et) (S.own _ (.head _)) (by simp; exact cu9 hn htl) ?_;intro r9 h Z Z S;ext;refine bj S (S.own _ (.head _)) (S.at' eu) (by simp; exact db0 hn hm htl hul) ?_;intro r10 h Z Z S;ext;refine ad S (bd (by simp)) ?_;intro r11 h Z Z Z S;refine bj S (S.own _ (.tail _ (.head _))) (S.own _ (.head _)) (by simp; exact da9 hn hm htl hul) ?_;intro r12 h Z Z S;have h46:=fun t=>IntsAre.cons 46 t .nil;refine cE ar (S.own _ (.tail _ (.tail _ (.tail _ (.tail _ (.tail _ (.head _))))))) (S.own _ (.head _)) hu2 (((hi.append (h46 _)).append hu).append (h46 _)) ?_;rw[jz rfl];ext;exact⟨rfl,S.stays,S.tab⟩
theorem by6{h:Heap}{o1 o2:Obj}{its:List Value}{zs:List Int}
  (S:Fs c aB ay aT V [] [some (.ref sx),none,none,none,none,none,none,none,none,none,none] [(L+1+1,o2),(L+1,o1)] h) (h1:o1.data=.cell none) (h2:o2.data=.cell none) (hs:V.IsList sx its.toArray) (hi:IntsAre its zs) (hn:zs.length<=63) :
  aO 0 h:=by
 refine dm4 S h1 hs hi hn fun h dk ca o oc dc hdc D S=>?_;refine dm3 hdc D S fun h f1 o oc dx fl tr ol hy jo D I1 I2 S=>?_;refine dm2 I2 S fun h f2 ax m I3 S=>?_;have I:ax6 c _ dx fl ax tr ol hy jo:=⟨I1.supp.mono m,I2.supp.mono m,I3⟩;refine dm1 hdc D S fun h o oc tx xs D hT hxn ts k hxi S=>?_;have I:=I.mono (In.mid (q:=(tx,listOf ts.toArray k)));refine dm0 hdc D ⟨_,_,.inr (.tail _ (.head _)),hxi⟩ hT hxn S fun h f4 o oc tx xs m D hx hT hxn S=>?_;have I:=I.mono m;refine dl9 hx hxn S fun h S=>?_;refine dl8 hx hT hxn I.2.1 S fun h f6 lx wx m ht hlx hw S=>?_;have I:=I.mono m;have hx:=hx.mono m;refine dl7 I hx hT hxn ht hlx hw S fun h S=>?_;refine dl6 hx hT hxn ht hlx S fun h f8 m S=>?_;have I:=I.mono m;have hx:=hx.mono m;have hw:=(LS.supp hw).mono m;refine dl5 hx hT hxn S fun h f9 m S=>?_;have I:=I.mono m;have hx:=hx.mono m;have hw:=(LS.supp hw).mono m;refine ch7 hdc D S fun h f10 o oc ox ks m D hlo hox S=>?_;have I:=I.mono m;have hx:=hx.mono m;have hw:=(LS.supp hw).mono m;refine ch6 hlo hox S fun h f11 m S=>?_;have I:=I.mono m;have hx:=hx.mono m;have hw:=(LS.supp hw).mono m;refine ch5 S fun h f12 m S=>?_;have I:=I.mono m;have hx:=hx.mono m;have hw:=(LS.supp hw).mono m;refine ch4 h2 S fun h f13 sc so ss sn m hsc hss S=>?_;have I:=I.mono m;have hx:=hx.mono m;have hw:=(LS.supp hw).mono m;refine ch3 hdc hsc hss D S fun h f14 o oc ot ys m D hy' hyn hot S=>?_;have I:=I.mono m;have hx:=hx.mono m;have hw:=(LS.supp hw).mono m;refine ch2 hy' hyn hot S fun h f15 ot ys m hy' hyn hne hot S=>?_;have I:=I.mono m;have hx:=hx.mono m;have hw:=(LS.supp hw).mono m;refine ch1 I hot hy' hyn hne S fun h f16 m S=>?_;have hx:=hx.mono m;have hot:=hot.mono m;have hw:=(LS.supp hw).mono m;refine ch0 hdc D S fun h f17 zx zs m hz hzn hzx S=>?_;have hx:=hx.mono m;have hot:=hot.mono m;have hw:=(LS.supp hw).mono m;refine cg9 hz hzn hzx S fun h S=>?_;refine cg8 (al2 xs tr ol hy jo) (by have:=as0 xs tr ol hy jo; exact c42 hxn this) hw S fun h S=>?_;exact cg7 hx hot (by exact cq7 hxn) (by exact cq6 hyn) S
theorem cg6:ag2 c lw:=by
 refine .mk ?_;intro body scope qual drawn toks Q E hl X T H F N l0 h1 h2 hs hi hn hq;obtain⟨e1,e2,e3⟩:=by5 aw3.2 hl;subst e1 e2 e3;have fn:Fn aT aB ay:=Fn.ofS (by decide +kernel);have N0:=N _ (.head _);have N1:=N _ (.tail _ (.head _));have N2:=N _ (.tail _ (.tail _ (.head _)));have S:Fs c aB ay aT V [] [some (.ref sx),none,none,none,none,none,none,none,none,none,none] [(L+1+1,lw.o2),(L+1,lw.o1)] lw.h :=
  {fr:=⟨by
    have e:=aj5 ["data", "flags", "asked", "text", "is_plain", "label", "told", "lost", "other", "sizes"] [("script", .ref sx)] (by show ay.Nodup; decide +kernel);have e2:bO ay [some (.ref sx),none,none,none,none,none,none,none,none,none,none]=(fun y=>if y=("script" : Str) then some (Value.ref sx) else none):=by
     refine Eq.trans e.symm ?_
     funext y
     by_cases q:y=("script" : Str)
     ·subst q; simp [List.lookup]
     ·have:(y==("script" : Str))=false:=by simpa using q
      simp [List.lookup,this,q]
    rw[e2];have F1:=F.ns;unfold bindL bindL at F1;have k:(envOfC aw3.1.2.2 aw3.1.2.1 lw.L lw.fa lw.cd).kindOf "script" = some .local:=fn.loc "script" (.head _);rw[if_pos k] at F1;exact F1,F.keep,F.above⟩
   own:=fun p hp=>by
    rcases jf.mp hp with rfl|hp
    ·exact N0.1
    ·rw[je.mp hp]; exact N1.1
   ord:=⟨fun q hq=>by rw[je.mp hq]; exact jv (Nat.lt_succ_self _),fun q hq=>absurd hq jm,trivial⟩
   ap:=fun p hp=>by
    rcases jf.mp hp with rfl|hp
    ·exact⟨N0.2.1,jJ (Nat.lt_succ_of_lt (Nat.lt_succ_of_lt l0)),N0.2.2⟩
    ·rw[je.mp hp]; exact⟨N1.2.1,jJ (Nat.lt_succ_of_lt l0),N1.2.2⟩
   tab:=⟨#[],N2.1,trivial,fun pos cv e=>by cases e⟩
   lt:=l0
   no:=N2.2.2
   gd:=⟨X,T,H⟩
   fn:=fn
   pl:=⟨rfl,rfl,rfl⟩
   fix:=fun p hp=>absurd hp jm
   off:=fun p hp=>absurd hp jm }
 have W:=by6 S h1 h2 hs hi hn;refine jd (W.run (toks,drawn)) (fun f s ⟨h',tk',e,q⟩=>?_) (fun e s ⟨_,_,_,q⟩=>q.elim);subst e
 cases f with
 | ret v=>obtain⟨rfl,q1,q2⟩:=q; exact hq h' tk' q1 q2
 | _=>exact absurd q.1 (by intro h; cases h)
theorem law_start{prog:Program}{w:World}{gA O:Heap}{body:List Stmt}{scope:Scope}{qual:Str}{L fa sx:Addr}{cd:Value}{o1 o2:Obj}{its:List Value}{zs:List Int}{gens:Array GenState}{drawn:Drawn}{toks:Nat}{os:OsState}{Q:Flow->Shared->Prop}{E:Value->Shared->Prop}
  (hl:au9 w.params body scope qual) (X:(Mine.hd.heap_39 w.params).In gA) (T:b5 fun mean mg mb=>Top topProg Lse mean mg mb gA) (H:CodeHd gA 147 145)
  (F:Fr gA L O (bindL (envOfC qual scope L fa cd).kindOf [("script", .ref sx)] fun Z=>none)) (N:News gA L O [(L+1+1,o2),(L+1,o1),(145,tabObj #[])]) (l0:@LT.lt Nat _ 145 L)
  (h1:o1.data=.cell none) (h2:o2.data=.cell none) (hs:gA.IsList sx its.toArray) (hi:IntsAre its zs) (hn:zs.length<=63)
  (hq:∀ h' (tk':Tk),gA.StaysIn h'->cw h'->Q (.ret (.bool true)) ⟨h',gens,tk'.2,tk'.1,os⟩) :
  wpAny (model prog w) (callerA.deeper (envOfC qual scope L fa cd)) (execs body (envOfC qual scope L fa cd)) Q E ⟨O,gens,drawn,toks,os⟩ :=
 (ci2 cg6 ⟨prog,w,gens,os⟩ ⟨gA,O,L,fa,sx,cd,o1,o2,its,zs⟩).run hl X T H F N l0 h1 h2 hs hi hn hq
theorem cf5(args ds:List WData):PySem.Challenge.rw_pq1307_01.row.claim.post args (.bool true) ds=true:=by walk_at"u"
theorem good_end{cl:Str->Option Addr}{mean:ExcName->Option Value}{args:List WData}{g h':Heap}{gens:Array GenState}{d0:Drawn}{t0:Nat}{os:OsState}{tk':Tk}(hg:gens=#[])(st:g.StaysIn h')(tb:cw h') :
  GoodW PySem.Challenge.rw_pq1307_01.row.claim cl mean args ⟨g,gens,d0,t0,os⟩ (.ok (.ret (.bool true))) ⟨h',gens,tk'.2,tk'.1,os⟩/\GrownAll [(147,145)] h':=by
 obtain⟨ps,et,Z⟩:=tb;exact⟨⟨.inl ⟨_,.bool true,[],rfl,fun cls=>rfl,.bool true,cf5 _ _,fun Z=>⟨List.nodup_nil,fun a ha=>absurd ha jm⟩⟩,st,rfl,hg⟩,⟨ps,et⟩,trivial⟩
end
end
end Mine.Internal
set_option maxHeartbeats 4000000 in
theorem PySem.Challenge.cw_pq1307_01_holds : PySem.Challenge.rw_pq1307_01.Holds :=
Mine.hd (by
  k_go0
  dsimp only
  rename_i zs hs0 hlay0 hL0 hr0 hl20 a31 a32 a33 a34 a35 hL ra w1 r0 hI hr hcond hcond2 hD h₁ tk₁ oA oB left right X0 X' T' K' F' N' l0
  refine Mine.Internal.law_start (o1 := oB) (o2 := oA) ?hl X' ⟨_, _, _, T'⟩ codeHd F' N' l0 ?h1 ?h2 lifted hI ?hn ?hq
  case hl => exact ⟨_, _, _, _, _, _, _, _, _, _, _, _, by k_is⟩
  case h1 => exact right
  case h2 => exact left
  case hn => exact Mine.Internal.z372 hcond
  case hq => exact fun h' tk' st tb => Mine.Internal.good_end (by assumption) st tb)
