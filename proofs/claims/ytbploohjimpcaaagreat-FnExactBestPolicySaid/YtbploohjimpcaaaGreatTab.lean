/- What the program's functions answer (Tab): no condition. -/
import Derived.Test.YtbploohjimpcaaaGreatProg
import Derived.KernelRfl
import Derived.Laws.StructEq
import Derived.Test.YtbploohjimpcaaaGreatLib3
set_option linter.unusedVariables false
set_option linter.unusedSimpArgs false
namespace Go.Proofs.YtbploohjimpcaaaGreat.A
open Go Go.Abs
def ty3:TInfo:=⟨.int .i64,1,8,[.int .i64 0]⟩
def ty4:TInfo:=⟨.bool,1,1,[.bool false]⟩
def ty9:TInfo:=⟨.str,1,16,[.str ⟨#[]⟩]⟩
def ty23:TInfo:=⟨.struct [(0,3),(1,3),(2,3),(3,3),(4,3),(5,3)],6,48,[.int .i64 0,.int .i64 0,.int .i64 0,.int .i64 0,.int .i64 0,.int .i64 0]⟩
def ty24:TInfo:=⟨.slice 104,1,24,[.lst 1 []]⟩
def ty25:TInfo:=⟨.slice 3,1,24,[.lst 1 []]⟩
def ty27:TInfo:=⟨.struct [(0,23),(6,24),(7,25)],8,96,[.int .i64 0,.int .i64 0,.int .i64 0,.int .i64 0,.int .i64 0,.int .i64 0,.lst 1 [],.lst 1 []]⟩
def ty29:TInfo:=⟨.struct [(0,3),(1,3),(2,3),(3,3),(4,3),(5,3)],6,48,[.int .i64 0,.int .i64 0,.int .i64 0,.int .i64 0,.int .i64 0,.int .i64 0]⟩
def ty30:TInfo:=⟨.slice 81,1,24,[.lst 19 []]⟩
def ty32:TInfo:=⟨.struct [(0,29),(6,25),(7,25),(8,30),(9,3),(10,3),(11,3),(12,3)],13,152,[.int .i64 0,.int .i64 0,.int .i64 0,.int .i64 0,.int .i64 0,.int .i64 0,.lst 1 [],.lst 1 [],.lst 19 [],.int .i64 0,.int .i64 0,.int .i64 0,.int .i64 0]⟩
def ty33:TInfo:=⟨.slice 108,1,24,[.lst 1 []]⟩
def ty34:TInfo:=⟨.slice 78,1,24,[.lst 8 []]⟩
def ty36:TInfo:=⟨.struct [(0,32),(13,33),(14,25),(15,34),(16,3)],17,232,[.int .i64 0,.int .i64 0,.int .i64 0,.int .i64 0,.int .i64 0,.int .i64 0,.lst 1 [],.lst 1 [],.lst 19 [],.int .i64 0,.int .i64 0,.int .i64 0,.int .i64 0,.lst 1 [],.lst 1 [],.lst 8 [],.int .i64 0]⟩
def ty40:TInfo:=⟨.struct [(0,29),(6,33),(7,25)],8,96,[.int .i64 0,.int .i64 0,.int .i64 0,.int .i64 0,.int .i64 0,.int .i64 0,.lst 1 [],.lst 1 []]⟩
def ty48:TInfo:=⟨.struct [(0,3),(1,3),(2,3),(3,3),(4,3),(5,3)],6,48,[.int .i64 0,.int .i64 0,.int .i64 0,.int .i64 0,.int .i64 0,.int .i64 0]⟩
def ty52:TInfo:=⟨.slice 48,1,24,[.lst 6 []]⟩
def ty74:TInfo:=⟨.struct [(0,3),(1,3),(2,3)],3,24,[.int .i64 0,.int .i64 0,.int .i64 0]⟩
def ty76:TInfo:=⟨.struct [(0,3),(1,3)],2,16,[.int .i64 0,.int .i64 0]⟩
def ty78:TInfo:=⟨.struct [(0,3),(1,74),(4,76),(6,3),(7,3)],8,64,[.int .i64 0,.int .i64 0,.int .i64 0,.int .i64 0,.int .i64 0,.int .i64 0,.int .i64 0,.int .i64 0]⟩
def ty79:TInfo:=⟨.slice 189,1,24,[.lst 4 []]⟩
def ty81:TInfo:=⟨.struct [(0,3),(1,74),(4,76),(6,3),(7,3),(8,3),(9,3),(10,3),(11,3),(12,3),(13,3),(14,25),(15,25),(16,79),(17,79),(18,25)],19,232,[.int .i64 0,.int .i64 0,.int .i64 0,.int .i64 0,.int .i64 0,.int .i64 0,.int .i64 0,.int .i64 0,.int .i64 0,.int .i64 0,.int .i64 0,.int .i64 0,.int .i64 0,.int .i64 0,.lst 1 [],.lst 1 [],.lst 4 [],.lst 4 [],.lst 1 []]⟩
def ty101:TInfo:=⟨.ptr 36,1,8,[.nilp]⟩
def ty104:TInfo:=⟨.slice 149,1,24,[.lst 3 []]⟩
def ty108:TInfo:=⟨.slice 74,1,24,[.lst 3 []]⟩
def ty116:TInfo:=⟨.func,1,8,[.nilf]⟩
def ty125:TInfo:=⟨.func,1,8,[.nilf]⟩
def ty129:TInfo:=⟨.ptr 32,1,8,[.nilp]⟩
def ty134:TInfo:=⟨.func,1,8,[.nilf]⟩
def ty137:TInfo:=⟨.func,1,8,[.nilf]⟩
def ty149:TInfo:=⟨.struct [(0,3),(1,3),(2,3)],3,24,[.int .i64 0,.int .i64 0,.int .i64 0]⟩
def ty175:TInfo:=⟨.slice 4,1,24,[.lst 1 []]⟩
def ty187:TInfo:=⟨.func,1,8,[.nilf]⟩
def ty189:TInfo:=⟨.struct [(0,3),(1,3),(2,3),(3,3)],4,32,[.int .i64 0,.int .i64 0,.int .i64 0,.int .i64 0]⟩
def ty197:TInfo:=⟨.ptr 81,1,8,[.nilp]⟩
def ty212:TInfo:=⟨.func,1,8,[.nilf]⟩
def ty224:TInfo:=⟨.func,1,8,[.nilf]⟩
def ty226:TInfo:=⟨.struct [(0,129),(1,197),(2,3)],3,24,[.nilp,.nilp,.int .i64 0]⟩
def ty252:TInfo:=⟨.slice 9,1,24,[.lst 1 []]⟩
def tys:List (TypeId×TInfo):=[
 (3,ty3),
 (4,ty4),
 (9,ty9),
 (23,ty23),
 (24,ty24),
 (25,ty25),
 (27,ty27),
 (29,ty29),
 (30,ty30),
 (32,ty32),
 (33,ty33),
 (34,ty34),
 (36,ty36),
 (40,ty40),
 (48,ty48),
 (52,ty52),
 (74,ty74),
 (76,ty76),
 (78,ty78),
 (79,ty79),
 (81,ty81),
 (101,ty101),
 (104,ty104),
 (108,ty108),
 (116,ty116),
 (125,ty125),
 (129,ty129),
 (134,ty134),
 (137,ty137),
 (149,ty149),
 (175,ty175),
 (187,ty187),
 (189,ty189),
 (197,ty197),
 (212,ty212),
 (224,ty224),
 (226,ty226),
 (252,ty252)]
noncomputable def fns:List (FuncId×Func):=[(5,Tryz.f5),(7,Tryz.f7),(15,Tryz.f15),(17,Tryz.f17),(20,Tryz.f20),(26,Tryz.f26),(27,Tryz.f27),(28,Tryz.f28),(29,Tryz.f29),(30,Tryz.f30),(34,Tryz.f34),(35,Tryz.f35),(36,Tryz.f36),(38,Tryz.f38),(39,Tryz.f39),(42,Tryz.f42),(47,Tryz.f47),(48,Tryz.f48),(49,Tryz.f49),(50,Tryz.f50),(56,Tryz.f56),(60,Tryz.f60),(61,Tryz.f61),(67,Tryz.f67),(69,Tryz.f69),(71,Tryz.f71),(72,Tryz.f72),(73,Tryz.f73),(76,Tryz.f76),(78,Tryz.f78),(89,Tryz.f89),(90,Tryz.f90),(91,Tryz.f91),(92,Tryz.f92),(93,Tryz.f93),(95,Tryz.f95),(96,Tryz.f96),(98,Tryz.f98),(101,Tryz.f101),(102,Tryz.f102),(103,Tryz.f103),(104,Tryz.f104),(105,Tryz.f105),(106,Tryz.f106),(107,Tryz.f107),(108,Tryz.f108),(109,Tryz.f109),(119,Tryz.f119),(120,Tryz.f120),(121,Tryz.f121),(122,Tryz.f122),(126,Tryz.f126),(127,Tryz.f127),(128,Tryz.f128),(130,Tryz.f130),(131,Tryz.f131),(133,Tryz.f133),(134,Tryz.f134),(135,Tryz.f135),(136,Tryz.f136),(137,Tryz.f137),(138,Tryz.f138),(139,Tryz.f139),(140,Tryz.f140),(141,Tryz.f141),(150,Tryz.f150),(151,Tryz.f151),(152,Tryz.f152),(153,Tryz.f153),(155,Tryz.f155),(156,Tryz.f156),(162,Tryz.f162),(163,Tryz.f163),(164,Tryz.f164),(165,Tryz.f165),(166,Tryz.f166),(167,Tryz.f167),(168,Tryz.f168),(169,Tryz.f169),(170,Tryz.f170),(171,Tryz.f171),(172,Tryz.f172),(173,Tryz.f173),(174,Tryz.f174),(175,Tryz.f175),(176,Tryz.f176),(177,Tryz.f177),(178,Tryz.f178),(183,Tryz.f183),(184,Tryz.f184),(185,Tryz.f185),(186,Tryz.f186),(190,Tryz.f190),(191,Tryz.f191),(192,Tryz.f192),(193,Tryz.f193),(194,Tryz.f194),(195,Tryz.f195),(196,Tryz.f196),(197,Tryz.f197),(198,Tryz.f198),(199,Tryz.f199),(200,Tryz.f200),(201,Tryz.f201),(202,Tryz.f202),(203,Tryz.f203),(204,Tryz.f204),(205,Tryz.f205),(206,Tryz.f206),(207,Tryz.f207),(208,Tryz.f208),(209,Tryz.f209),(216,Tryz.f216),(217,Tryz.f217),(218,Tryz.f218),(219,Tryz.f219),(220,Tryz.f220),(221,Tryz.f221),(222,Tryz.f222),(223,Tryz.f223),(224,Tryz.f224),(225,Tryz.f225),(226,Tryz.f226),(227,Tryz.f227),(228,Tryz.f228),(229,Tryz.f229),(230,Tryz.f230),(231,Tryz.f231),(232,Tryz.f232),(233,Tryz.f233),(234,Tryz.f234),(242,Tryz.f242),(243,Tryz.f243),(244,Tryz.f244),(245,Tryz.f245),(246,Tryz.f246),(247,Tryz.f247),(248,Tryz.f248),(249,Tryz.f249),(250,Tryz.f250),(251,Tryz.f251),(252,Tryz.f252),(253,Tryz.f253),(254,Tryz.f254),(255,Tryz.f255),(256,Tryz.f256),(257,Tryz.f257),(258,Tryz.f258),(259,Tryz.f259),(260,Tryz.f260),(261,Tryz.f261),(262,Tryz.f262),(263,Tryz.f263),(264,Tryz.f264),(265,Tryz.f265),(266,Tryz.f266),(267,Tryz.f267),(268,Tryz.f268),(271,Tryz.f271),(276,Tryz.f276),(277,Tryz.f277),(278,Tryz.f278),(279,Tryz.f279),(280,Tryz.f280),(281,Tryz.f281),(282,Tryz.f282),(285,Tryz.f285),(286,Tryz.f286),(287,Tryz.f287),(288,Tryz.f288),(289,Tryz.f289),(290,Tryz.f290),(291,Tryz.f291),(292,Tryz.f292),(293,Tryz.f293),(294,Tryz.f294),(295,Tryz.f295),(296,Tryz.f296),(297,Tryz.f297),(303,Tryz.f303),(304,Tryz.f304),(305,Tryz.f305),(306,Tryz.f306),(307,Tryz.f307),(308,Tryz.f308),(309,Tryz.f309),(310,Tryz.f310),(311,Tryz.f311),(312,Tryz.f312),(313,Tryz.f313),(314,Tryz.f314),(315,Tryz.f315),(316,Tryz.f316),(317,Tryz.f317),(318,Tryz.f318),(319,Tryz.f319),(320,Tryz.f320),(321,Tryz.f321),(322,Tryz.f322),(323,Tryz.f323),(324,Tryz.f324),(329,Tryz.f329),(331,Tryz.f331),(332,Tryz.f332),(333,Tryz.f333),(337,Tryz.f337),(338,Tryz.f338),(339,Tryz.f339),(340,Tryz.f340),(341,Tryz.f341),(342,Tryz.f342),(343,Tryz.f343),(344,Tryz.f344),(345,Tryz.f345),(346,Tryz.f346),(347,Tryz.f347),(348,Tryz.f348),(349,Tryz.f349),(350,Tryz.f350),(351,Tryz.f351),(352,Tryz.f352),(358,Tryz.f358),(359,Tryz.f359),(360,Tryz.f360),(361,Tryz.f361),(365,Tryz.f365),(366,Tryz.f366),(367,Tryz.f367),(368,Tryz.f368),(369,Tryz.f369),(375,Tryz.f375),(376,Tryz.f376)]
def inls:List FuncId:=[21,22,32,79,80,81,82,99,100,144,145,151,157,167,187,206,212,217,219,221,223,224,225,227,228,229,231,238,239,258,285,286,287,288,290,293,294,296,301,305,306,307,308,309,310,311,312,314,316,317,319,337,339,340,342,343,344,345,348]
def noisy:List (Nat×Nat):=[(5,10),(7,10),(27,11),(49,3),(49,9),(73,3),(89,10),(89,13),(90,1),(90,6),(91,1),(103,3),(106,1),(107,6),(137,2),(140,3),(164,2),(164,6),(167,4),(168,6),(219,11),(219,22),(221,13),(223,14),(224,13),(224,25),(224,28),(225,6),(225,10),(225,12),(227,9),(243,1),(243,2),(288,7),(305,4),(305,10),(306,4),(306,10),(306,12),(306,15),(306,21),(307,4),(307,7),(307,10),(307,13),(309,4),(309,14),(309,17),(310,10),(310,12),(310,15),(310,18),(310,21),(310,24),(311,4),(311,7),(311,10),(311,12),(312,18),(312,21),(319,2),(342,3)]
def padL:List (Nat×Nat):=[(311,10)]
def lives:List (FuncId×List (Nat×List Nat)):=[
 (26,[(6,[1,2,4,6,7]),(14,[2,4,6,8])]),
 (27,[(6,[2,4,6,28,29,30]),(13,[2,6,61,62,63])]),
 (29,[(3,[1,3,4])]),
 (30,[(5,[1,3,4])]),
 (34,[(4,[3,4,5])]),
 (35,[(3,[3,8,9,10])]),
 (36,[(5,[0,1,5])]),
 (39,[(3,[0,3,4])]),
 (42,[(4,[0,1,5])]),
 (47,[(4,[1,3]),(9,[1,4])]),
 (49,[(5,[1,4,6,7])]),
 (56,[(4,[1,40,41,42])]),
 (61,[(3,[1,3,4])]),
 (67,[(5,[1,5,11,12,13])]),
 (71,[(3,[0,3,4])]),
 (76,[(4,[0,1,5])]),
 (90,[(4,[2,4,5,6])]),
 (95,[(3,[0,3,4])]),
 (98,[(4,[0,1,5])]),
 (102,[(2,[0,3])]),
 (103,[(5,[1,2,3,4])]),
 (108,[(7,[1,3,80,81]),(13,[1,3,96,97])]),
 (126,[(6,[0,5,7])]),
 (130,[(4,[1,3]),(9,[1,4]),(14,[1,5]),(20,[1,7])]),
 (131,[(4,[2,5,6,7])]),
 (137,[(5,[0,3,4,5,6,7,38,39]),(8,[0,3,4,5,6,7,38,39,44,45,46]),(14,[0,3,4,5,6,7,59,60,61]),(17,[0,3,4,5,6,7,12,59,60,61,66,67,68]),(22,[0,3,4,5,6,7,12,59,60,61,77,78,79]),(29,[0,3,4,5,6,7,59,60,61,101,102,103]),(37,[0,4,5,6,7,120,121])]),
 (141,[(3,[3,7,8,9])]),
 (151,[(1,[0,1,4])]),
 (164,[(4,[2,3,17,18,19])]),
 (167,[(1,[0,1,4])]),
 (178,[(6,[1,2,3,4])]),
 (185,[(2,[0,5,6,7])]),
 (186,[(2,[0,1,7,8])]),
 (191,[(2,[0,1,7,8])]),
 (194,[(2,[2,3,5]),(7,[2,3,6])]),
 (204,[(4,[1,2,6,7,8]),(8,[1,2,6,7,8,9,10]),(14,[1,2,6,7,8,9,11]),(25,[1,2,6,7,12]),(29,[1,2,6,7,12,13,14])]),
 (207,[(2,[0,1,7,8])]),
 (228,[(9,[0,1,4,7,8])]),
 (263,[(2,[0,1,7,8])]),
 (271,[(2,[0,1,7,8])]),
 (279,[(2,[1,2,5])]),
 (281,[(2,[1,2,5]),(6,[1,2,5,6,7])]),
 (292,[(6,[3,5])]),
 (297,[(4,[0,1,6,7,8])]),
 (314,[(10,[1,2,76,77,78])]),
 (329,[(3,[0,3,4])]),
 (331,[(4,[0,1,2,3,10,11,12])]),
 (333,[(2,[0,1,5])]),
 (347,[(3,[0,1,3,10,11,17,18,19])]),
 (351,[(3,[1,6,7,12,13,14])]),
 (352,[(2,[0,1,7,8])]),
 (360,[(2,[1,2,5])]),
 (361,[(2,[1,2,5])])]
def iom:List (Nat×Nat):=[(89,2),(150,2)]
def ios:List (Nat×Nat):=[(89,36),(150,32)]
def eqsL:List (TypeId×Nat):=[]
noncomputable def cfg:Cfg:=⟨tys,fns,fun f=>if memN inls f then 1 else atN iom f 0,fun _=>true,fun f r=>atN (atN lives f []) r [],18446744073709551616,eqsL,fun _=>none,fun f i=>!memP noisy f i,fun f=>atN ios f 0,fun f i=>memP padL f i⟩
theorem eqs_ok:∀ y∈eqsL,EqOK Tryz.prog y.1 y.2:=fun _ h=>(nomatch h)
theorem tyok3:TyOK Tryz.prog 3 ty3:=TyOK.of (cells:=[.int .i64 0]) Tryz.underlying3 rfl (by kernel_rfl) rfl rfl rfl (by kernel_rfl) (by decide)
theorem tyok4:TyOK Tryz.prog 4 ty4:=TyOK.of (cells:=[.bool false]) Tryz.underlying4 rfl (by kernel_rfl) rfl rfl rfl (by kernel_rfl) (by decide)
theorem tyok9:TyOK Tryz.prog 9 ty9:=TyOK.of (cells:=[.string ⟨#[]⟩]) Tryz.underlying9 rfl (by kernel_rfl) rfl rfl rfl (by kernel_rfl) (by decide)
theorem tyok23:TyOK Tryz.prog 23 ty23:=TyOK.of (cells:=[.int .i64 0,.int .i64 0,.int .i64 0,.int .i64 0,.int .i64 0,.int .i64 0]) Tryz.underlying23 ⟨_,rfl,rfl⟩ (by kernel_rfl) rfl rfl rfl (by kernel_rfl) (by decide)
theorem tyok24:TyOK Tryz.prog 24 ty24:=TyOK.of (cells:=[.slice none 0 0]) Tryz.underlying24 rfl (by kernel_rfl) rfl rfl rfl (by kernel_rfl) (by decide)
theorem tyok25:TyOK Tryz.prog 25 ty25:=TyOK.of (cells:=[.slice none 0 0]) Tryz.underlying25 rfl (by kernel_rfl) rfl rfl rfl (by kernel_rfl) (by decide)
theorem tyok27:TyOK Tryz.prog 27 ty27:=TyOK.of (cells:=[.int .i64 0,.int .i64 0,.int .i64 0,.int .i64 0,.int .i64 0,.int .i64 0,.slice none 0 0,.slice none 0 0]) Tryz.underlying27 ⟨_,rfl,rfl⟩ (by kernel_rfl) rfl rfl rfl (by kernel_rfl) (by decide)
theorem tyok29:TyOK Tryz.prog 29 ty29:=TyOK.of (cells:=[.int .i64 0,.int .i64 0,.int .i64 0,.int .i64 0,.int .i64 0,.int .i64 0]) Tryz.underlying29 ⟨_,rfl,rfl⟩ (by kernel_rfl) rfl rfl rfl (by kernel_rfl) (by decide)
theorem tyok30:TyOK Tryz.prog 30 ty30:=TyOK.of (cells:=[.slice none 0 0]) Tryz.underlying30 rfl (by kernel_rfl) rfl rfl rfl (by kernel_rfl) (by decide)
theorem tyok32:TyOK Tryz.prog 32 ty32:=TyOK.of (cells:=[.int .i64 0,.int .i64 0,.int .i64 0,.int .i64 0,.int .i64 0,.int .i64 0,.slice none 0 0,.slice none 0 0,.slice none 0 0,.int .i64 0,.int .i64 0,.int .i64 0,.int .i64 0]) Tryz.underlying32 ⟨_,rfl,rfl⟩ (by kernel_rfl) rfl rfl rfl (by kernel_rfl) (by decide)
theorem tyok33:TyOK Tryz.prog 33 ty33:=TyOK.of (cells:=[.slice none 0 0]) Tryz.underlying33 rfl (by kernel_rfl) rfl rfl rfl (by kernel_rfl) (by decide)
theorem tyok34:TyOK Tryz.prog 34 ty34:=TyOK.of (cells:=[.slice none 0 0]) Tryz.underlying34 rfl (by kernel_rfl) rfl rfl rfl (by kernel_rfl) (by decide)
theorem tyok36:TyOK Tryz.prog 36 ty36:=TyOK.of (cells:=[.int .i64 0,.int .i64 0,.int .i64 0,.int .i64 0,.int .i64 0,.int .i64 0,.slice none 0 0,.slice none 0 0,.slice none 0 0,.int .i64 0,.int .i64 0,.int .i64 0,.int .i64 0,.slice none 0 0,.slice none 0 0,.slice none 0 0,.int .i64 0]) Tryz.underlying36 ⟨_,rfl,rfl⟩ (by kernel_rfl) rfl rfl rfl (by kernel_rfl) (by decide)
theorem tyok40:TyOK Tryz.prog 40 ty40:=TyOK.of (cells:=[.int .i64 0,.int .i64 0,.int .i64 0,.int .i64 0,.int .i64 0,.int .i64 0,.slice none 0 0,.slice none 0 0]) Tryz.underlying40 ⟨_,rfl,rfl⟩ (by kernel_rfl) rfl rfl rfl (by kernel_rfl) (by decide)
theorem tyok48:TyOK Tryz.prog 48 ty48:=TyOK.of (cells:=[.int .i64 0,.int .i64 0,.int .i64 0,.int .i64 0,.int .i64 0,.int .i64 0]) Tryz.underlying48 ⟨_,rfl,rfl⟩ (by kernel_rfl) rfl rfl rfl (by kernel_rfl) (by decide)
theorem tyok52:TyOK Tryz.prog 52 ty52:=TyOK.of (cells:=[.slice none 0 0]) Tryz.underlying52 rfl (by kernel_rfl) rfl rfl rfl (by kernel_rfl) (by decide)
theorem tyok74:TyOK Tryz.prog 74 ty74:=TyOK.of (cells:=[.int .i64 0,.int .i64 0,.int .i64 0]) Tryz.underlying74 ⟨_,rfl,rfl⟩ (by kernel_rfl) rfl rfl rfl (by kernel_rfl) (by decide)
theorem tyok76:TyOK Tryz.prog 76 ty76:=TyOK.of (cells:=[.int .i64 0,.int .i64 0]) Tryz.underlying76 ⟨_,rfl,rfl⟩ (by kernel_rfl) rfl rfl rfl (by kernel_rfl) (by decide)
theorem tyok78:TyOK Tryz.prog 78 ty78:=TyOK.of (cells:=[.int .i64 0,.int .i64 0,.int .i64 0,.int .i64 0,.int .i64 0,.int .i64 0,.int .i64 0,.int .i64 0]) Tryz.underlying78 ⟨_,rfl,rfl⟩ (by kernel_rfl) rfl rfl rfl (by kernel_rfl) (by decide)
theorem tyok79:TyOK Tryz.prog 79 ty79:=TyOK.of (cells:=[.slice none 0 0]) Tryz.underlying79 rfl (by kernel_rfl) rfl rfl rfl (by kernel_rfl) (by decide)
theorem tyok81:TyOK Tryz.prog 81 ty81:=TyOK.of (cells:=[.int .i64 0,.int .i64 0,.int .i64 0,.int .i64 0,.int .i64 0,.int .i64 0,.int .i64 0,.int .i64 0,.int .i64 0,.int .i64 0,.int .i64 0,.int .i64 0,.int .i64 0,.int .i64 0,.slice none 0 0,.slice none 0 0,.slice none 0 0,.slice none 0 0,.slice none 0 0]) Tryz.underlying81 ⟨_,rfl,rfl⟩ (by kernel_rfl) rfl rfl rfl (by kernel_rfl) (by decide)
theorem tyok101:TyOK Tryz.prog 101 ty101:=TyOK.of (cells:=[.pointer none]) Tryz.underlying101 rfl (by kernel_rfl) rfl rfl rfl (by kernel_rfl) (by decide)
theorem tyok104:TyOK Tryz.prog 104 ty104:=TyOK.of (cells:=[.slice none 0 0]) Tryz.underlying104 rfl (by kernel_rfl) rfl rfl rfl (by kernel_rfl) (by decide)
theorem tyok108:TyOK Tryz.prog 108 ty108:=TyOK.of (cells:=[.slice none 0 0]) Tryz.underlying108 rfl (by kernel_rfl) rfl rfl rfl (by kernel_rfl) (by decide)
theorem tyok116:TyOK Tryz.prog 116 ty116:=TyOK.of (cells:=[.nilFunc]) Tryz.underlying116 ⟨_,_,_,rfl⟩ (by kernel_rfl) rfl rfl rfl (by kernel_rfl) (by decide)
theorem tyok125:TyOK Tryz.prog 125 ty125:=TyOK.of (cells:=[.nilFunc]) Tryz.underlying125 ⟨_,_,_,rfl⟩ (by kernel_rfl) rfl rfl rfl (by kernel_rfl) (by decide)
theorem tyok129:TyOK Tryz.prog 129 ty129:=TyOK.of (cells:=[.pointer none]) Tryz.underlying129 rfl (by kernel_rfl) rfl rfl rfl (by kernel_rfl) (by decide)
theorem tyok134:TyOK Tryz.prog 134 ty134:=TyOK.of (cells:=[.nilFunc]) Tryz.underlying134 ⟨_,_,_,rfl⟩ (by kernel_rfl) rfl rfl rfl (by kernel_rfl) (by decide)
theorem tyok137:TyOK Tryz.prog 137 ty137:=TyOK.of (cells:=[.nilFunc]) Tryz.underlying137 ⟨_,_,_,rfl⟩ (by kernel_rfl) rfl rfl rfl (by kernel_rfl) (by decide)
theorem tyok149:TyOK Tryz.prog 149 ty149:=TyOK.of (cells:=[.int .i64 0,.int .i64 0,.int .i64 0]) Tryz.underlying149 ⟨_,rfl,rfl⟩ (by kernel_rfl) rfl rfl rfl (by kernel_rfl) (by decide)
theorem tyok175:TyOK Tryz.prog 175 ty175:=TyOK.of (cells:=[.slice none 0 0]) Tryz.underlying175 rfl (by kernel_rfl) rfl rfl rfl (by kernel_rfl) (by decide)
theorem tyok187:TyOK Tryz.prog 187 ty187:=TyOK.of (cells:=[.nilFunc]) Tryz.underlying187 ⟨_,_,_,rfl⟩ (by kernel_rfl) rfl rfl rfl (by kernel_rfl) (by decide)
theorem tyok189:TyOK Tryz.prog 189 ty189:=TyOK.of (cells:=[.int .i64 0,.int .i64 0,.int .i64 0,.int .i64 0]) Tryz.underlying189 ⟨_,rfl,rfl⟩ (by kernel_rfl) rfl rfl rfl (by kernel_rfl) (by decide)
theorem tyok197:TyOK Tryz.prog 197 ty197:=TyOK.of (cells:=[.pointer none]) Tryz.underlying197 rfl (by kernel_rfl) rfl rfl rfl (by kernel_rfl) (by decide)
theorem tyok212:TyOK Tryz.prog 212 ty212:=TyOK.of (cells:=[.nilFunc]) Tryz.underlying212 ⟨_,_,_,rfl⟩ (by kernel_rfl) rfl rfl rfl (by kernel_rfl) (by decide)
theorem tyok224:TyOK Tryz.prog 224 ty224:=TyOK.of (cells:=[.nilFunc]) Tryz.underlying224 ⟨_,_,_,rfl⟩ (by kernel_rfl) rfl rfl rfl (by kernel_rfl) (by decide)
theorem tyok226:TyOK Tryz.prog 226 ty226:=TyOK.of (cells:=[.pointer none,.pointer none,.int .i64 0]) Tryz.underlying226 ⟨_,rfl,rfl⟩ (by kernel_rfl) rfl rfl rfl (by kernel_rfl) (by decide)
theorem tyok252:TyOK Tryz.prog 252 ty252:=TyOK.of (cells:=[.slice none 0 0]) Tryz.underlying252 rfl (by kernel_rfl) rfl rfl rfl (by kernel_rfl) (by decide)
theorem tys_ok:TysOK Tryz.prog tys:=by
 intro y hy
 simp only [tys,List.mem_cons,List.not_mem_nil,or_false] at hy
 rcases hy with rfl | rfl | rfl | rfl | rfl | rfl | rfl | rfl | rfl | rfl | rfl | rfl | rfl | rfl | rfl | rfl | rfl | rfl | rfl | rfl | rfl | rfl | rfl | rfl | rfl | rfl | rfl | rfl | rfl | rfl | rfl | rfl | rfl | rfl | rfl | rfl | rfl | rfl
 ·exact tyok3
 ·exact tyok4
 ·exact tyok9
 ·exact tyok23
 ·exact tyok24
 ·exact tyok25
 ·exact tyok27
 ·exact tyok29
 ·exact tyok30
 ·exact tyok32
 ·exact tyok33
 ·exact tyok34
 ·exact tyok36
 ·exact tyok40
 ·exact tyok48
 ·exact tyok52
 ·exact tyok74
 ·exact tyok76
 ·exact tyok78
 ·exact tyok79
 ·exact tyok81
 ·exact tyok101
 ·exact tyok104
 ·exact tyok108
 ·exact tyok116
 ·exact tyok125
 ·exact tyok129
 ·exact tyok134
 ·exact tyok137
 ·exact tyok149
 ·exact tyok175
 ·exact tyok187
 ·exact tyok189
 ·exact tyok197
 ·exact tyok212
 ·exact tyok224
 ·exact tyok226
 ·exact tyok252
theorem fC {a:FuncId×Func} {l:List (FuncId×Func)} (h:Tryz.prog.funcs[a.1]?=some a.2) (t:∀ y∈l,Tryz.prog.funcs[y.1]?=some y.2):∀ y∈a::l,Tryz.prog.funcs[y.1]?=some y.2:=by
 intro y hy
 rcases List.mem_cons.1 hy with e | e
 ·rw [e];exact h
 ·exact t y e
theorem funcs_ok:∀ y∈fns,Tryz.prog.funcs[y.1]?=some y.2:=by
 unfold fns
 refine fC Tryz.func5 ?_
 refine fC Tryz.func7 ?_
 refine fC Tryz.func15 ?_
 refine fC Tryz.func17 ?_
 refine fC Tryz.func20 ?_
 refine fC Tryz.func26 ?_
 refine fC Tryz.func27 ?_
 refine fC Tryz.func28 ?_
 refine fC Tryz.func29 ?_
 refine fC Tryz.func30 ?_
 refine fC Tryz.func34 ?_
 refine fC Tryz.func35 ?_
 refine fC Tryz.func36 ?_
 refine fC Tryz.func38 ?_
 refine fC Tryz.func39 ?_
 refine fC Tryz.func42 ?_
 refine fC Tryz.func47 ?_
 refine fC Tryz.func48 ?_
 refine fC Tryz.func49 ?_
 refine fC Tryz.func50 ?_
 refine fC Tryz.func56 ?_
 refine fC Tryz.func60 ?_
 refine fC Tryz.func61 ?_
 refine fC Tryz.func67 ?_
 refine fC Tryz.func69 ?_
 refine fC Tryz.func71 ?_
 refine fC Tryz.func72 ?_
 refine fC Tryz.func73 ?_
 refine fC Tryz.func76 ?_
 refine fC Tryz.func78 ?_
 refine fC Tryz.func89 ?_
 refine fC Tryz.func90 ?_
 refine fC Tryz.func91 ?_
 refine fC Tryz.func92 ?_
 refine fC Tryz.func93 ?_
 refine fC Tryz.func95 ?_
 refine fC Tryz.func96 ?_
 refine fC Tryz.func98 ?_
 refine fC Tryz.func101 ?_
 refine fC Tryz.func102 ?_
 refine fC Tryz.func103 ?_
 refine fC Tryz.func104 ?_
 refine fC Tryz.func105 ?_
 refine fC Tryz.func106 ?_
 refine fC Tryz.func107 ?_
 refine fC Tryz.func108 ?_
 refine fC Tryz.func109 ?_
 refine fC Tryz.func119 ?_
 refine fC Tryz.func120 ?_
 refine fC Tryz.func121 ?_
 refine fC Tryz.func122 ?_
 refine fC Tryz.func126 ?_
 refine fC Tryz.func127 ?_
 refine fC Tryz.func128 ?_
 refine fC Tryz.func130 ?_
 refine fC Tryz.func131 ?_
 refine fC Tryz.func133 ?_
 refine fC Tryz.func134 ?_
 refine fC Tryz.func135 ?_
 refine fC Tryz.func136 ?_
 refine fC Tryz.func137 ?_
 refine fC Tryz.func138 ?_
 refine fC Tryz.func139 ?_
 refine fC Tryz.func140 ?_
 refine fC Tryz.func141 ?_
 refine fC Tryz.func150 ?_
 refine fC Tryz.func151 ?_
 refine fC Tryz.func152 ?_
 refine fC Tryz.func153 ?_
 refine fC Tryz.func155 ?_
 refine fC Tryz.func156 ?_
 refine fC Tryz.func162 ?_
 refine fC Tryz.func163 ?_
 refine fC Tryz.func164 ?_
 refine fC Tryz.func165 ?_
 refine fC Tryz.func166 ?_
 refine fC Tryz.func167 ?_
 refine fC Tryz.func168 ?_
 refine fC Tryz.func169 ?_
 refine fC Tryz.func170 ?_
 refine fC Tryz.func171 ?_
 refine fC Tryz.func172 ?_
 refine fC Tryz.func173 ?_
 refine fC Tryz.func174 ?_
 refine fC Tryz.func175 ?_
 refine fC Tryz.func176 ?_
 refine fC Tryz.func177 ?_
 refine fC Tryz.func178 ?_
 refine fC Tryz.func183 ?_
 refine fC Tryz.func184 ?_
 refine fC Tryz.func185 ?_
 refine fC Tryz.func186 ?_
 refine fC Tryz.func190 ?_
 refine fC Tryz.func191 ?_
 refine fC Tryz.func192 ?_
 refine fC Tryz.func193 ?_
 refine fC Tryz.func194 ?_
 refine fC Tryz.func195 ?_
 refine fC Tryz.func196 ?_
 refine fC Tryz.func197 ?_
 refine fC Tryz.func198 ?_
 refine fC Tryz.func199 ?_
 refine fC Tryz.func200 ?_
 refine fC Tryz.func201 ?_
 refine fC Tryz.func202 ?_
 refine fC Tryz.func203 ?_
 refine fC Tryz.func204 ?_
 refine fC Tryz.func205 ?_
 refine fC Tryz.func206 ?_
 refine fC Tryz.func207 ?_
 refine fC Tryz.func208 ?_
 refine fC Tryz.func209 ?_
 refine fC Tryz.func216 ?_
 refine fC Tryz.func217 ?_
 refine fC Tryz.func218 ?_
 refine fC Tryz.func219 ?_
 refine fC Tryz.func220 ?_
 refine fC Tryz.func221 ?_
 refine fC Tryz.func222 ?_
 refine fC Tryz.func223 ?_
 refine fC Tryz.func224 ?_
 refine fC Tryz.func225 ?_
 refine fC Tryz.func226 ?_
 refine fC Tryz.func227 ?_
 refine fC Tryz.func228 ?_
 refine fC Tryz.func229 ?_
 refine fC Tryz.func230 ?_
 refine fC Tryz.func231 ?_
 refine fC Tryz.func232 ?_
 refine fC Tryz.func233 ?_
 refine fC Tryz.func234 ?_
 refine fC Tryz.func242 ?_
 refine fC Tryz.func243 ?_
 refine fC Tryz.func244 ?_
 refine fC Tryz.func245 ?_
 refine fC Tryz.func246 ?_
 refine fC Tryz.func247 ?_
 refine fC Tryz.func248 ?_
 refine fC Tryz.func249 ?_
 refine fC Tryz.func250 ?_
 refine fC Tryz.func251 ?_
 refine fC Tryz.func252 ?_
 refine fC Tryz.func253 ?_
 refine fC Tryz.func254 ?_
 refine fC Tryz.func255 ?_
 refine fC Tryz.func256 ?_
 refine fC Tryz.func257 ?_
 refine fC Tryz.func258 ?_
 refine fC Tryz.func259 ?_
 refine fC Tryz.func260 ?_
 refine fC Tryz.func261 ?_
 refine fC Tryz.func262 ?_
 refine fC Tryz.func263 ?_
 refine fC Tryz.func264 ?_
 refine fC Tryz.func265 ?_
 refine fC Tryz.func266 ?_
 refine fC Tryz.func267 ?_
 refine fC Tryz.func268 ?_
 refine fC Tryz.func271 ?_
 refine fC Tryz.func276 ?_
 refine fC Tryz.func277 ?_
 refine fC Tryz.func278 ?_
 refine fC Tryz.func279 ?_
 refine fC Tryz.func280 ?_
 refine fC Tryz.func281 ?_
 refine fC Tryz.func282 ?_
 refine fC Tryz.func285 ?_
 refine fC Tryz.func286 ?_
 refine fC Tryz.func287 ?_
 refine fC Tryz.func288 ?_
 refine fC Tryz.func289 ?_
 refine fC Tryz.func290 ?_
 refine fC Tryz.func291 ?_
 refine fC Tryz.func292 ?_
 refine fC Tryz.func293 ?_
 refine fC Tryz.func294 ?_
 refine fC Tryz.func295 ?_
 refine fC Tryz.func296 ?_
 refine fC Tryz.func297 ?_
 refine fC Tryz.func303 ?_
 refine fC Tryz.func304 ?_
 refine fC Tryz.func305 ?_
 refine fC Tryz.func306 ?_
 refine fC Tryz.func307 ?_
 refine fC Tryz.func308 ?_
 refine fC Tryz.func309 ?_
 refine fC Tryz.func310 ?_
 refine fC Tryz.func311 ?_
 refine fC Tryz.func312 ?_
 refine fC Tryz.func313 ?_
 refine fC Tryz.func314 ?_
 refine fC Tryz.func315 ?_
 refine fC Tryz.func316 ?_
 refine fC Tryz.func317 ?_
 refine fC Tryz.func318 ?_
 refine fC Tryz.func319 ?_
 refine fC Tryz.func320 ?_
 refine fC Tryz.func321 ?_
 refine fC Tryz.func322 ?_
 refine fC Tryz.func323 ?_
 refine fC Tryz.func324 ?_
 refine fC Tryz.func329 ?_
 refine fC Tryz.func331 ?_
 refine fC Tryz.func332 ?_
 refine fC Tryz.func333 ?_
 refine fC Tryz.func337 ?_
 refine fC Tryz.func338 ?_
 refine fC Tryz.func339 ?_
 refine fC Tryz.func340 ?_
 refine fC Tryz.func341 ?_
 refine fC Tryz.func342 ?_
 refine fC Tryz.func343 ?_
 refine fC Tryz.func344 ?_
 refine fC Tryz.func345 ?_
 refine fC Tryz.func346 ?_
 refine fC Tryz.func347 ?_
 refine fC Tryz.func348 ?_
 refine fC Tryz.func349 ?_
 refine fC Tryz.func350 ?_
 refine fC Tryz.func351 ?_
 refine fC Tryz.func352 ?_
 refine fC Tryz.func358 ?_
 refine fC Tryz.func359 ?_
 refine fC Tryz.func360 ?_
 refine fC Tryz.func361 ?_
 refine fC Tryz.func365 ?_
 refine fC Tryz.func366 ?_
 refine fC Tryz.func367 ?_
 refine fC Tryz.func368 ?_
 refine fC Tryz.func369 ?_
 refine fC Tryz.func375 ?_
 refine fC Tryz.func376 ?_
 exact fun _ h=>nomatch h
theorem chk:fns.all (fnChk cfg)=true:=by kernel_rfl
theorem cfg_ok:CfgOK Tryz.prog envAny cfg:=⟨tys_ok,eqs_ok,fns_ok funcs_ok chk,fun _ _ h=>(nomatch h)⟩
end Go.Proofs.YtbploohjimpcaaaGreat.A
