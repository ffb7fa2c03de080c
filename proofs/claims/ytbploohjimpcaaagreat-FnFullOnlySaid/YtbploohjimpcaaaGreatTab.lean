/- What the program's functions answer (Tab): no condition. -/
import Derived.Test.YtbploohjimpcaaaGreatProg
import Derived.KernelRfl
import Derived.Laws.StructEq
import Derived.Test.YtbploohjimpcaaaGreatLib3
set_option linter.unusedVariables false
set_option linter.unusedSimpArgs false
namespace Go.Proofs.YtbploohjimpcaaaGreat.A
open Go Go.Abs
def ty3:TInfo:=⟨.int .i64,1,8,[.int .i64 0]⟩
def ty4:TInfo:=⟨.bool,1,1,[.bool false]⟩
def ty5:TInfo:=⟨.int .u8,1,1,[.int .u8 0]⟩
def ty9:TInfo:=⟨.str,1,16,[.str ⟨#[]⟩]⟩
def ty23:TInfo:=⟨.struct [(0,3),(1,3),(2,3),(3,3),(4,3),(5,3)],6,48,[.int .i64 0,.int .i64 0,.int .i64 0,.int .i64 0,.int .i64 0,.int .i64 0]⟩
def ty24:TInfo:=⟨.slice 104,1,24,[.lst 1 []]⟩
def ty25:TInfo:=⟨.slice 3,1,24,[.lst 1 []]⟩
def ty27:TInfo:=⟨.struct [(0,23),(6,24),(7,25)],8,96,[.int .i64 0,.int .i64 0,.int .i64 0,.int .i64 0,.int .i64 0,.int .i64 0,.lst 1 [],.lst 1 []]⟩
def ty29:TInfo:=⟨.struct [(0,3),(1,3),(2,3),(3,3),(4,3),(5,3)],6,48,[.int .i64 0,.int .i64 0,.int .i64 0,.int .i64 0,.int .i64 0,.int .i64 0]⟩
def ty30:TInfo:=⟨.slice 81,1,24,[.lst 19 []]⟩
def ty32:TInfo:=⟨.struct [(0,29),(6,25),(7,25),(8,30),(9,3),(10,3),(11,3),(12,3)],13,152,[.int .i64 0,.int .i64 0,.int .i64 0,.int .i64 0,.int .i64 0,.int .i64 0,.lst 1 [],.lst 1 [],.lst 19 [],.int .i64 0,.int .i64 0,.int .i64 0,.int .i64 0]⟩
def ty33:TInfo:=⟨.slice 108,1,24,[.lst 1 []]⟩
def ty34:TInfo:=⟨.slice 78,1,24,[.lst 8 []]⟩
def ty36:TInfo:=⟨.struct [(0,32),(13,33),(14,25),(15,34),(16,3)],17,232,[.int .i64 0,.int .i64 0,.int .i64 0,.int .i64 0,.int .i64 0,.int .i64 0,.lst 1 [],.lst 1 [],.lst 19 [],.int .i64 0,.int .i64 0,.int .i64 0,.int .i64 0,.lst 1 [],.lst 1 [],.lst 8 [],.int .i64 0]⟩
def ty40:TInfo:=⟨.struct [(0,29),(6,33),(7,25)],8,96,[.int .i64 0,.int .i64 0,.int .i64 0,.int .i64 0,.int .i64 0,.int .i64 0,.lst 1 [],.lst 1 []]⟩
def ty48:TInfo:=⟨.struct [(0,3),(1,3),(2,3),(3,3),(4,3),(5,3)],6,48,[.int .i64 0,.int .i64 0,.int .i64 0,.int .i64 0,.int .i64 0,.int .i64 0]⟩
def ty52:TInfo:=⟨.slice 48,1,24,[.lst 6 []]⟩
def ty59:TInfo:=⟨.struct [(0,3),(1,3),(2,3),(3,3),(4,3),(5,4)],6,48,[.int .i64 0,.int .i64 0,.int .i64 0,.int .i64 0,.int .i64 0,.bool false]⟩
def ty68:TInfo:=⟨.slice 5,1,24,[.lst 1 []]⟩
def ty74:TInfo:=⟨.struct [(0,3),(1,3),(2,3)],3,24,[.int .i64 0,.int .i64 0,.int .i64 0]⟩
def ty76:TInfo:=⟨.struct [(0,3),(1,3)],2,16,[.int .i64 0,.int .i64 0]⟩
def ty78:TInfo:=⟨.struct [(0,3),(1,74),(4,76),(6,3),(7,3)],8,64,[.int .i64 0,.int .i64 0,.int .i64 0,.int .i64 0,.int .i64 0,.int .i64 0,.int .i64 0,.int .i64 0]⟩
def ty79:TInfo:=⟨.slice 189,1,24,[.lst 4 []]⟩
def ty81:TInfo:=⟨.struct [(0,3),(1,74),(4,76),(6,3),(7,3),(8,3),(9,3),(10,3),(11,3),(12,3),(13,3),(14,25),(15,25),(16,79),(17,79),(18,25)],19,232,[.int .i64 0,.int .i64 0,.int .i64 0,.int .i64 0,.int .i64 0,.int .i64 0,.int .i64 0,.int .i64 0,.int .i64 0,.int .i64 0,.int .i64 0,.int .i64 0,.int .i64 0,.int .i64 0,.lst 1 [],.lst 1 [],.lst 4 [],.lst 4 [],.lst 1 []]⟩
def ty101:TInfo:=⟨.ptr 36,1,8,[.nilp]⟩
def ty104:TInfo:=⟨.slice 149,1,24,[.lst 3 []]⟩
def ty107:TInfo:=⟨.ptr 59,1,8,[.nilp]⟩
def ty108:TInfo:=⟨.slice 74,1,24,[.lst 3 []]⟩
def ty111:TInfo:=⟨.func,1,8,[.nilf]⟩
def ty113:TInfo:=⟨.ptr 156,1,8,[.nilp]⟩
def ty116:TInfo:=⟨.func,1,8,[.nilf]⟩
def ty125:TInfo:=⟨.func,1,8,[.nilf]⟩
def ty129:TInfo:=⟨.ptr 32,1,8,[.nilp]⟩
def ty134:TInfo:=⟨.func,1,8,[.nilf]⟩
def ty137:TInfo:=⟨.func,1,8,[.nilf]⟩
def ty149:TInfo:=⟨.struct [(0,3),(1,3),(2,3)],3,24,[.int .i64 0,.int .i64 0,.int .i64 0]⟩
def ty156:TInfo:=⟨.struct [(0,68),(1,3),(2,3)],3,40,[.lst 1 [],.int .i64 0,.int .i64 0]⟩
def ty171:TInfo:=⟨.func,1,8,[.nilf]⟩
def ty175:TInfo:=⟨.slice 4,1,24,[.lst 1 []]⟩
def ty176:TInfo:=⟨.slice 25,1,24,[.lst 1 []]⟩
def ty178:TInfo:=⟨.struct [(0,25),(1,176)],2,48,[.lst 1 [],.lst 1 []]⟩
def ty187:TInfo:=⟨.func,1,8,[.nilf]⟩
def ty189:TInfo:=⟨.struct [(0,3),(1,3),(2,3),(3,3)],4,32,[.int .i64 0,.int .i64 0,.int .i64 0,.int .i64 0]⟩
def ty197:TInfo:=⟨.ptr 81,1,8,[.nilp]⟩
def ty212:TInfo:=⟨.func,1,8,[.nilf]⟩
def ty221:TInfo:=⟨.int .u64,1,8,[.int .u64 0]⟩
def ty224:TInfo:=⟨.func,1,8,[.nilf]⟩
def ty226:TInfo:=⟨.struct [(0,129),(1,197),(2,3)],3,24,[.nilp,.nilp,.int .i64 0]⟩
def ty244:TInfo:=⟨.func,1,8,[.nilf]⟩
def ty245:TInfo:=⟨.int .u32,1,4,[.int .u32 0]⟩
def ty248:TInfo:=⟨.int .u64,1,8,[.int .u64 0]⟩
def ty252:TInfo:=⟨.slice 9,1,24,[.lst 1 []]⟩
def tys:List (TypeId×TInfo):=[
 (3,ty3),
 (4,ty4),
 (5,ty5),
 (9,ty9),
 (23,ty23),
 (24,ty24),
 (25,ty25),
 (27,ty27),
 (29,ty29),
 (30,ty30),
 (32,ty32),
 (33,ty33),
 (34,ty34),
 (36,ty36),
 (40,ty40),
 (48,ty48),
 (52,ty52),
 (59,ty59),
 (68,ty68),
 (74,ty74),
 (76,ty76),
 (78,ty78),
 (79,ty79),
 (81,ty81),
 (101,ty101),
 (104,ty104),
 (107,ty107),
 (108,ty108),
 (111,ty111),
 (113,ty113),
 (116,ty116),
 (125,ty125),
 (129,ty129),
 (134,ty134),
 (137,ty137),
 (149,ty149),
 (156,ty156),
 (171,ty171),
 (175,ty175),
 (176,ty176),
 (178,ty178),
 (187,ty187),
 (189,ty189),
 (197,ty197),
 (212,ty212),
 (221,ty221),
 (224,ty224),
 (226,ty226),
 (244,ty244),
 (245,ty245),
 (248,ty248),
 (252,ty252)]
noncomputable def fns:List (FuncId×Func):=[(3,Tryz.f3),(4,Tryz.f4),(5,Tryz.f5),(6,Tryz.f6),(7,Tryz.f7),(8,Tryz.f8),(9,Tryz.f9),(10,Tryz.f10),(11,Tryz.f11),(12,Tryz.f12),(13,Tryz.f13),(14,Tryz.f14),(15,Tryz.f15),(16,Tryz.f16),(17,Tryz.f17),(18,Tryz.f18),(19,Tryz.f19),(20,Tryz.f20),(21,Tryz.f21),(22,Tryz.f22),(23,Tryz.f23),(24,Tryz.f24),(25,Tryz.f25),(26,Tryz.f26),(27,Tryz.f27),(28,Tryz.f28),(29,Tryz.f29),(30,Tryz.f30),(31,Tryz.f31),(32,Tryz.f32),(33,Tryz.f33),(34,Tryz.f34),(35,Tryz.f35),(36,Tryz.f36),(37,Tryz.f37),(38,Tryz.f38),(39,Tryz.f39),(40,Tryz.f40),(41,Tryz.f41),(42,Tryz.f42),(43,Tryz.f43),(44,Tryz.f44),(45,Tryz.f45),(46,Tryz.f46),(47,Tryz.f47),(48,Tryz.f48),(49,Tryz.f49),(50,Tryz.f50),(51,Tryz.f51),(52,Tryz.f52),(53,Tryz.f53),(54,Tryz.f54),(55,Tryz.f55),(56,Tryz.f56),(57,Tryz.f57),(58,Tryz.f58),(59,Tryz.f59),(60,Tryz.f60),(61,Tryz.f61),(62,Tryz.f62),(63,Tryz.f63),(64,Tryz.f64),(65,Tryz.f65),(66,Tryz.f66),(67,Tryz.f67),(68,Tryz.f68),(69,Tryz.f69),(70,Tryz.f70),(71,Tryz.f71),(72,Tryz.f72),(73,Tryz.f73),(74,Tryz.f74),(75,Tryz.f75),(76,Tryz.f76),(77,Tryz.f77),(78,Tryz.f78),(79,Tryz.f79),(80,Tryz.f80),(81,Tryz.f81),(82,Tryz.f82),(83,Tryz.f83),(84,Tryz.f84),(85,Tryz.f85),(86,Tryz.f86),(87,Tryz.f87),(88,Tryz.f88),(89,Tryz.f89),(90,Tryz.f90),(91,Tryz.f91),(92,Tryz.f92),(93,Tryz.f93),(94,Tryz.f94),(95,Tryz.f95),(96,Tryz.f96),(97,Tryz.f97),(98,Tryz.f98),(99,Tryz.f99),(100,Tryz.f100),(101,Tryz.f101),(102,Tryz.f102),(103,Tryz.f103),(104,Tryz.f104),(105,Tryz.f105),(106,Tryz.f106),(107,Tryz.f107),(108,Tryz.f108),(109,Tryz.f109),(110,Tryz.f110),(111,Tryz.f111),(112,Tryz.f112),(113,Tryz.f113),(114,Tryz.f114),(115,Tryz.f115),(116,Tryz.f116),(117,Tryz.f117),(118,Tryz.f118),(119,Tryz.f119),(120,Tryz.f120),(121,Tryz.f121),(122,Tryz.f122),(123,Tryz.f123),(124,Tryz.f124),(125,Tryz.f125),(126,Tryz.f126),(127,Tryz.f127),(128,Tryz.f128),(129,Tryz.f129),(130,Tryz.f130),(131,Tryz.f131),(132,Tryz.f132),(133,Tryz.f133),(134,Tryz.f134),(135,Tryz.f135),(136,Tryz.f136),(137,Tryz.f137),(138,Tryz.f138),(139,Tryz.f139),(140,Tryz.f140),(141,Tryz.f141),(142,Tryz.f142),(143,Tryz.f143),(144,Tryz.f144),(145,Tryz.f145),(146,Tryz.f146),(147,Tryz.f147),(148,Tryz.f148),(149,Tryz.f149),(150,Tryz.f150),(151,Tryz.f151),(152,Tryz.f152),(153,Tryz.f153),(154,Tryz.f154),(155,Tryz.f155),(156,Tryz.f156),(157,Tryz.f157),(158,Tryz.f158),(159,Tryz.f159),(160,Tryz.f160),(161,Tryz.f161),(162,Tryz.f162),(163,Tryz.f163),(164,Tryz.f164),(165,Tryz.f165),(166,Tryz.f166),(167,Tryz.f167),(168,Tryz.f168),(169,Tryz.f169),(170,Tryz.f170),(171,Tryz.f171),(172,Tryz.f172),(173,Tryz.f173),(174,Tryz.f174),(175,Tryz.f175),(176,Tryz.f176),(177,Tryz.f177),(178,Tryz.f178),(179,Tryz.f179),(180,Tryz.f180),(181,Tryz.f181),(182,Tryz.f182),(183,Tryz.f183),(184,Tryz.f184),(185,Tryz.f185),(186,Tryz.f186),(187,Tryz.f187),(188,Tryz.f188),(189,Tryz.f189),(190,Tryz.f190),(191,Tryz.f191),(192,Tryz.f192),(193,Tryz.f193),(194,Tryz.f194),(195,Tryz.f195),(196,Tryz.f196),(197,Tryz.f197),(198,Tryz.f198),(199,Tryz.f199),(200,Tryz.f200),(201,Tryz.f201),(202,Tryz.f202),(203,Tryz.f203),(204,Tryz.f204),(205,Tryz.f205),(206,Tryz.f206),(207,Tryz.f207),(208,Tryz.f208),(209,Tryz.f209),(210,Tryz.f210),(211,Tryz.f211),(212,Tryz.f212),(213,Tryz.f213),(214,Tryz.f214),(215,Tryz.f215),(216,Tryz.f216),(217,Tryz.f217),(218,Tryz.f218),(219,Tryz.f219),(220,Tryz.f220),(221,Tryz.f221),(222,Tryz.f222),(223,Tryz.f223),(224,Tryz.f224),(225,Tryz.f225),(226,Tryz.f226),(227,Tryz.f227),(228,Tryz.f228),(229,Tryz.f229),(230,Tryz.f230),(231,Tryz.f231),(232,Tryz.f232),(233,Tryz.f233),(234,Tryz.f234),(235,Tryz.f235),(236,Tryz.f236),(237,Tryz.f237),(238,Tryz.f238),(239,Tryz.f239),(240,Tryz.f240),(241,Tryz.f241),(242,Tryz.f242),(243,Tryz.f243),(244,Tryz.f244),(245,Tryz.f245),(246,Tryz.f246),(247,Tryz.f247),(248,Tryz.f248),(249,Tryz.f249),(250,Tryz.f250),(251,Tryz.f251),(252,Tryz.f252),(253,Tryz.f253),(254,Tryz.f254),(255,Tryz.f255),(256,Tryz.f256),(257,Tryz.f257),(258,Tryz.f258),(259,Tryz.f259),(260,Tryz.f260),(261,Tryz.f261),(262,Tryz.f262),(263,Tryz.f263),(264,Tryz.f264),(265,Tryz.f265),(266,Tryz.f266),(267,Tryz.f267),(268,Tryz.f268),(269,Tryz.f269),(270,Tryz.f270),(271,Tryz.f271),(272,Tryz.f272),(273,Tryz.f273),(274,Tryz.f274),(275,Tryz.f275),(276,Tryz.f276),(277,Tryz.f277),(278,Tryz.f278),(279,Tryz.f279),(280,Tryz.f280),(281,Tryz.f281),(282,Tryz.f282),(283,Tryz.f283),(284,Tryz.f284),(285,Tryz.f285),(286,Tryz.f286),(287,Tryz.f287),(288,Tryz.f288),(289,Tryz.f289),(290,Tryz.f290),(291,Tryz.f291),(292,Tryz.f292),(293,Tryz.f293),(294,Tryz.f294),(295,Tryz.f295),(296,Tryz.f296),(297,Tryz.f297),(298,Tryz.f298),(299,Tryz.f299),(300,Tryz.f300),(301,Tryz.f301),(302,Tryz.f302),(303,Tryz.f303),(304,Tryz.f304),(305,Tryz.f305),(306,Tryz.f306),(307,Tryz.f307),(308,Tryz.f308),(309,Tryz.f309),(310,Tryz.f310),(311,Tryz.f311),(312,Tryz.f312),(313,Tryz.f313),(314,Tryz.f314),(315,Tryz.f315),(316,Tryz.f316),(317,Tryz.f317),(318,Tryz.f318),(319,Tryz.f319),(320,Tryz.f320),(321,Tryz.f321),(322,Tryz.f322),(323,Tryz.f323),(324,Tryz.f324),(325,Tryz.f325),(326,Tryz.f326),(327,Tryz.f327),(328,Tryz.f328),(329,Tryz.f329),(330,Tryz.f330),(331,Tryz.f331),(332,Tryz.f332),(333,Tryz.f333),(334,Tryz.f334),(335,Tryz.f335),(336,Tryz.f336),(337,Tryz.f337),(338,Tryz.f338),(339,Tryz.f339),(340,Tryz.f340),(341,Tryz.f341),(342,Tryz.f342),(343,Tryz.f343),(344,Tryz.f344),(345,Tryz.f345),(346,Tryz.f346),(347,Tryz.f347),(348,Tryz.f348),(349,Tryz.f349),(350,Tryz.f350),(351,Tryz.f351),(352,Tryz.f352),(353,Tryz.f353),(354,Tryz.f354),(355,Tryz.f355),(356,Tryz.f356),(357,Tryz.f357),(358,Tryz.f358),(359,Tryz.f359),(360,Tryz.f360),(361,Tryz.f361),(362,Tryz.f362),(363,Tryz.f363),(364,Tryz.f364),(365,Tryz.f365),(366,Tryz.f366),(367,Tryz.f367),(368,Tryz.f368),(369,Tryz.f369),(370,Tryz.f370),(371,Tryz.f371),(372,Tryz.f372),(373,Tryz.f373),(374,Tryz.f374),(375,Tryz.f375),(376,Tryz.f376),(377,Tryz.f377)]
def inls:List FuncId:=[21,22,32,79,80,81,82,99,100,144,145,151,157,167,187,206,212,217,219,221,223,224,225,227,228,229,231,238,239,258,285,286,287,288,290,293,294,296,301,305,306,307,308,309,310,311,312,314,316,317,319,337,339,340,342,343,344,345,348]
def X56:List (Nat×Nat):=[(3,10),(4,10),(5,10),(6,10),(7,10),(12,11),(12,16),(14,9),(27,11),(49,3),(49,9),(73,3),(89,10),(89,13),(90,1),(90,6),(91,1),(97,3),(99,6),(99,8),(103,3),(106,1),(107,6),(110,1),(110,5),(123,3),(137,2),(140,3),(154,2),(157,2),(157,7),(164,2),(164,6),(167,4),(168,6),(187,10),(188,3),(219,11),(219,22),(221,13),(223,14),(224,13),(224,25),(224,28),(225,6),(225,10),(225,12),(227,9),(240,4),(243,1),(243,2),(274,7),(275,9),(288,7),(300,3),(305,4),(305,10),(306,4),(306,10),(306,12),(306,15),(306,21),(307,4),(307,7),(307,10),(307,13),(309,4),(309,14),(309,17),(310,10),(310,12),(310,15),(310,18),(310,21),(310,24),(311,4),(311,7),(311,10),(311,12),(312,18),(312,21),(319,2),(326,5),(327,13),(327,21),(335,7),(335,11),(342,3),(364,7),(372,5),(374,13)]
def padL:List (Nat×Nat):=[(157,2),(311,10)]
def X57:List (FuncId×List (Nat×List Nat)):=[
 (11,[(14,[3,4,8,9,10,11]),(23,[3,4,8,9,10,12])]),
 (12,[(8,[3,4,6])]),
 (14,[(12,[3,6,7,8]),(18,[3,6,7,9,10])]),
 (26,[(6,[1,2,4,6,7]),(14,[2,4,6,8])]),
 (27,[(6,[2,4,6,28,29,30]),(13,[2,6,61,62,63])]),
 (29,[(3,[1,3,4])]),
 (30,[(5,[1,3,4])]),
 (31,[(4,[0,1,5])]),
 (32,[(2,[0,1,5])]),
 (33,[(2,[0,1,5])]),
 (34,[(4,[3,4,5])]),
 (35,[(3,[3,8,9,10])]),
 (36,[(5,[0,1,5])]),
 (39,[(3,[0,3,4])]),
 (42,[(4,[0,1,5])]),
 (47,[(4,[1,3]),(9,[1,4])]),
 (49,[(5,[1,4,6,7])]),
 (52,[(4,[0,1,5])]),
 (55,[(4,[1,14,15])]),
 (56,[(4,[1,40,41,42])]),
 (58,[(5,[1,3,16,17]),(9,[1,3,4,5,16,17,22,23,24]),(14,[1,3,5,16,17,36,37,38])]),
 (59,[(4,[1,3,4,5]),(9,[1,3,4,5,6,7,8]),(13,[1,3,4,5,6,7,8,9,10]),(17,[1,3,4,5,6,7,8,9,10,11,12])]),
 (61,[(3,[1,3,4])]),
 (62,[(5,[3,16,17,18])]),
 (63,[(5,[1,3,4])]),
 (64,[(5,[3,10,11,12])]),
 (65,[(3,[1,3,4])]),
 (67,[(5,[1,5,11,12,13])]),
 (70,[(3,[1,4,5,6])]),
 (71,[(3,[0,3,4])]),
 (74,[(3,[4,5,14,15,16])]),
 (76,[(4,[0,1,5])]),
 (77,[(4,[0,1,5])]),
 (79,[(2,[0,1,5])]),
 (80,[(2,[0,1,5])]),
 (82,[(2,[0,1,5])]),
 (84,[(2,[0,1,5])]),
 (85,[(2,[0,1,5])]),
 (86,[(2,[0,1,5])]),
 (87,[(3,[1,4,5,6])]),
 (88,[(3,[1,4,5,6])]),
 (90,[(4,[2,4,5,6])]),
 (94,[(4,[1,2,3,4,5,10])]),
 (95,[(3,[0,3,4])]),
 (97,[(9,[0,2,3,4,6,64,65])]),
 (98,[(4,[0,1,5])]),
 (100,[(3,[0,3,4])]),
 (102,[(2,[0,3])]),
 (103,[(5,[1,2,3,4])]),
 (108,[(7,[1,3,80,81]),(13,[1,3,96,97])]),
 (110,[(3,[1,2,3,4])]),
 (111,[(4,[1,3]),(9,[1,4])]),
 (114,[(4,[1,2,15,16,17])]),
 (115,[(4,[0,1,12,13])]),
 (116,[(4,[0,1,12,13])]),
 (117,[(4,[0,1,12,13])]),
 (118,[(5,[5,6])]),
 (124,[(5,[3,11,12,13])]),
 (125,[(2,[0,2,12,13,14])]),
 (126,[(6,[0,5,7])]),
 (129,[(3,[1,3,4])]),
 (130,[(4,[1,3]),(9,[1,4]),(14,[1,5]),(20,[1,7])]),
 (131,[(4,[2,5,6,7])]),
 (132,[(4,[2,5,6,7])]),
 (137,[(5,[0,3,4,5,6,7,38,39]),(8,[0,3,4,5,6,7,38,39,44,45,46]),(14,[0,3,4,5,6,7,59,60,61]),(17,[0,3,4,5,6,7,12,59,60,61,66,67,68]),(22,[0,3,4,5,6,7,12,59,60,61,77,78,79]),(29,[0,3,4,5,6,7,59,60,61,101,102,103]),(37,[0,4,5,6,7,120,121])]),
 (141,[(3,[3,7,8,9])]),
 (142,[(4,[0,1,5])]),
 (144,[(2,[0,1,5])]),
 (145,[(2,[0,1,5])]),
 (146,[(2,[0,1,5])]),
 (147,[(2,[0,1,5])]),
 (148,[(2,[1,3])]),
 (149,[(4,[1,15,16,17])]),
 (151,[(1,[0,1,4])]),
 (157,[(5,[2,4,5,6])]),
 (164,[(4,[2,3,17,18,19])]),
 (167,[(1,[0,1,4])]),
 (178,[(6,[1,2,3,4])]),
 (180,[(4,[1,2,15,16,17])]),
 (182,[(3,[2,5,11,12,13])]),
 (185,[(2,[0,5,6,7])]),
 (186,[(2,[0,1,7,8])]),
 (187,[(4,[1,2,4,5,8,22,23,24])]),
 (191,[(2,[0,1,7,8])]),
 (194,[(2,[2,3,5]),(7,[2,3,6])]),
 (204,[(4,[1,2,6,7,8]),(8,[1,2,6,7,8,9,10]),(14,[1,2,6,7,8,9,11]),(25,[1,2,6,7,12]),(29,[1,2,6,7,12,13,14])]),
 (207,[(2,[0,1,7,8])]),
 (212,[(2,[0,1,5])]),
 (213,[(2,[0,1,5])]),
 (214,[(2,[1,3])]),
 (228,[(9,[0,1,4,7,8])]),
 (235,[(2,[1,3])]),
 (238,[(3,[0,2,4,7,8])]),
 (239,[(3,[0,5,6]),(7,[0,5,6,7,8])]),
 (263,[(2,[0,1,7,8])]),
 (269,[(4,[0,1,12,13])]),
 (271,[(2,[0,1,7,8])]),
 (272,[(2,[1,7,8,9])]),
 (273,[(4,[0,1,2,28,29,30])]),
 (275,[(8,[7,8])]),
 (279,[(2,[1,2,5])]),
 (281,[(2,[1,2,5]),(6,[1,2,5,6,7])]),
 (283,[(4,[0,1,5])]),
 (292,[(6,[3,5])]),
 (297,[(4,[0,1,6,7,8])]),
 (298,[(3,[1,2,5,6])]),
 (301,[(3,[0,1,7,8])]),
 (314,[(10,[1,2,76,77,78])]),
 (326,[(3,[2,3,11,12,13])]),
 (329,[(3,[0,3,4])]),
 (331,[(4,[0,1,2,3,10,11,12])]),
 (333,[(2,[0,1,5])]),
 (334,[(3,[1,2,5,6])]),
 (335,[(4,[1,2,4,5,8,12])]),
 (336,[(3,[1,2,3,4]),(7,[1,2,3,5])]),
 (347,[(3,[0,1,3,10,11,17,18,19])]),
 (351,[(3,[1,6,7,12,13,14])]),
 (352,[(2,[0,1,7,8])]),
 (360,[(2,[1,2,5])]),
 (361,[(2,[1,2,5])]),
 (362,[(2,[0,1,5])]),
 (363,[(4,[0,1,2,7])]),
 (371,[(2,[0,1,7,8])]),
 (372,[(3,[1,2,3,4])]),
 (373,[(4,[2,3,5])]),
 (377,[(2,[1,2,5])])]
def iom:List (Nat×Nat):=[(89,2),(94,6),(97,2),(150,2),(154,3),(158,2),(159,2),(160,2),(161,2),(237,2),(240,2),(241,2),(302,2)]
def ios:List (Nat×Nat):=[(89,36),(94,59),(97,59),(150,32),(154,59),(158,156),(159,156),(160,156),(161,156),(237,156),(240,156),(241,156),(302,156)]
def eqsL:List (TypeId×Nat):=[(29,6),(74,3),(76,2),(78,8),(189,4)]
noncomputable def cfg:Cfg:=⟨tys,fns,fun f=>if memN inls f then 1 else atN iom f 0,fun _=>true,fun f r=>atN (atN X57 f []) r [],18446744073709551616,eqsL,fun _=>none,fun f i=>!memP X56 f i,fun f=>atN ios f 0,fun f i=>memP padL f i,[36]⟩
theorem Xsk {P:Program} {w:World} {t:TypeId} {cs:Array Value} {off:Nat} {v:Value} {k:IntKind} (h:P.underlying t=some (.int k)) (hv:cs[off]?=some v):(part t cs off).run P w=.ok v w:=by
 simp [part,isAgg,run_underlying h,hv]
theorem X3m {P:Program} {w:World} {t:TypeId} {cs:Array Value} {off n:Nat} {fs:Array Field} (h:P.underlying t=some (.struct fs)) (hn:(sizeOf t).run P w=.ok n w):(part t cs off).run P w=.ok (.agg (cs.extract off (off+n))) w:=by
 simp [part,isAgg,run_underlying h,hn]
theorem X3y:EqOK Tryz.prog 29 6:=by
 refine ⟨by kernel_rfl,?_⟩
 intro xs ys w h1 h2
 obtain ⟨a0,a1,a2,a3,a4,a5,rfl⟩:∃ a0 a1 a2 a3 a4 a5,xs=[a0,a1,a2,a3,a4,a5]:=by
  match xs,h1 with
  | [a0,a1,a2,a3,a4,a5],_=>exact ⟨a0,a1,a2,a3,a4,a5,rfl⟩
 obtain ⟨b0,b1,b2,b3,b4,b5,rfl⟩:∃ b0 b1 b2 b3 b4 b5,ys=[b0,b1,b2,b3,b4,b5]:=by
  match ys,h2 with
  | [b0,b1,b2,b3,b4,b5],_=>exact ⟨b0,b1,b2,b3,b4,b5,rfl⟩
 have hi3:=Tryz.underlying3
 have q29:Tryz.prog.underlying 29=some (.struct (Tryz.prog.fieldsOf 29)):=by simp only [Program.fieldsOf,Tryz.underlying29]
 have hp29:Tryz.prog.stoodInHeld 29=false:=by kernel_rfl
 show (Op.equalIn (9999+1) 29 _ _).run _ _=_
 rw [run_equalIn_agg w 9999 29 _ _ q29 hp29]
 simp only [Program.fieldsOf,Tryz.underlying29]
 simp [Op.eqFields,run_equalIn_int,Xsk hi3,hi3]
 repeat' split
 all_goals simp_all
theorem X3z:EqOK Tryz.prog 74 3:=by
 refine ⟨by kernel_rfl,?_⟩
 intro xs ys w h1 h2
 obtain ⟨a0,a1,a2,rfl⟩:∃ a0 a1 a2,xs=[a0,a1,a2]:=by
  match xs,h1 with
  | [a0,a1,a2],_=>exact ⟨a0,a1,a2,rfl⟩
 obtain ⟨b0,b1,b2,rfl⟩:∃ b0 b1 b2,ys=[b0,b1,b2]:=by
  match ys,h2 with
  | [b0,b1,b2],_=>exact ⟨b0,b1,b2,rfl⟩
 have hi3:=Tryz.underlying3
 have q74:Tryz.prog.underlying 74=some (.struct (Tryz.prog.fieldsOf 74)):=by simp only [Program.fieldsOf,Tryz.underlying74]
 have hp74:Tryz.prog.stoodInHeld 74=false:=by kernel_rfl
 show (Op.equalIn (9999+1) 74 _ _).run _ _=_
 rw [run_equalIn_agg w 9999 74 _ _ q74 hp74]
 simp only [Program.fieldsOf,Tryz.underlying74]
 simp [Op.eqFields,run_equalIn_int,Xsk hi3,hi3]
 repeat' split
 all_goals simp_all
theorem X30:EqOK Tryz.prog 76 2:=by
 refine ⟨by kernel_rfl,?_⟩
 intro xs ys w h1 h2
 obtain ⟨a0,a1,rfl⟩:∃ a0 a1,xs=[a0,a1]:=by
  match xs,h1 with
  | [a0,a1],_=>exact ⟨a0,a1,rfl⟩
 obtain ⟨b0,b1,rfl⟩:∃ b0 b1,ys=[b0,b1]:=by
  match ys,h2 with
  | [b0,b1],_=>exact ⟨b0,b1,rfl⟩
 have hi3:=Tryz.underlying3
 have q76:Tryz.prog.underlying 76=some (.struct (Tryz.prog.fieldsOf 76)):=by simp only [Program.fieldsOf,Tryz.underlying76]
 have hp76:Tryz.prog.stoodInHeld 76=false:=by kernel_rfl
 show (Op.equalIn (9999+1) 76 _ _).run _ _=_
 rw [run_equalIn_agg w 9999 76 _ _ q76 hp76]
 simp only [Program.fieldsOf,Tryz.underlying76]
 simp [Op.eqFields,run_equalIn_int,Xsk hi3,hi3]
 repeat' split
 all_goals simp_all
theorem X31:EqOK Tryz.prog 78 8:=by
 refine ⟨by kernel_rfl,?_⟩
 intro xs ys w h1 h2
 obtain ⟨a0,a1,a2,a3,a4,a5,a6,a7,rfl⟩:∃ a0 a1 a2 a3 a4 a5 a6 a7,xs=[a0,a1,a2,a3,a4,a5,a6,a7]:=by
  match xs,h1 with
  | [a0,a1,a2,a3,a4,a5,a6,a7],_=>exact ⟨a0,a1,a2,a3,a4,a5,a6,a7,rfl⟩
 obtain ⟨b0,b1,b2,b3,b4,b5,b6,b7,rfl⟩:∃ b0 b1 b2 b3 b4 b5 b6 b7,ys=[b0,b1,b2,b3,b4,b5,b6,b7]:=by
  match ys,h2 with
  | [b0,b1,b2,b3,b4,b5,b6,b7],_=>exact ⟨b0,b1,b2,b3,b4,b5,b6,b7,rfl⟩
 have hi3:=Tryz.underlying3
 have q78:Tryz.prog.underlying 78=some (.struct (Tryz.prog.fieldsOf 78)):=by simp only [Program.fieldsOf,Tryz.underlying78]
 have hp78:Tryz.prog.stoodInHeld 78=false:=by kernel_rfl
 have q74:Tryz.prog.underlying 74=some (.struct (Tryz.prog.fieldsOf 74)):=by simp only [Program.fieldsOf,Tryz.underlying74]
 have hp74:Tryz.prog.stoodInHeld 74=false:=by kernel_rfl
 have q76:Tryz.prog.underlying 76=some (.struct (Tryz.prog.fieldsOf 76)):=by simp only [Program.fieldsOf,Tryz.underlying76]
 have hp76:Tryz.prog.stoodInHeld 76=false:=by kernel_rfl
 have s74:∀ w,(sizeOf 74).run Tryz.prog w=.ok 3 w:=fun w=>by kernel_rfl
 have s76:∀ w,(sizeOf 76).run Tryz.prog w=.ok 2 w:=fun w=>by kernel_rfl
 show (Op.equalIn (9999+1) 78 _ _).run _ _=_
 rw [run_equalIn_agg w 9999 78 _ _ q78 hp78]
 simp only [Program.fieldsOf,Tryz.underlying78]
 simp [Op.eqFields,run_equalIn_int,Xsk hi3,hi3,X3m Tryz.underlying74 (s74 _),X3m Tryz.underlying76 (s76 _),run_equalIn_agg _ _ 74 _ _ q74 hp74,run_equalIn_agg _ _ 76 _ _ q76 hp76,Program.fieldsOf,Tryz.underlying74,Tryz.underlying76]
 repeat' split
 all_goals simp_all
theorem X1n:EqOK Tryz.prog 189 4:=by
 refine ⟨by kernel_rfl,?_⟩
 intro xs ys w h1 h2
 obtain ⟨a0,a1,a2,a3,rfl⟩:∃ a0 a1 a2 a3,xs=[a0,a1,a2,a3]:=by
  match xs,h1 with
  | [a0,a1,a2,a3],_=>exact ⟨a0,a1,a2,a3,rfl⟩
 obtain ⟨b0,b1,b2,b3,rfl⟩:∃ b0 b1 b2 b3,ys=[b0,b1,b2,b3]:=by
  match ys,h2 with
  | [b0,b1,b2,b3],_=>exact ⟨b0,b1,b2,b3,rfl⟩
 have hi3:=Tryz.underlying3
 have q189:Tryz.prog.underlying 189=some (.struct (Tryz.prog.fieldsOf 189)):=by simp only [Program.fieldsOf,Tryz.underlying189]
 have hp189:Tryz.prog.stoodInHeld 189=false:=by kernel_rfl
 show (Op.equalIn (9999+1) 189 _ _).run _ _=_
 rw [run_equalIn_agg w 9999 189 _ _ q189 hp189]
 simp only [Program.fieldsOf,Tryz.underlying189]
 simp [Op.eqFields,run_equalIn_int,Xsk hi3,hi3]
 repeat' split
 all_goals simp_all
theorem X32:∀ y∈eqsL,EqOK Tryz.prog y.1 y.2:=by
 intro y hy
 simp only [eqsL,List.mem_cons,List.not_mem_nil,or_false] at hy
 rcases hy with rfl | rfl | rfl | rfl | rfl
 ·exact X3y
 ·exact X3z
 ·exact X30
 ·exact X31
 ·exact X1n
theorem X58:TyOK Tryz.prog 3 ty3:=TyOK.of (cells:=[.int .i64 0]) Tryz.underlying3 rfl (by kernel_rfl) rfl rfl rfl (by kernel_rfl) (by decide)
theorem X59:TyOK Tryz.prog 4 ty4:=TyOK.of (cells:=[.bool false]) Tryz.underlying4 rfl (by kernel_rfl) rfl rfl rfl (by kernel_rfl) (by decide)
theorem X6a:TyOK Tryz.prog 5 ty5:=TyOK.of (cells:=[.int .u8 0]) Tryz.underlying5 rfl (by kernel_rfl) rfl rfl rfl (by kernel_rfl) (by decide)
theorem X6b:TyOK Tryz.prog 9 ty9:=TyOK.of (cells:=[.string ⟨#[]⟩]) Tryz.underlying9 rfl (by kernel_rfl) rfl rfl rfl (by kernel_rfl) (by decide)
theorem X33:TyOK Tryz.prog 23 ty23:=TyOK.of (cells:=[.int .i64 0,.int .i64 0,.int .i64 0,.int .i64 0,.int .i64 0,.int .i64 0]) Tryz.underlying23 ⟨_,rfl,rfl⟩ (by kernel_rfl) rfl rfl rfl (by kernel_rfl) (by decide)
theorem X34:TyOK Tryz.prog 24 ty24:=TyOK.of (cells:=[.slice none 0 0]) Tryz.underlying24 rfl (by kernel_rfl) rfl rfl rfl (by kernel_rfl) (by decide)
theorem X35:TyOK Tryz.prog 25 ty25:=TyOK.of (cells:=[.slice none 0 0]) Tryz.underlying25 rfl (by kernel_rfl) rfl rfl rfl (by kernel_rfl) (by decide)
theorem X36:TyOK Tryz.prog 27 ty27:=TyOK.of (cells:=[.int .i64 0,.int .i64 0,.int .i64 0,.int .i64 0,.int .i64 0,.int .i64 0,.slice none 0 0,.slice none 0 0]) Tryz.underlying27 ⟨_,rfl,rfl⟩ (by kernel_rfl) rfl rfl rfl (by kernel_rfl) (by decide)
theorem X37:TyOK Tryz.prog 29 ty29:=TyOK.of (cells:=[.int .i64 0,.int .i64 0,.int .i64 0,.int .i64 0,.int .i64 0,.int .i64 0]) Tryz.underlying29 ⟨_,rfl,rfl⟩ (by kernel_rfl) rfl rfl rfl (by kernel_rfl) (by decide)
theorem X38:TyOK Tryz.prog 30 ty30:=TyOK.of (cells:=[.slice none 0 0]) Tryz.underlying30 rfl (by kernel_rfl) rfl rfl rfl (by kernel_rfl) (by decide)
theorem X39:TyOK Tryz.prog 32 ty32:=TyOK.of (cells:=[.int .i64 0,.int .i64 0,.int .i64 0,.int .i64 0,.int .i64 0,.int .i64 0,.slice none 0 0,.slice none 0 0,.slice none 0 0,.int .i64 0,.int .i64 0,.int .i64 0,.int .i64 0]) Tryz.underlying32 ⟨_,rfl,rfl⟩ (by kernel_rfl) rfl rfl rfl (by kernel_rfl) (by decide)
theorem X4a:TyOK Tryz.prog 33 ty33:=TyOK.of (cells:=[.slice none 0 0]) Tryz.underlying33 rfl (by kernel_rfl) rfl rfl rfl (by kernel_rfl) (by decide)
theorem X4b:TyOK Tryz.prog 34 ty34:=TyOK.of (cells:=[.slice none 0 0]) Tryz.underlying34 rfl (by kernel_rfl) rfl rfl rfl (by kernel_rfl) (by decide)
theorem X4c:TyOK Tryz.prog 36 ty36:=TyOK.of (cells:=[.int .i64 0,.int .i64 0,.int .i64 0,.int .i64 0,.int .i64 0,.int .i64 0,.slice none 0 0,.slice none 0 0,.slice none 0 0,.int .i64 0,.int .i64 0,.int .i64 0,.int .i64 0,.slice none 0 0,.slice none 0 0,.slice none 0 0,.int .i64 0]) Tryz.underlying36 ⟨_,rfl,rfl⟩ (by kernel_rfl) rfl rfl rfl (by kernel_rfl) (by decide)
theorem X4d:TyOK Tryz.prog 40 ty40:=TyOK.of (cells:=[.int .i64 0,.int .i64 0,.int .i64 0,.int .i64 0,.int .i64 0,.int .i64 0,.slice none 0 0,.slice none 0 0]) Tryz.underlying40 ⟨_,rfl,rfl⟩ (by kernel_rfl) rfl rfl rfl (by kernel_rfl) (by decide)
theorem X4e:TyOK Tryz.prog 48 ty48:=TyOK.of (cells:=[.int .i64 0,.int .i64 0,.int .i64 0,.int .i64 0,.int .i64 0,.int .i64 0]) Tryz.underlying48 ⟨_,rfl,rfl⟩ (by kernel_rfl) rfl rfl rfl (by kernel_rfl) (by decide)
theorem X4f:TyOK Tryz.prog 52 ty52:=TyOK.of (cells:=[.slice none 0 0]) Tryz.underlying52 rfl (by kernel_rfl) rfl rfl rfl (by kernel_rfl) (by decide)
theorem X4g:TyOK Tryz.prog 59 ty59:=TyOK.of (cells:=[.int .i64 0,.int .i64 0,.int .i64 0,.int .i64 0,.int .i64 0,.bool false]) Tryz.underlying59 ⟨_,rfl,rfl⟩ (by kernel_rfl) rfl rfl rfl (by kernel_rfl) (by decide)
theorem X4h:TyOK Tryz.prog 68 ty68:=TyOK.of (cells:=[.slice none 0 0]) Tryz.underlying68 rfl (by kernel_rfl) rfl rfl rfl (by kernel_rfl) (by decide)
theorem X4i:TyOK Tryz.prog 74 ty74:=TyOK.of (cells:=[.int .i64 0,.int .i64 0,.int .i64 0]) Tryz.underlying74 ⟨_,rfl,rfl⟩ (by kernel_rfl) rfl rfl rfl (by kernel_rfl) (by decide)
theorem X4j:TyOK Tryz.prog 76 ty76:=TyOK.of (cells:=[.int .i64 0,.int .i64 0]) Tryz.underlying76 ⟨_,rfl,rfl⟩ (by kernel_rfl) rfl rfl rfl (by kernel_rfl) (by decide)
theorem X4k:TyOK Tryz.prog 78 ty78:=TyOK.of (cells:=[.int .i64 0,.int .i64 0,.int .i64 0,.int .i64 0,.int .i64 0,.int .i64 0,.int .i64 0,.int .i64 0]) Tryz.underlying78 ⟨_,rfl,rfl⟩ (by kernel_rfl) rfl rfl rfl (by kernel_rfl) (by decide)
theorem X4l:TyOK Tryz.prog 79 ty79:=TyOK.of (cells:=[.slice none 0 0]) Tryz.underlying79 rfl (by kernel_rfl) rfl rfl rfl (by kernel_rfl) (by decide)
theorem X4m:TyOK Tryz.prog 81 ty81:=TyOK.of (cells:=[.int .i64 0,.int .i64 0,.int .i64 0,.int .i64 0,.int .i64 0,.int .i64 0,.int .i64 0,.int .i64 0,.int .i64 0,.int .i64 0,.int .i64 0,.int .i64 0,.int .i64 0,.int .i64 0,.slice none 0 0,.slice none 0 0,.slice none 0 0,.slice none 0 0,.slice none 0 0]) Tryz.underlying81 ⟨_,rfl,rfl⟩ (by kernel_rfl) rfl rfl rfl (by kernel_rfl) (by decide)
theorem X1o:TyOK Tryz.prog 101 ty101:=TyOK.of (cells:=[.pointer none]) Tryz.underlying101 rfl (by kernel_rfl) rfl rfl rfl (by kernel_rfl) (by decide)
theorem X1p:TyOK Tryz.prog 104 ty104:=TyOK.of (cells:=[.slice none 0 0]) Tryz.underlying104 rfl (by kernel_rfl) rfl rfl rfl (by kernel_rfl) (by decide)
theorem X1q:TyOK Tryz.prog 107 ty107:=TyOK.of (cells:=[.pointer none]) Tryz.underlying107 rfl (by kernel_rfl) rfl rfl rfl (by kernel_rfl) (by decide)
theorem X1r:TyOK Tryz.prog 108 ty108:=TyOK.of (cells:=[.slice none 0 0]) Tryz.underlying108 rfl (by kernel_rfl) rfl rfl rfl (by kernel_rfl) (by decide)
theorem X1s:TyOK Tryz.prog 111 ty111:=TyOK.of (cells:=[.nilFunc]) Tryz.underlying111 ⟨_,_,_,rfl⟩ (by kernel_rfl) rfl rfl rfl (by kernel_rfl) (by decide)
theorem X1t:TyOK Tryz.prog 113 ty113:=TyOK.of (cells:=[.pointer none]) Tryz.underlying113 rfl (by kernel_rfl) rfl rfl rfl (by kernel_rfl) (by decide)
theorem X1u:TyOK Tryz.prog 116 ty116:=TyOK.of (cells:=[.nilFunc]) Tryz.underlying116 ⟨_,_,_,rfl⟩ (by kernel_rfl) rfl rfl rfl (by kernel_rfl) (by decide)
theorem X1v:TyOK Tryz.prog 125 ty125:=TyOK.of (cells:=[.nilFunc]) Tryz.underlying125 ⟨_,_,_,rfl⟩ (by kernel_rfl) rfl rfl rfl (by kernel_rfl) (by decide)
theorem X1w:TyOK Tryz.prog 129 ty129:=TyOK.of (cells:=[.pointer none]) Tryz.underlying129 rfl (by kernel_rfl) rfl rfl rfl (by kernel_rfl) (by decide)
theorem X1x:TyOK Tryz.prog 134 ty134:=TyOK.of (cells:=[.nilFunc]) Tryz.underlying134 ⟨_,_,_,rfl⟩ (by kernel_rfl) rfl rfl rfl (by kernel_rfl) (by decide)
theorem X1y:TyOK Tryz.prog 137 ty137:=TyOK.of (cells:=[.nilFunc]) Tryz.underlying137 ⟨_,_,_,rfl⟩ (by kernel_rfl) rfl rfl rfl (by kernel_rfl) (by decide)
theorem X1z:TyOK Tryz.prog 149 ty149:=TyOK.of (cells:=[.int .i64 0,.int .i64 0,.int .i64 0]) Tryz.underlying149 ⟨_,rfl,rfl⟩ (by kernel_rfl) rfl rfl rfl (by kernel_rfl) (by decide)
theorem X10:TyOK Tryz.prog 156 ty156:=TyOK.of (cells:=[.slice none 0 0,.int .i64 0,.int .i64 0]) Tryz.underlying156 ⟨_,rfl,rfl⟩ (by kernel_rfl) rfl rfl rfl (by kernel_rfl) (by decide)
theorem X11:TyOK Tryz.prog 171 ty171:=TyOK.of (cells:=[.nilFunc]) Tryz.underlying171 ⟨_,_,_,rfl⟩ (by kernel_rfl) rfl rfl rfl (by kernel_rfl) (by decide)
theorem X12:TyOK Tryz.prog 175 ty175:=TyOK.of (cells:=[.slice none 0 0]) Tryz.underlying175 rfl (by kernel_rfl) rfl rfl rfl (by kernel_rfl) (by decide)
theorem X13:TyOK Tryz.prog 176 ty176:=TyOK.of (cells:=[.slice none 0 0]) Tryz.underlying176 rfl (by kernel_rfl) rfl rfl rfl (by kernel_rfl) (by decide)
theorem X14:TyOK Tryz.prog 178 ty178:=TyOK.of (cells:=[.slice none 0 0,.slice none 0 0]) Tryz.underlying178 ⟨_,rfl,rfl⟩ (by kernel_rfl) rfl rfl rfl (by kernel_rfl) (by decide)
theorem X15:TyOK Tryz.prog 187 ty187:=TyOK.of (cells:=[.nilFunc]) Tryz.underlying187 ⟨_,_,_,rfl⟩ (by kernel_rfl) rfl rfl rfl (by kernel_rfl) (by decide)
theorem X16:TyOK Tryz.prog 189 ty189:=TyOK.of (cells:=[.int .i64 0,.int .i64 0,.int .i64 0,.int .i64 0]) Tryz.underlying189 ⟨_,rfl,rfl⟩ (by kernel_rfl) rfl rfl rfl (by kernel_rfl) (by decide)
theorem X17:TyOK Tryz.prog 197 ty197:=TyOK.of (cells:=[.pointer none]) Tryz.underlying197 rfl (by kernel_rfl) rfl rfl rfl (by kernel_rfl) (by decide)
theorem X18:TyOK Tryz.prog 212 ty212:=TyOK.of (cells:=[.nilFunc]) Tryz.underlying212 ⟨_,_,_,rfl⟩ (by kernel_rfl) rfl rfl rfl (by kernel_rfl) (by decide)
theorem X19:TyOK Tryz.prog 221 ty221:=TyOK.of (cells:=[.int .u64 0]) Tryz.underlying221 rfl (by kernel_rfl) rfl rfl rfl (by kernel_rfl) (by decide)
theorem X2a:TyOK Tryz.prog 224 ty224:=TyOK.of (cells:=[.nilFunc]) Tryz.underlying224 ⟨_,_,_,rfl⟩ (by kernel_rfl) rfl rfl rfl (by kernel_rfl) (by decide)
theorem X2b:TyOK Tryz.prog 226 ty226:=TyOK.of (cells:=[.pointer none,.pointer none,.int .i64 0]) Tryz.underlying226 ⟨_,rfl,rfl⟩ (by kernel_rfl) rfl rfl rfl (by kernel_rfl) (by decide)
theorem X2c:TyOK Tryz.prog 244 ty244:=TyOK.of (cells:=[.nilFunc]) Tryz.underlying244 ⟨_,_,_,rfl⟩ (by kernel_rfl) rfl rfl rfl (by kernel_rfl) (by decide)
theorem X2d:TyOK Tryz.prog 245 ty245:=TyOK.of (cells:=[.int .u32 0]) Tryz.underlying245 rfl (by kernel_rfl) rfl rfl rfl (by kernel_rfl) (by decide)
theorem X2e:TyOK Tryz.prog 248 ty248:=TyOK.of (cells:=[.int .u64 0]) Tryz.underlying248 rfl (by kernel_rfl) rfl rfl rfl (by kernel_rfl) (by decide)
theorem X2f:TyOK Tryz.prog 252 ty252:=TyOK.of (cells:=[.slice none 0 0]) Tryz.underlying252 rfl (by kernel_rfl) rfl rfl rfl (by kernel_rfl) (by decide)
theorem X4n:Z2 Tryz.prog tys:=by
 intro y hy
 simp only [tys,List.mem_cons,List.not_mem_nil,or_false] at hy
 rcases hy with rfl | rfl | rfl | rfl | rfl | rfl | rfl | rfl | rfl | rfl | rfl | rfl | rfl | rfl | rfl | rfl | rfl | rfl | rfl | rfl | rfl | rfl | rfl | rfl | rfl | rfl | rfl | rfl | rfl | rfl | rfl | rfl | rfl | rfl | rfl | rfl | rfl | rfl | rfl | rfl | rfl | rfl | rfl | rfl | rfl | rfl | rfl | rfl | rfl | rfl | rfl | rfl
 ·exact X58
 ·exact X59
 ·exact X6a
 ·exact X6b
 ·exact X33
 ·exact X34
 ·exact X35
 ·exact X36
 ·exact X37
 ·exact X38
 ·exact X39
 ·exact X4a
 ·exact X4b
 ·exact X4c
 ·exact X4d
 ·exact X4e
 ·exact X4f
 ·exact X4g
 ·exact X4h
 ·exact X4i
 ·exact X4j
 ·exact X4k
 ·exact X4l
 ·exact X4m
 ·exact X1o
 ·exact X1p
 ·exact X1q
 ·exact X1r
 ·exact X1s
 ·exact X1t
 ·exact X1u
 ·exact X1v
 ·exact X1w
 ·exact X1x
 ·exact X1y
 ·exact X1z
 ·exact X10
 ·exact X11
 ·exact X12
 ·exact X13
 ·exact X14
 ·exact X15
 ·exact X16
 ·exact X17
 ·exact X18
 ·exact X19
 ·exact X2a
 ·exact X2b
 ·exact X2c
 ·exact X2d
 ·exact X2e
 ·exact X2f
theorem fC {a:FuncId×Func} {l:List (FuncId×Func)} (h:Tryz.prog.funcs[a.1]?=some a.2) (t:∀ y∈l,Tryz.prog.funcs[y.1]?=some y.2):∀ y∈a::l,Tryz.prog.funcs[y.1]?=some y.2:=by
 intro y hy
 rcases List.mem_cons.1 hy with e | e
 ·rw [e];exact h
 ·exact t y e
theorem Xzv:∀ y∈fns,Tryz.prog.funcs[y.1]?=some y.2:=by
 unfold fns
 refine fC Tryz.func3 ?_
 refine fC Tryz.func4 ?_
 refine fC Tryz.func5 ?_
 refine fC Tryz.func6 ?_
 refine fC Tryz.func7 ?_
 refine fC Tryz.func8 ?_
 refine fC Tryz.func9 ?_
 refine fC Tryz.func10 ?_
 refine fC Tryz.func11 ?_
 refine fC Tryz.func12 ?_
 refine fC Tryz.func13 ?_
 refine fC Tryz.func14 ?_
 refine fC Tryz.func15 ?_
 refine fC Tryz.func16 ?_
 refine fC Tryz.func17 ?_
 refine fC Tryz.func18 ?_
 refine fC Tryz.func19 ?_
 refine fC Tryz.func20 ?_
 refine fC Tryz.func21 ?_
 refine fC Tryz.func22 ?_
 refine fC Tryz.func23 ?_
 refine fC Tryz.func24 ?_
 refine fC Tryz.func25 ?_
 refine fC Tryz.func26 ?_
 refine fC Tryz.func27 ?_
 refine fC Tryz.func28 ?_
 refine fC Tryz.func29 ?_
 refine fC Tryz.func30 ?_
 refine fC Tryz.func31 ?_
 refine fC Tryz.func32 ?_
 refine fC Tryz.func33 ?_
 refine fC Tryz.func34 ?_
 refine fC Tryz.func35 ?_
 refine fC Tryz.func36 ?_
 refine fC Tryz.func37 ?_
 refine fC Tryz.func38 ?_
 refine fC Tryz.func39 ?_
 refine fC Tryz.func40 ?_
 refine fC Tryz.func41 ?_
 refine fC Tryz.func42 ?_
 refine fC Tryz.func43 ?_
 refine fC Tryz.func44 ?_
 refine fC Tryz.func45 ?_
 refine fC Tryz.func46 ?_
 refine fC Tryz.func47 ?_
 refine fC Tryz.func48 ?_
 refine fC Tryz.func49 ?_
 refine fC Tryz.func50 ?_
 refine fC Tryz.func51 ?_
 refine fC Tryz.func52 ?_
 refine fC Tryz.func53 ?_
 refine fC Tryz.func54 ?_
 refine fC Tryz.func55 ?_
 refine fC Tryz.func56 ?_
 refine fC Tryz.func57 ?_
 refine fC Tryz.func58 ?_
 refine fC Tryz.func59 ?_
 refine fC Tryz.func60 ?_
 refine fC Tryz.func61 ?_
 refine fC Tryz.func62 ?_
 refine fC Tryz.func63 ?_
 refine fC Tryz.func64 ?_
 refine fC Tryz.func65 ?_
 refine fC Tryz.func66 ?_
 refine fC Tryz.func67 ?_
 refine fC Tryz.func68 ?_
 refine fC Tryz.func69 ?_
 refine fC Tryz.func70 ?_
 refine fC Tryz.func71 ?_
 refine fC Tryz.func72 ?_
 refine fC Tryz.func73 ?_
 refine fC Tryz.func74 ?_
 refine fC Tryz.func75 ?_
 refine fC Tryz.func76 ?_
 refine fC Tryz.func77 ?_
 refine fC Tryz.func78 ?_
 refine fC Tryz.func79 ?_
 refine fC Tryz.func80 ?_
 refine fC Tryz.func81 ?_
 refine fC Tryz.func82 ?_
 refine fC Tryz.func83 ?_
 refine fC Tryz.func84 ?_
 refine fC Tryz.func85 ?_
 refine fC Tryz.func86 ?_
 refine fC Tryz.func87 ?_
 refine fC Tryz.func88 ?_
 refine fC Tryz.func89 ?_
 refine fC Tryz.func90 ?_
 refine fC Tryz.func91 ?_
 refine fC Tryz.func92 ?_
 refine fC Tryz.func93 ?_
 refine fC Tryz.func94 ?_
 refine fC Tryz.func95 ?_
 refine fC Tryz.func96 ?_
 refine fC Tryz.func97 ?_
 refine fC Tryz.func98 ?_
 refine fC Tryz.func99 ?_
 refine fC Tryz.func100 ?_
 refine fC Tryz.func101 ?_
 refine fC Tryz.func102 ?_
 refine fC Tryz.func103 ?_
 refine fC Tryz.func104 ?_
 refine fC Tryz.func105 ?_
 refine fC Tryz.func106 ?_
 refine fC Tryz.func107 ?_
 refine fC Tryz.func108 ?_
 refine fC Tryz.func109 ?_
 refine fC Tryz.func110 ?_
 refine fC Tryz.func111 ?_
 refine fC Tryz.func112 ?_
 refine fC Tryz.func113 ?_
 refine fC Tryz.func114 ?_
 refine fC Tryz.func115 ?_
 refine fC Tryz.func116 ?_
 refine fC Tryz.func117 ?_
 refine fC Tryz.func118 ?_
 refine fC Tryz.func119 ?_
 refine fC Tryz.func120 ?_
 refine fC Tryz.func121 ?_
 refine fC Tryz.func122 ?_
 refine fC Tryz.func123 ?_
 refine fC Tryz.func124 ?_
 refine fC Tryz.func125 ?_
 refine fC Tryz.func126 ?_
 refine fC Tryz.func127 ?_
 refine fC Tryz.func128 ?_
 refine fC Tryz.func129 ?_
 refine fC Tryz.func130 ?_
 refine fC Tryz.func131 ?_
 refine fC Tryz.func132 ?_
 refine fC Tryz.func133 ?_
 refine fC Tryz.func134 ?_
 refine fC Tryz.func135 ?_
 refine fC Tryz.func136 ?_
 refine fC Tryz.func137 ?_
 refine fC Tryz.func138 ?_
 refine fC Tryz.func139 ?_
 refine fC Tryz.func140 ?_
 refine fC Tryz.func141 ?_
 refine fC Tryz.func142 ?_
 refine fC Tryz.func143 ?_
 refine fC Tryz.func144 ?_
 refine fC Tryz.func145 ?_
 refine fC Tryz.func146 ?_
 refine fC Tryz.func147 ?_
 refine fC Tryz.func148 ?_
 refine fC Tryz.func149 ?_
 refine fC Tryz.func150 ?_
 refine fC Tryz.func151 ?_
 refine fC Tryz.func152 ?_
 refine fC Tryz.func153 ?_
 refine fC Tryz.func154 ?_
 refine fC Tryz.func155 ?_
 refine fC Tryz.func156 ?_
 refine fC Tryz.func157 ?_
 refine fC Tryz.func158 ?_
 refine fC Tryz.func159 ?_
 refine fC Tryz.func160 ?_
 refine fC Tryz.func161 ?_
 refine fC Tryz.func162 ?_
 refine fC Tryz.func163 ?_
 refine fC Tryz.func164 ?_
 refine fC Tryz.func165 ?_
 refine fC Tryz.func166 ?_
 refine fC Tryz.func167 ?_
 refine fC Tryz.func168 ?_
 refine fC Tryz.func169 ?_
 refine fC Tryz.func170 ?_
 refine fC Tryz.func171 ?_
 refine fC Tryz.func172 ?_
 refine fC Tryz.func173 ?_
 refine fC Tryz.func174 ?_
 refine fC Tryz.func175 ?_
 refine fC Tryz.func176 ?_
 refine fC Tryz.func177 ?_
 refine fC Tryz.func178 ?_
 refine fC Tryz.func179 ?_
 refine fC Tryz.func180 ?_
 refine fC Tryz.func181 ?_
 refine fC Tryz.func182 ?_
 refine fC Tryz.func183 ?_
 refine fC Tryz.func184 ?_
 refine fC Tryz.func185 ?_
 refine fC Tryz.func186 ?_
 refine fC Tryz.func187 ?_
 refine fC Tryz.func188 ?_
 refine fC Tryz.func189 ?_
 refine fC Tryz.func190 ?_
 refine fC Tryz.func191 ?_
 refine fC Tryz.func192 ?_
 refine fC Tryz.func193 ?_
 refine fC Tryz.func194 ?_
 refine fC Tryz.func195 ?_
 refine fC Tryz.func196 ?_
 refine fC Tryz.func197 ?_
 refine fC Tryz.func198 ?_
 refine fC Tryz.func199 ?_
 refine fC Tryz.func200 ?_
 refine fC Tryz.func201 ?_
 refine fC Tryz.func202 ?_
 refine fC Tryz.func203 ?_
 refine fC Tryz.func204 ?_
 refine fC Tryz.func205 ?_
 refine fC Tryz.func206 ?_
 refine fC Tryz.func207 ?_
 refine fC Tryz.func208 ?_
 refine fC Tryz.func209 ?_
 refine fC Tryz.func210 ?_
 refine fC Tryz.func211 ?_
 refine fC Tryz.func212 ?_
 refine fC Tryz.func213 ?_
 refine fC Tryz.func214 ?_
 refine fC Tryz.func215 ?_
 refine fC Tryz.func216 ?_
 refine fC Tryz.func217 ?_
 refine fC Tryz.func218 ?_
 refine fC Tryz.func219 ?_
 refine fC Tryz.func220 ?_
 refine fC Tryz.func221 ?_
 refine fC Tryz.func222 ?_
 refine fC Tryz.func223 ?_
 refine fC Tryz.func224 ?_
 refine fC Tryz.func225 ?_
 refine fC Tryz.func226 ?_
 refine fC Tryz.func227 ?_
 refine fC Tryz.func228 ?_
 refine fC Tryz.func229 ?_
 refine fC Tryz.func230 ?_
 refine fC Tryz.func231 ?_
 refine fC Tryz.func232 ?_
 refine fC Tryz.func233 ?_
 refine fC Tryz.func234 ?_
 refine fC Tryz.func235 ?_
 refine fC Tryz.func236 ?_
 refine fC Tryz.func237 ?_
 refine fC Tryz.func238 ?_
 refine fC Tryz.func239 ?_
 refine fC Tryz.func240 ?_
 refine fC Tryz.func241 ?_
 refine fC Tryz.func242 ?_
 refine fC Tryz.func243 ?_
 refine fC Tryz.func244 ?_
 refine fC Tryz.func245 ?_
 refine fC Tryz.func246 ?_
 refine fC Tryz.func247 ?_
 refine fC Tryz.func248 ?_
 refine fC Tryz.func249 ?_
 refine fC Tryz.func250 ?_
 refine fC Tryz.func251 ?_
 refine fC Tryz.func252 ?_
 refine fC Tryz.func253 ?_
 refine fC Tryz.func254 ?_
 refine fC Tryz.func255 ?_
 refine fC Tryz.func256 ?_
 refine fC Tryz.func257 ?_
 refine fC Tryz.func258 ?_
 refine fC Tryz.func259 ?_
 refine fC Tryz.func260 ?_
 refine fC Tryz.func261 ?_
 refine fC Tryz.func262 ?_
 refine fC Tryz.func263 ?_
 refine fC Tryz.func264 ?_
 refine fC Tryz.func265 ?_
 refine fC Tryz.func266 ?_
 refine fC Tryz.func267 ?_
 refine fC Tryz.func268 ?_
 refine fC Tryz.func269 ?_
 refine fC Tryz.func270 ?_
 refine fC Tryz.func271 ?_
 refine fC Tryz.func272 ?_
 refine fC Tryz.func273 ?_
 refine fC Tryz.func274 ?_
 refine fC Tryz.func275 ?_
 refine fC Tryz.func276 ?_
 refine fC Tryz.func277 ?_
 refine fC Tryz.func278 ?_
 refine fC Tryz.func279 ?_
 refine fC Tryz.func280 ?_
 refine fC Tryz.func281 ?_
 refine fC Tryz.func282 ?_
 refine fC Tryz.func283 ?_
 refine fC Tryz.func284 ?_
 refine fC Tryz.func285 ?_
 refine fC Tryz.func286 ?_
 refine fC Tryz.func287 ?_
 refine fC Tryz.func288 ?_
 refine fC Tryz.func289 ?_
 refine fC Tryz.func290 ?_
 refine fC Tryz.func291 ?_
 refine fC Tryz.func292 ?_
 refine fC Tryz.func293 ?_
 refine fC Tryz.func294 ?_
 refine fC Tryz.func295 ?_
 refine fC Tryz.func296 ?_
 refine fC Tryz.func297 ?_
 refine fC Tryz.func298 ?_
 refine fC Tryz.func299 ?_
 refine fC Tryz.func300 ?_
 refine fC Tryz.func301 ?_
 refine fC Tryz.func302 ?_
 refine fC Tryz.func303 ?_
 refine fC Tryz.func304 ?_
 refine fC Tryz.func305 ?_
 refine fC Tryz.func306 ?_
 refine fC Tryz.func307 ?_
 refine fC Tryz.func308 ?_
 refine fC Tryz.func309 ?_
 refine fC Tryz.func310 ?_
 refine fC Tryz.func311 ?_
 refine fC Tryz.func312 ?_
 refine fC Tryz.func313 ?_
 refine fC Tryz.func314 ?_
 refine fC Tryz.func315 ?_
 refine fC Tryz.func316 ?_
 refine fC Tryz.func317 ?_
 refine fC Tryz.func318 ?_
 refine fC Tryz.func319 ?_
 refine fC Tryz.func320 ?_
 refine fC Tryz.func321 ?_
 refine fC Tryz.func322 ?_
 refine fC Tryz.func323 ?_
 refine fC Tryz.func324 ?_
 refine fC Tryz.func325 ?_
 refine fC Tryz.func326 ?_
 refine fC Tryz.func327 ?_
 refine fC Tryz.func328 ?_
 refine fC Tryz.func329 ?_
 refine fC Tryz.func330 ?_
 refine fC Tryz.func331 ?_
 refine fC Tryz.func332 ?_
 refine fC Tryz.func333 ?_
 refine fC Tryz.func334 ?_
 refine fC Tryz.func335 ?_
 refine fC Tryz.func336 ?_
 refine fC Tryz.func337 ?_
 refine fC Tryz.func338 ?_
 refine fC Tryz.func339 ?_
 refine fC Tryz.func340 ?_
 refine fC Tryz.func341 ?_
 refine fC Tryz.func342 ?_
 refine fC Tryz.func343 ?_
 refine fC Tryz.func344 ?_
 refine fC Tryz.func345 ?_
 refine fC Tryz.func346 ?_
 refine fC Tryz.func347 ?_
 refine fC Tryz.func348 ?_
 refine fC Tryz.func349 ?_
 refine fC Tryz.func350 ?_
 refine fC Tryz.func351 ?_
 refine fC Tryz.func352 ?_
 refine fC Tryz.func353 ?_
 refine fC Tryz.func354 ?_
 refine fC Tryz.func355 ?_
 refine fC Tryz.func356 ?_
 refine fC Tryz.func357 ?_
 refine fC Tryz.func358 ?_
 refine fC Tryz.func359 ?_
 refine fC Tryz.func360 ?_
 refine fC Tryz.func361 ?_
 refine fC Tryz.func362 ?_
 refine fC Tryz.func363 ?_
 refine fC Tryz.func364 ?_
 refine fC Tryz.func365 ?_
 refine fC Tryz.func366 ?_
 refine fC Tryz.func367 ?_
 refine fC Tryz.func368 ?_
 refine fC Tryz.func369 ?_
 refine fC Tryz.func370 ?_
 refine fC Tryz.func371 ?_
 refine fC Tryz.func372 ?_
 refine fC Tryz.func373 ?_
 refine fC Tryz.func374 ?_
 refine fC Tryz.func375 ?_
 refine fC Tryz.func376 ?_
 refine fC Tryz.func377 ?_
 exact fun _ h=>nomatch h
theorem chk:fns.all (Xzp cfg)=true:=by kernel_rfl
theorem cfg_ok:CfgOK Tryz.prog Xzq cfg:=⟨X4n,X32,X3w Xzv chk,fun _ _ h=>(nomatch h)⟩
end Go.Proofs.YtbploohjimpcaaaGreat.A
