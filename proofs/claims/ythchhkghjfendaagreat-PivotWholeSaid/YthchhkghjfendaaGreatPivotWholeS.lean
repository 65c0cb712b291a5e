/- The functions of a program come to the trees of the table; printed by program. No conditions. -/
import Derived.Test.YthchhkghjfendaaGreatPivotWholeM3
import Derived.Test.YthchhkghjfendaaGreatProg
import Derived.KernelRfl
namespace Go.Proofs.YthchhkghjfendaaGreat.Dx
open Go
def seatL:List (Nat × Nat):=[(42,2),(63,3),(88,5),(61,7),(96,9),(120,10),(144,12),(4,68),(10,69),(51,86),(157,88),(79,89),(118,90),(77,91),(110,92),(117,93),(116,94),(78,95),(30,96),(112,98),(160,99),(131,100),(111,101),(109,102),(158,103),(52,106),(29,110),(57,114),(64,115),(121,116),(124,117),(122,118),(123,119),(65,120),(113,121),(66,122),(115,125),(114,126),(53,128),(59,134),(21,141),(18,150),(54,166),(17,177),(20,181),(47,238),(102,239),(148,240),(152,241),(151,242),(146,243),(147,244),(149,245),(85,246),(101,247),(46,248),(105,249),(145,257),(104,258),(103,259),(11,262),(19,263),(43,264),(100,265),(45,266),(44,267),(170,272),(192,274),(99,280),(136,281),(142,282),(159,283),(179,284),(137,285),(150,286),(168,287),(169,288),(156,289),(190,290),(189,291),(173,300),(155,301),(174,302),(176,303),(175,304),(178,305),(139,306),(89,309),(153,310),(106,311),(48,312),(107,313),(91,314),(62,315),(140,316),(108,317),(154,321),(191,331),(138,332),(177,333)]
def fidM (f:FuncId):Option Nat:=(seatL.find? (·.1==f)).map (·.2)
noncomputable def C:Ctx:={ P:=Tryz.prog,fid:=fidM,spec:=spc,canon:=some 134 }
theorem c2:symFun C Tryz.f42 sp2=some tr2:=by kernel_rfl
theorem c3:symFun C Tryz.f63 sp3=some tr3:=by kernel_rfl
theorem c5:symFun C Tryz.f88 sp5=some tr5:=by kernel_rfl
theorem c7:symFun C Tryz.f61 sp7=some tr7:=by kernel_rfl
theorem c9:symFun C Tryz.f96 sp9=some tr9:=by kernel_rfl
theorem c10:symFun C Tryz.f120 sp10=some tr10:=by kernel_rfl
theorem c12:symFun C Tryz.f144 sp12=some tr12:=by kernel_rfl
theorem c68:symFun C Tryz.f4 sp68=some tr68:=by kernel_rfl
theorem c69:symFun C Tryz.f10 sp69=some tr69:=by kernel_rfl
theorem c86:symFun C Tryz.f51 sp86=some tr86:=by kernel_rfl
theorem c88:symFun C Tryz.f157 sp88=some tr88:=by kernel_rfl
theorem c89:symFun C Tryz.f79 sp89=some tr89:=by kernel_rfl
theorem c90:symFun C Tryz.f118 sp90=some tr90:=by kernel_rfl
theorem c91:symFun C Tryz.f77 sp91=some tr91:=by kernel_rfl
theorem c92:symFun C Tryz.f110 sp92=some tr92:=by kernel_rfl
theorem c93:symFun C Tryz.f117 sp93=some tr93:=by kernel_rfl
theorem c94:symFun C Tryz.f116 sp94=some tr94:=by kernel_rfl
theorem c95:symFun C Tryz.f78 sp95=some tr95:=by kernel_rfl
theorem c96:symFun C Tryz.f30 sp96=some tr96:=by kernel_rfl
theorem c98:symFun C Tryz.f112 sp98=some tr98:=by kernel_rfl
theorem c99:symFun C Tryz.f160 sp99=some tr99:=by kernel_rfl
theorem c100:symFun C Tryz.f131 sp100=some tr100:=by kernel_rfl
theorem c101:symFun C Tryz.f111 sp101=some tr101:=by kernel_rfl
theorem c102:symFun C Tryz.f109 sp102=some tr102:=by kernel_rfl
theorem c103:symFun C Tryz.f158 sp103=some tr103:=by kernel_rfl
theorem c106:symFun C Tryz.f52 sp106=some tr106:=by kernel_rfl
theorem c110:symFun C Tryz.f29 sp110=some tr110:=by kernel_rfl
theorem c114:symFun C Tryz.f57 sp114=some tr114:=by kernel_rfl
theorem c115:symFun C Tryz.f64 sp115=some tr115:=by kernel_rfl
theorem c116:symFun C Tryz.f121 sp116=some tr116:=by kernel_rfl
theorem c117:symFun C Tryz.f124 sp117=some tr117:=by kernel_rfl
theorem c118:symFun C Tryz.f122 sp118=some tr118:=by kernel_rfl
theorem c119:symFun C Tryz.f123 sp119=some tr119:=by kernel_rfl
theorem c120:symFun C Tryz.f65 sp120=some tr120:=by kernel_rfl
theorem c121:symFun C Tryz.f113 sp121=some tr121:=by kernel_rfl
theorem c122:symFun C Tryz.f66 sp122=some tr122:=by kernel_rfl
theorem c125:symFun C Tryz.f115 sp125=some tr125:=by kernel_rfl
theorem c126:symFun C Tryz.f114 sp126=some tr126:=by kernel_rfl
theorem c128:symFun C Tryz.f53 sp128=some tr128:=by kernel_rfl
theorem c134:symFun C Tryz.f59 sp134=some tr134:=by kernel_rfl
theorem c141:symFun C Tryz.f21 sp141=some tr141:=by kernel_rfl
theorem c150:symFun C Tryz.f18 sp150=some tr150:=by kernel_rfl
theorem c166:symFun C Tryz.f54 sp166=some tr166:=by kernel_rfl
theorem c177:symFun C Tryz.f17 sp177=some tr177:=by kernel_rfl
theorem c181:symFun C Tryz.f20 sp181=some tr181:=by kernel_rfl
theorem c238:symFun C Tryz.f47 sp238=some tr238:=by kernel_rfl
theorem c239:symFun C Tryz.f102 sp239=some tr239:=by kernel_rfl
theorem c240:symFun C Tryz.f148 sp240=some tr240:=by kernel_rfl
theorem c241:symFun C Tryz.f152 sp241=some tr241:=by kernel_rfl
theorem c242:symFun C Tryz.f151 sp242=some tr242:=by kernel_rfl
theorem c243:symFun C Tryz.f146 sp243=some tr243:=by kernel_rfl
theorem c244:symFun C Tryz.f147 sp244=some tr244:=by kernel_rfl
theorem c245:symFun C Tryz.f149 sp245=some tr245:=by kernel_rfl
theorem c246:symFun C Tryz.f85 sp246=some tr246:=by kernel_rfl
theorem c247:symFun C Tryz.f101 sp247=some tr247:=by kernel_rfl
theorem c248:symFun C Tryz.f46 sp248=some tr248:=by kernel_rfl
theorem c249:symFun C Tryz.f105 sp249=some tr249:=by kernel_rfl
theorem c257:symFun C Tryz.f145 sp257=some tr257:=by kernel_rfl
theorem c258:symFun C Tryz.f104 sp258=some tr258:=by kernel_rfl
theorem c259:symFun C Tryz.f103 sp259=some tr259:=by kernel_rfl
theorem c262:symFun C Tryz.f11 sp262=some tr262:=by kernel_rfl
theorem c263:symFun C Tryz.f19 sp263=some tr263:=by kernel_rfl
theorem c264:symFun C Tryz.f43 sp264=some tr264:=by kernel_rfl
theorem c265:symFun C Tryz.f100 sp265=some tr265:=by kernel_rfl
theorem c266:symFun C Tryz.f45 sp266=some tr266:=by kernel_rfl
theorem c267:symFun C Tryz.f44 sp267=some tr267:=by kernel_rfl
theorem c272:symFun C Tryz.f170 sp272=some tr272:=by kernel_rfl
theorem c274:symFun C Tryz.f192 sp274=some tr274:=by kernel_rfl
theorem c280:symFun C Tryz.f99 sp280=some tr280:=by kernel_rfl
theorem c281:symFun C Tryz.f136 sp281=some tr281:=by kernel_rfl
theorem c282:symFun C Tryz.f142 sp282=some tr282:=by kernel_rfl
theorem c283:symFun C Tryz.f159 sp283=some tr283:=by kernel_rfl
theorem c284:symFun C Tryz.f179 sp284=some tr284:=by kernel_rfl
theorem c285:symFun C Tryz.f137 sp285=some tr285:=by kernel_rfl
theorem c286:symFun C Tryz.f150 sp286=some tr286:=by kernel_rfl
theorem c287:symFun C Tryz.f168 sp287=some tr287:=by kernel_rfl
theorem c288:symFun C Tryz.f169 sp288=some tr288:=by kernel_rfl
theorem c289:symFun C Tryz.f156 sp289=some tr289:=by kernel_rfl
theorem c290:symFun C Tryz.f190 sp290=some tr290:=by kernel_rfl
theorem c291:symFun C Tryz.f189 sp291=some tr291:=by kernel_rfl
theorem c300:symFun C Tryz.f173 sp300=some tr300:=by kernel_rfl
theorem c301:symFun C Tryz.f155 sp301=some tr301:=by kernel_rfl
theorem c302:symFun C Tryz.f174 sp302=some tr302:=by kernel_rfl
theorem c303:symFun C Tryz.f176 sp303=some tr303:=by kernel_rfl
theorem c304:symFun C Tryz.f175 sp304=some tr304:=by kernel_rfl
theorem c305:symFun C Tryz.f178 sp305=some tr305:=by kernel_rfl
theorem c306:symFun C Tryz.f139 sp306=some tr306:=by kernel_rfl
theorem c309:symFun C Tryz.f89 sp309=some tr309:=by kernel_rfl
theorem c310:symFun C Tryz.f153 sp310=some tr310:=by kernel_rfl
theorem c311:symFun C Tryz.f106 sp311=some tr311:=by kernel_rfl
theorem c312:symFun C Tryz.f48 sp312=some tr312:=by kernel_rfl
theorem c313:symFun C Tryz.f107 sp313=some tr313:=by kernel_rfl
theorem c314:symFun C Tryz.f91 sp314=some tr314:=by kernel_rfl
theorem c315:symFun C Tryz.f62 sp315=some tr315:=by kernel_rfl
theorem c316:symFun C Tryz.f140 sp316=some tr316:=by kernel_rfl
theorem c317:symFun C Tryz.f108 sp317=some tr317:=by kernel_rfl
theorem c321:symFun C Tryz.f154 sp321=some tr321:=by kernel_rfl
theorem c331:symFun C Tryz.f191 sp331=some tr331:=by kernel_rfl
theorem c332:symFun C Tryz.f138 sp332=some tr332:=by kernel_rfl
theorem c333:symFun C Tryz.f177 sp333=some tr333:=by kernel_rfl
theorem cbody:(seatL.all fun p=>(C.P.funcs[p.1]?).any fun fn=>fn.body.isSome&&fn.name != "runtime.NumGoroutine")=true:=by kernel_rfl
theorem cmixed:C.P.follows .mixedOrders=true:=by kernel_rfl
theorem crows:∀p∈seatL,RowOK C tab p:=by
  unfold seatL
  refine List.forall_mem_cons.2 ⟨⟨Tryz.f42,tr2,sp2,Tryz.func42,rfl,c2,rfl⟩,?_⟩
  refine List.forall_mem_cons.2 ⟨⟨Tryz.f63,tr3,sp3,Tryz.func63,rfl,c3,rfl⟩,?_⟩
  refine List.forall_mem_cons.2 ⟨⟨Tryz.f88,tr5,sp5,Tryz.func88,rfl,c5,rfl⟩,?_⟩
  refine List.forall_mem_cons.2 ⟨⟨Tryz.f61,tr7,sp7,Tryz.func61,rfl,c7,rfl⟩,?_⟩
  refine List.forall_mem_cons.2 ⟨⟨Tryz.f96,tr9,sp9,Tryz.func96,rfl,c9,rfl⟩,?_⟩
  refine List.forall_mem_cons.2 ⟨⟨Tryz.f120,tr10,sp10,Tryz.func120,rfl,c10,rfl⟩,?_⟩
  refine List.forall_mem_cons.2 ⟨⟨Tryz.f144,tr12,sp12,Tryz.func144,rfl,c12,rfl⟩,?_⟩
  refine List.forall_mem_cons.2 ⟨⟨Tryz.f4,tr68,sp68,Tryz.func4,rfl,c68,rfl⟩,?_⟩
  refine List.forall_mem_cons.2 ⟨⟨Tryz.f10,tr69,sp69,Tryz.func10,rfl,c69,rfl⟩,?_⟩
  refine List.forall_mem_cons.2 ⟨⟨Tryz.f51,tr86,sp86,Tryz.func51,rfl,c86,rfl⟩,?_⟩
  refine List.forall_mem_cons.2 ⟨⟨Tryz.f157,tr88,sp88,Tryz.func157,rfl,c88,rfl⟩,?_⟩
  refine List.forall_mem_cons.2 ⟨⟨Tryz.f79,tr89,sp89,Tryz.func79,rfl,c89,rfl⟩,?_⟩
  refine List.forall_mem_cons.2 ⟨⟨Tryz.f118,tr90,sp90,Tryz.func118,rfl,c90,rfl⟩,?_⟩
  refine List.forall_mem_cons.2 ⟨⟨Tryz.f77,tr91,sp91,Tryz.func77,rfl,c91,rfl⟩,?_⟩
  refine List.forall_mem_cons.2 ⟨⟨Tryz.f110,tr92,sp92,Tryz.func110,rfl,c92,rfl⟩,?_⟩
  refine List.forall_mem_cons.2 ⟨⟨Tryz.f117,tr93,sp93,Tryz.func117,rfl,c93,rfl⟩,?_⟩
  refine List.forall_mem_cons.2 ⟨⟨Tryz.f116,tr94,sp94,Tryz.func116,rfl,c94,rfl⟩,?_⟩
  refine List.forall_mem_cons.2 ⟨⟨Tryz.f78,tr95,sp95,Tryz.func78,rfl,c95,rfl⟩,?_⟩
  refine List.forall_mem_cons.2 ⟨⟨Tryz.f30,tr96,sp96,Tryz.func30,rfl,c96,rfl⟩,?_⟩
  refine List.forall_mem_cons.2 ⟨⟨Tryz.f112,tr98,sp98,Tryz.func112,rfl,c98,rfl⟩,?_⟩
  refine List.forall_mem_cons.2 ⟨⟨Tryz.f160,tr99,sp99,Tryz.func160,rfl,c99,rfl⟩,?_⟩
  refine List.forall_mem_cons.2 ⟨⟨Tryz.f131,tr100,sp100,Tryz.func131,rfl,c100,rfl⟩,?_⟩
  refine List.forall_mem_cons.2 ⟨⟨Tryz.f111,tr101,sp101,Tryz.func111,rfl,c101,rfl⟩,?_⟩
  refine List.forall_mem_cons.2 ⟨⟨Tryz.f109,tr102,sp102,Tryz.func109,rfl,c102,rfl⟩,?_⟩
  refine List.forall_mem_cons.2 ⟨⟨Tryz.f158,tr103,sp103,Tryz.func158,rfl,c103,rfl⟩,?_⟩
  refine List.forall_mem_cons.2 ⟨⟨Tryz.f52,tr106,sp106,Tryz.func52,rfl,c106,rfl⟩,?_⟩
  refine List.forall_mem_cons.2 ⟨⟨Tryz.f29,tr110,sp110,Tryz.func29,rfl,c110,rfl⟩,?_⟩
  refine List.forall_mem_cons.2 ⟨⟨Tryz.f57,tr114,sp114,Tryz.func57,rfl,c114,rfl⟩,?_⟩
  refine List.forall_mem_cons.2 ⟨⟨Tryz.f64,tr115,sp115,Tryz.func64,rfl,c115,rfl⟩,?_⟩
  refine List.forall_mem_cons.2 ⟨⟨Tryz.f121,tr116,sp116,Tryz.func121,rfl,c116,rfl⟩,?_⟩
  refine List.forall_mem_cons.2 ⟨⟨Tryz.f124,tr117,sp117,Tryz.func124,rfl,c117,rfl⟩,?_⟩
  refine List.forall_mem_cons.2 ⟨⟨Tryz.f122,tr118,sp118,Tryz.func122,rfl,c118,rfl⟩,?_⟩
  refine List.forall_mem_cons.2 ⟨⟨Tryz.f123,tr119,sp119,Tryz.func123,rfl,c119,rfl⟩,?_⟩
  refine List.forall_mem_cons.2 ⟨⟨Tryz.f65,tr120,sp120,Tryz.func65,rfl,c120,rfl⟩,?_⟩
  refine List.forall_mem_cons.2 ⟨⟨Tryz.f113,tr121,sp121,Tryz.func113,rfl,c121,rfl⟩,?_⟩
  refine List.forall_mem_cons.2 ⟨⟨Tryz.f66,tr122,sp122,Tryz.func66,rfl,c122,rfl⟩,?_⟩
  refine List.forall_mem_cons.2 ⟨⟨Tryz.f115,tr125,sp125,Tryz.func115,rfl,c125,rfl⟩,?_⟩
  refine List.forall_mem_cons.2 ⟨⟨Tryz.f114,tr126,sp126,Tryz.func114,rfl,c126,rfl⟩,?_⟩
  refine List.forall_mem_cons.2 ⟨⟨Tryz.f53,tr128,sp128,Tryz.func53,rfl,c128,rfl⟩,?_⟩
  refine List.forall_mem_cons.2 ⟨⟨Tryz.f59,tr134,sp134,Tryz.func59,rfl,c134,rfl⟩,?_⟩
  refine List.forall_mem_cons.2 ⟨⟨Tryz.f21,tr141,sp141,Tryz.func21,rfl,c141,rfl⟩,?_⟩
  refine List.forall_mem_cons.2 ⟨⟨Tryz.f18,tr150,sp150,Tryz.func18,rfl,c150,rfl⟩,?_⟩
  refine List.forall_mem_cons.2 ⟨⟨Tryz.f54,tr166,sp166,Tryz.func54,rfl,c166,rfl⟩,?_⟩
  refine List.forall_mem_cons.2 ⟨⟨Tryz.f17,tr177,sp177,Tryz.func17,rfl,c177,rfl⟩,?_⟩
  refine List.forall_mem_cons.2 ⟨⟨Tryz.f20,tr181,sp181,Tryz.func20,rfl,c181,rfl⟩,?_⟩
  refine List.forall_mem_cons.2 ⟨⟨Tryz.f47,tr238,sp238,Tryz.func47,rfl,c238,rfl⟩,?_⟩
  refine List.forall_mem_cons.2 ⟨⟨Tryz.f102,tr239,sp239,Tryz.func102,rfl,c239,rfl⟩,?_⟩
  refine List.forall_mem_cons.2 ⟨⟨Tryz.f148,tr240,sp240,Tryz.func148,rfl,c240,rfl⟩,?_⟩
  refine List.forall_mem_cons.2 ⟨⟨Tryz.f152,tr241,sp241,Tryz.func152,rfl,c241,rfl⟩,?_⟩
  refine List.forall_mem_cons.2 ⟨⟨Tryz.f151,tr242,sp242,Tryz.func151,rfl,c242,rfl⟩,?_⟩
  refine List.forall_mem_cons.2 ⟨⟨Tryz.f146,tr243,sp243,Tryz.func146,rfl,c243,rfl⟩,?_⟩
  refine List.forall_mem_cons.2 ⟨⟨Tryz.f147,tr244,sp244,Tryz.func147,rfl,c244,rfl⟩,?_⟩
  refine List.forall_mem_cons.2 ⟨⟨Tryz.f149,tr245,sp245,Tryz.func149,rfl,c245,rfl⟩,?_⟩
  refine List.forall_mem_cons.2 ⟨⟨Tryz.f85,tr246,sp246,Tryz.func85,rfl,c246,rfl⟩,?_⟩
  refine List.forall_mem_cons.2 ⟨⟨Tryz.f101,tr247,sp247,Tryz.func101,rfl,c247,rfl⟩,?_⟩
  refine List.forall_mem_cons.2 ⟨⟨Tryz.f46,tr248,sp248,Tryz.func46,rfl,c248,rfl⟩,?_⟩
  refine List.forall_mem_cons.2 ⟨⟨Tryz.f105,tr249,sp249,Tryz.func105,rfl,c249,rfl⟩,?_⟩
  refine List.forall_mem_cons.2 ⟨⟨Tryz.f145,tr257,sp257,Tryz.func145,rfl,c257,rfl⟩,?_⟩
  refine List.forall_mem_cons.2 ⟨⟨Tryz.f104,tr258,sp258,Tryz.func104,rfl,c258,rfl⟩,?_⟩
  refine List.forall_mem_cons.2 ⟨⟨Tryz.f103,tr259,sp259,Tryz.func103,rfl,c259,rfl⟩,?_⟩
  refine List.forall_mem_cons.2 ⟨⟨Tryz.f11,tr262,sp262,Tryz.func11,rfl,c262,rfl⟩,?_⟩
  refine List.forall_mem_cons.2 ⟨⟨Tryz.f19,tr263,sp263,Tryz.func19,rfl,c263,rfl⟩,?_⟩
  refine List.forall_mem_cons.2 ⟨⟨Tryz.f43,tr264,sp264,Tryz.func43,rfl,c264,rfl⟩,?_⟩
  refine List.forall_mem_cons.2 ⟨⟨Tryz.f100,tr265,sp265,Tryz.func100,rfl,c265,rfl⟩,?_⟩
  refine List.forall_mem_cons.2 ⟨⟨Tryz.f45,tr266,sp266,Tryz.func45,rfl,c266,rfl⟩,?_⟩
  refine List.forall_mem_cons.2 ⟨⟨Tryz.f44,tr267,sp267,Tryz.func44,rfl,c267,rfl⟩,?_⟩
  refine List.forall_mem_cons.2 ⟨⟨Tryz.f170,tr272,sp272,Tryz.func170,rfl,c272,rfl⟩,?_⟩
  refine List.forall_mem_cons.2 ⟨⟨Tryz.f192,tr274,sp274,Tryz.func192,rfl,c274,rfl⟩,?_⟩
  refine List.forall_mem_cons.2 ⟨⟨Tryz.f99,tr280,sp280,Tryz.func99,rfl,c280,rfl⟩,?_⟩
  refine List.forall_mem_cons.2 ⟨⟨Tryz.f136,tr281,sp281,Tryz.func136,rfl,c281,rfl⟩,?_⟩
  refine List.forall_mem_cons.2 ⟨⟨Tryz.f142,tr282,sp282,Tryz.func142,rfl,c282,rfl⟩,?_⟩
  refine List.forall_mem_cons.2 ⟨⟨Tryz.f159,tr283,sp283,Tryz.func159,rfl,c283,rfl⟩,?_⟩
  refine List.forall_mem_cons.2 ⟨⟨Tryz.f179,tr284,sp284,Tryz.func179,rfl,c284,rfl⟩,?_⟩
  refine List.forall_mem_cons.2 ⟨⟨Tryz.f137,tr285,sp285,Tryz.func137,rfl,c285,rfl⟩,?_⟩
  refine List.forall_mem_cons.2 ⟨⟨Tryz.f150,tr286,sp286,Tryz.func150,rfl,c286,rfl⟩,?_⟩
  refine List.forall_mem_cons.2 ⟨⟨Tryz.f168,tr287,sp287,Tryz.func168,rfl,c287,rfl⟩,?_⟩
  refine List.forall_mem_cons.2 ⟨⟨Tryz.f169,tr288,sp288,Tryz.func169,rfl,c288,rfl⟩,?_⟩
  refine List.forall_mem_cons.2 ⟨⟨Tryz.f156,tr289,sp289,Tryz.func156,rfl,c289,rfl⟩,?_⟩
  refine List.forall_mem_cons.2 ⟨⟨Tryz.f190,tr290,sp290,Tryz.func190,rfl,c290,rfl⟩,?_⟩
  refine List.forall_mem_cons.2 ⟨⟨Tryz.f189,tr291,sp291,Tryz.func189,rfl,c291,rfl⟩,?_⟩
  refine List.forall_mem_cons.2 ⟨⟨Tryz.f173,tr300,sp300,Tryz.func173,rfl,c300,rfl⟩,?_⟩
  refine List.forall_mem_cons.2 ⟨⟨Tryz.f155,tr301,sp301,Tryz.func155,rfl,c301,rfl⟩,?_⟩
  refine List.forall_mem_cons.2 ⟨⟨Tryz.f174,tr302,sp302,Tryz.func174,rfl,c302,rfl⟩,?_⟩
  refine List.forall_mem_cons.2 ⟨⟨Tryz.f176,tr303,sp303,Tryz.func176,rfl,c303,rfl⟩,?_⟩
  refine List.forall_mem_cons.2 ⟨⟨Tryz.f175,tr304,sp304,Tryz.func175,rfl,c304,rfl⟩,?_⟩
  refine List.forall_mem_cons.2 ⟨⟨Tryz.f178,tr305,sp305,Tryz.func178,rfl,c305,rfl⟩,?_⟩
  refine List.forall_mem_cons.2 ⟨⟨Tryz.f139,tr306,sp306,Tryz.func139,rfl,c306,rfl⟩,?_⟩
  refine List.forall_mem_cons.2 ⟨⟨Tryz.f89,tr309,sp309,Tryz.func89,rfl,c309,rfl⟩,?_⟩
  refine List.forall_mem_cons.2 ⟨⟨Tryz.f153,tr310,sp310,Tryz.func153,rfl,c310,rfl⟩,?_⟩
  refine List.forall_mem_cons.2 ⟨⟨Tryz.f106,tr311,sp311,Tryz.func106,rfl,c311,rfl⟩,?_⟩
  refine List.forall_mem_cons.2 ⟨⟨Tryz.f48,tr312,sp312,Tryz.func48,rfl,c312,rfl⟩,?_⟩
  refine List.forall_mem_cons.2 ⟨⟨Tryz.f107,tr313,sp313,Tryz.func107,rfl,c313,rfl⟩,?_⟩
  refine List.forall_mem_cons.2 ⟨⟨Tryz.f91,tr314,sp314,Tryz.func91,rfl,c314,rfl⟩,?_⟩
  refine List.forall_mem_cons.2 ⟨⟨Tryz.f62,tr315,sp315,Tryz.func62,rfl,c315,rfl⟩,?_⟩
  refine List.forall_mem_cons.2 ⟨⟨Tryz.f140,tr316,sp316,Tryz.func140,rfl,c316,rfl⟩,?_⟩
  refine List.forall_mem_cons.2 ⟨⟨Tryz.f108,tr317,sp317,Tryz.func108,rfl,c317,rfl⟩,?_⟩
  refine List.forall_mem_cons.2 ⟨⟨Tryz.f154,tr321,sp321,Tryz.func154,rfl,c321,rfl⟩,?_⟩
  refine List.forall_mem_cons.2 ⟨⟨Tryz.f191,tr331,sp331,Tryz.func191,rfl,c331,rfl⟩,?_⟩
  refine List.forall_mem_cons.2 ⟨⟨Tryz.f138,tr332,sp332,Tryz.func138,rfl,c332,rfl⟩,?_⟩
  refine List.forall_mem_cons.2 ⟨⟨Tryz.f177,tr333,sp333,Tryz.func177,rfl,c333,rfl⟩,?_⟩
  exact List.forall_mem_nil _
theorem tabok:TabOK C tab:=tabOK_of (l:=seatL) (fun _=>rfl) cbody cmixed crows (fun k id sp ps qs h h1 h2 h3=>by cases h; cases h1; exact canon_raw k h2 h3)
end Go.Proofs.YthchhkghjfendaaGreat.Dx
