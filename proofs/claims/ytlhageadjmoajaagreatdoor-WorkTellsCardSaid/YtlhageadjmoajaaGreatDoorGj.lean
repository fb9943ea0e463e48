/- Parts of the walk: Ck. -/
import Derived.Test.YtlhageadjmoajaaGreatDoorGi
import Derived.Test.YtlhageadjmoajaaGreatDoorChecked
import Derived.KernelRfl
set_option maxRecDepth 20000
namespace Go.AM
open Go
section
variable {P : Program}
/-- a table of light code is the program's -/
def AllOK (P : Program) : List (Nat × AFn) → Prop
  | [] => True
  | (i, f) :: l => cFn P i = some f.erase ∧ AllOK P l
theorem AllOK.find : ∀ {l : List (Nat × AFn)}, AllOK P l → ∀ f fn, findFn l f = some fn → cFn P f = some fn.erase
  | [], _, f, fn, h => by simp [findFn] at h
  | (k, g) :: l, ha, f, fn, h => by
    simp only [findFn] at h
    split at h
    · rename_i hk
      have := Nat.eq_of_beq_eq_true hk
      subst this
      cases h
      exact ha.1
    · exact AllOK.find ha.2 f fn h
theorem EnvOK.of_table {l : List (Nat × AFn)} (h : AllOK P l) : EnvOK P ⟨fun _ => none, findFn l⟩ :=
  ⟨h.find, fun f b g hc => by simp at hc, fun f ro C hc => by simp at hc⟩
end
end Go.AM
namespace Go.Proofs.YtlhageadjmoajaaGreatDoor.A
open Go Go.AM Go.Proofs
theorem k3:cFn Tryz.prog 3=some c3.erase:=by kernel_rfl
theorem k10:cFn Tryz.prog 10=some c10.erase:=by kernel_rfl
theorem k11:cFn Tryz.prog 11=some c11.erase:=by kernel_rfl
theorem k12:cFn Tryz.prog 12=some c12.erase:=by kernel_rfl
theorem k13:cFn Tryz.prog 13=some c13.erase:=by kernel_rfl
theorem k14:cFn Tryz.prog 14=some c14.erase:=by kernel_rfl
theorem k15:cFn Tryz.prog 15=some c15.erase:=by kernel_rfl
theorem k16:cFn Tryz.prog 16=some c16.erase:=by kernel_rfl
theorem k21:cFn Tryz.prog 21=some c21.erase:=by kernel_rfl
theorem k22:cFn Tryz.prog 22=some c22.erase:=by kernel_rfl
theorem k27:cFn Tryz.prog 27=some c27.erase:=by kernel_rfl
theorem k28:cFn Tryz.prog 28=some c28.erase:=by kernel_rfl
theorem k48:cFn Tryz.prog 48=some c48.erase:=by kernel_rfl
theorem k49:cFn Tryz.prog 49=some c49.erase:=by kernel_rfl
theorem k50:cFn Tryz.prog 50=some c50.erase:=by kernel_rfl
theorem k51:cFn Tryz.prog 51=some c51.erase:=by kernel_rfl
theorem k52:cFn Tryz.prog 52=some c52.erase:=by kernel_rfl
theorem k53:cFn Tryz.prog 53=some c53.erase:=by kernel_rfl
theorem k54:cFn Tryz.prog 54=some c54.erase:=by kernel_rfl
theorem k55:cFn Tryz.prog 55=some c55.erase:=by kernel_rfl
theorem k56:cFn Tryz.prog 56=some c56.erase:=by kernel_rfl
theorem k57:cFn Tryz.prog 57=some c57.erase:=by kernel_rfl
theorem k64:cFn Tryz.prog 64=some c64.erase:=by kernel_rfl
theorem k67:cFn Tryz.prog 67=some c67.erase:=by kernel_rfl
theorem k68:cFn Tryz.prog 68=some c68.erase:=by kernel_rfl
theorem k69:cFn Tryz.prog 69=some c69.erase:=by kernel_rfl
theorem k70:cFn Tryz.prog 70=some c70.erase:=by kernel_rfl
theorem k73:cFn Tryz.prog 73=some c73.erase:=by kernel_rfl
theorem k74:cFn Tryz.prog 74=some c74.erase:=by kernel_rfl
theorem k77:cFn Tryz.prog 77=some c77.erase:=by kernel_rfl
theorem k78:cFn Tryz.prog 78=some c78.erase:=by kernel_rfl
theorem k79:cFn Tryz.prog 79=some c79.erase:=by kernel_rfl
theorem k80:cFn Tryz.prog 80=some c80.erase:=by kernel_rfl
theorem k81:cFn Tryz.prog 81=some c81.erase:=by kernel_rfl
theorem k82:cFn Tryz.prog 82=some c82.erase:=by kernel_rfl
theorem k83:cFn Tryz.prog 83=some c83.erase:=by kernel_rfl
theorem k84:cFn Tryz.prog 84=some c84.erase:=by kernel_rfl
theorem k85:cFn Tryz.prog 85=some c85.erase:=by kernel_rfl
theorem k86:cFn Tryz.prog 86=some c86.erase:=by kernel_rfl
theorem k112:cFn Tryz.prog 112=some c112.erase:=by kernel_rfl
theorem k113:cFn Tryz.prog 113=some c113.erase:=by kernel_rfl
theorem k114:cFn Tryz.prog 114=some c114.erase:=by kernel_rfl
theorem k115:cFn Tryz.prog 115=some c115.erase:=by kernel_rfl
theorem k116:cFn Tryz.prog 116=some c116.erase:=by kernel_rfl
theorem k117:cFn Tryz.prog 117=some c117.erase:=by kernel_rfl
theorem k121:cFn Tryz.prog 121=some c121.erase:=by kernel_rfl
theorem k122:cFn Tryz.prog 122=some c122.erase:=by kernel_rfl
theorem k124:cFn Tryz.prog 124=some c124.erase:=by kernel_rfl
theorem k125:cFn Tryz.prog 125=some c125.erase:=by kernel_rfl
theorem k126:cFn Tryz.prog 126=some c126.erase:=by kernel_rfl
theorem k127:cFn Tryz.prog 127=some c127.erase:=by kernel_rfl
theorem k128:cFn Tryz.prog 128=some c128.erase:=by kernel_rfl
theorem k129:cFn Tryz.prog 129=some c129.erase:=by kernel_rfl
theorem k130:cFn Tryz.prog 130=some c130.erase:=by kernel_rfl
theorem k131:cFn Tryz.prog 131=some c131.erase:=by kernel_rfl
theorem k132:cFn Tryz.prog 132=some c132.erase:=by kernel_rfl
theorem k133:cFn Tryz.prog 133=some c133.erase:=by kernel_rfl
theorem k134:cFn Tryz.prog 134=some c134.erase:=by kernel_rfl
theorem k137:cFn Tryz.prog 137=some c137.erase:=by kernel_rfl
theorem k138:cFn Tryz.prog 138=some c138.erase:=by kernel_rfl
theorem k139:cFn Tryz.prog 139=some c139.erase:=by kernel_rfl
theorem k140:cFn Tryz.prog 140=some c140.erase:=by kernel_rfl
theorem k141:cFn Tryz.prog 141=some c141.erase:=by kernel_rfl
theorem k142:cFn Tryz.prog 142=some c142.erase:=by kernel_rfl
theorem k143:cFn Tryz.prog 143=some c143.erase:=by kernel_rfl
theorem k144:cFn Tryz.prog 144=some c144.erase:=by kernel_rfl
theorem k145:cFn Tryz.prog 145=some c145.erase:=by kernel_rfl
theorem k146:cFn Tryz.prog 146=some c146.erase:=by kernel_rfl
theorem k147:cFn Tryz.prog 147=some c147.erase:=by kernel_rfl
theorem k148:cFn Tryz.prog 148=some c148.erase:=by kernel_rfl
theorem k149:cFn Tryz.prog 149=some c149.erase:=by kernel_rfl
theorem k150:cFn Tryz.prog 150=some c150.erase:=by kernel_rfl
theorem k151:cFn Tryz.prog 151=some c151.erase:=by kernel_rfl
theorem k152:cFn Tryz.prog 152=some c152.erase:=by kernel_rfl
theorem k153:cFn Tryz.prog 153=some c153.erase:=by kernel_rfl
theorem k154:cFn Tryz.prog 154=some c154.erase:=by kernel_rfl
theorem k155:cFn Tryz.prog 155=some c155.erase:=by kernel_rfl
theorem k156:cFn Tryz.prog 156=some c156.erase:=by kernel_rfl
theorem k157:cFn Tryz.prog 157=some c157.erase:=by kernel_rfl
theorem k158:cFn Tryz.prog 158=some c158.erase:=by kernel_rfl
theorem k159:cFn Tryz.prog 159=some c159.erase:=by kernel_rfl
theorem k160:cFn Tryz.prog 160=some c160.erase:=by kernel_rfl
theorem k162:cFn Tryz.prog 162=some c162.erase:=by kernel_rfl
theorem k169:cFn Tryz.prog 169=some c169.erase:=by kernel_rfl
theorem k179:cFn Tryz.prog 179=some c179.erase:=by kernel_rfl
theorem k180:cFn Tryz.prog 180=some c180.erase:=by kernel_rfl
theorem k183:cFn Tryz.prog 183=some c183.erase:=by kernel_rfl
theorem k184:cFn Tryz.prog 184=some c184.erase:=by kernel_rfl
theorem k185:cFn Tryz.prog 185=some c185.erase:=by kernel_rfl
theorem k186:cFn Tryz.prog 186=some c186.erase:=by kernel_rfl
theorem k187:cFn Tryz.prog 187=some c187.erase:=by kernel_rfl
theorem k188:cFn Tryz.prog 188=some c188.erase:=by kernel_rfl
theorem k189:cFn Tryz.prog 189=some c189.erase:=by kernel_rfl
theorem k190:cFn Tryz.prog 190=some c190.erase:=by kernel_rfl
theorem k191:cFn Tryz.prog 191=some c191.erase:=by kernel_rfl
theorem k192:cFn Tryz.prog 192=some c192.erase:=by kernel_rfl
theorem k193:cFn Tryz.prog 193=some c193.erase:=by kernel_rfl
theorem k194:cFn Tryz.prog 194=some c194.erase:=by kernel_rfl
theorem k195:cFn Tryz.prog 195=some c195.erase:=by kernel_rfl
theorem k196:cFn Tryz.prog 196=some c196.erase:=by kernel_rfl
theorem k197:cFn Tryz.prog 197=some c197.erase:=by kernel_rfl
theorem k198:cFn Tryz.prog 198=some c198.erase:=by kernel_rfl
theorem k199:cFn Tryz.prog 199=some c199.erase:=by kernel_rfl
theorem k200:cFn Tryz.prog 200=some c200.erase:=by kernel_rfl
theorem k201:cFn Tryz.prog 201=some c201.erase:=by kernel_rfl
theorem k202:cFn Tryz.prog 202=some c202.erase:=by kernel_rfl
theorem k203:cFn Tryz.prog 203=some c203.erase:=by kernel_rfl
theorem k204:cFn Tryz.prog 204=some c204.erase:=by kernel_rfl
theorem k205:cFn Tryz.prog 205=some c205.erase:=by kernel_rfl
theorem k206:cFn Tryz.prog 206=some c206.erase:=by kernel_rfl
theorem k207:cFn Tryz.prog 207=some c207.erase:=by kernel_rfl
theorem k208:cFn Tryz.prog 208=some c208.erase:=by kernel_rfl
theorem k209:cFn Tryz.prog 209=some c209.erase:=by kernel_rfl
theorem k210:cFn Tryz.prog 210=some c210.erase:=by kernel_rfl
theorem k212:cFn Tryz.prog 212=some c212.erase:=by kernel_rfl
theorem k213:cFn Tryz.prog 213=some c213.erase:=by kernel_rfl
theorem k214:cFn Tryz.prog 214=some c214.erase:=by kernel_rfl
theorem k215:cFn Tryz.prog 215=some c215.erase:=by kernel_rfl
theorem k216:cFn Tryz.prog 216=some c216.erase:=by kernel_rfl
theorem k217:cFn Tryz.prog 217=some c217.erase:=by kernel_rfl
theorem k218:cFn Tryz.prog 218=some c218.erase:=by kernel_rfl
theorem k219:cFn Tryz.prog 219=some c219.erase:=by kernel_rfl
theorem k220:cFn Tryz.prog 220=some c220.erase:=by kernel_rfl
theorem k221:cFn Tryz.prog 221=some c221.erase:=by kernel_rfl
theorem k222:cFn Tryz.prog 222=some c222.erase:=by kernel_rfl
theorem k223:cFn Tryz.prog 223=some c223.erase:=by kernel_rfl
theorem k224:cFn Tryz.prog 224=some c224.erase:=by kernel_rfl
theorem k225:cFn Tryz.prog 225=some c225.erase:=by kernel_rfl
theorem k226:cFn Tryz.prog 226=some c226.erase:=by kernel_rfl
theorem k227:cFn Tryz.prog 227=some c227.erase:=by kernel_rfl
theorem k228:cFn Tryz.prog 228=some c228.erase:=by kernel_rfl
theorem k231:cFn Tryz.prog 231=some c231.erase:=by kernel_rfl
theorem k238:cFn Tryz.prog 238=some c238.erase:=by kernel_rfl
theorem k239:cFn Tryz.prog 239=some c239.erase:=by kernel_rfl
theorem k240:cFn Tryz.prog 240=some c240.erase:=by kernel_rfl
theorem k241:cFn Tryz.prog 241=some c241.erase:=by kernel_rfl
theorem k242:cFn Tryz.prog 242=some c242.erase:=by kernel_rfl
theorem k243:cFn Tryz.prog 243=some c243.erase:=by kernel_rfl
theorem k244:cFn Tryz.prog 244=some c244.erase:=by kernel_rfl
theorem k245:cFn Tryz.prog 245=some c245.erase:=by kernel_rfl
theorem k246:cFn Tryz.prog 246=some c246.erase:=by kernel_rfl
theorem k247:cFn Tryz.prog 247=some c247.erase:=by kernel_rfl
theorem k248:cFn Tryz.prog 248=some c248.erase:=by kernel_rfl
theorem k249:cFn Tryz.prog 249=some c249.erase:=by kernel_rfl
theorem k250:cFn Tryz.prog 250=some c250.erase:=by kernel_rfl
theorem k251:cFn Tryz.prog 251=some c251.erase:=by kernel_rfl
theorem k252:cFn Tryz.prog 252=some c252.erase:=by kernel_rfl
theorem k253:cFn Tryz.prog 253=some c253.erase:=by kernel_rfl
theorem k254:cFn Tryz.prog 254=some c254.erase:=by kernel_rfl
theorem k255:cFn Tryz.prog 255=some c255.erase:=by kernel_rfl
theorem k256:cFn Tryz.prog 256=some c256.erase:=by kernel_rfl
theorem k257:cFn Tryz.prog 257=some c257.erase:=by kernel_rfl
theorem k258:cFn Tryz.prog 258=some c258.erase:=by kernel_rfl
theorem k259:cFn Tryz.prog 259=some c259.erase:=by kernel_rfl
theorem k260:cFn Tryz.prog 260=some c260.erase:=by kernel_rfl
theorem k261:cFn Tryz.prog 261=some c261.erase:=by kernel_rfl
theorem k262:cFn Tryz.prog 262=some c262.erase:=by kernel_rfl
theorem k263:cFn Tryz.prog 263=some c263.erase:=by kernel_rfl
theorem k264:cFn Tryz.prog 264=some c264.erase:=by kernel_rfl
theorem k265:cFn Tryz.prog 265=some c265.erase:=by kernel_rfl
theorem k266:cFn Tryz.prog 266=some c266.erase:=by kernel_rfl
theorem k270:cFn Tryz.prog 270=some c270.erase:=by kernel_rfl
theorem k271:cFn Tryz.prog 271=some c271.erase:=by kernel_rfl
theorem k273:cFn Tryz.prog 273=some c273.erase:=by kernel_rfl
theorem k274:cFn Tryz.prog 274=some c274.erase:=by kernel_rfl
theorem k275:cFn Tryz.prog 275=some c275.erase:=by kernel_rfl
theorem k276:cFn Tryz.prog 276=some c276.erase:=by kernel_rfl
theorem k278:cFn Tryz.prog 278=some c278.erase:=by kernel_rfl
theorem k279:cFn Tryz.prog 279=some c279.erase:=by kernel_rfl
theorem k280:cFn Tryz.prog 280=some c280.erase:=by kernel_rfl
theorem k281:cFn Tryz.prog 281=some c281.erase:=by kernel_rfl
theorem k282:cFn Tryz.prog 282=some c282.erase:=by kernel_rfl
theorem k283:cFn Tryz.prog 283=some c283.erase:=by kernel_rfl
theorem k285:cFn Tryz.prog 285=some c285.erase:=by kernel_rfl
theorem k286:cFn Tryz.prog 286=some c286.erase:=by kernel_rfl
theorem k289:cFn Tryz.prog 289=some c289.erase:=by kernel_rfl
theorem k290:cFn Tryz.prog 290=some c290.erase:=by kernel_rfl
theorem k291:cFn Tryz.prog 291=some c291.erase:=by kernel_rfl
theorem k292:cFn Tryz.prog 292=some c292.erase:=by kernel_rfl
theorem k293:cFn Tryz.prog 293=some c293.erase:=by kernel_rfl
theorem k295:cFn Tryz.prog 295=some c295.erase:=by kernel_rfl
theorem k296:cFn Tryz.prog 296=some c296.erase:=by kernel_rfl
theorem k297:cFn Tryz.prog 297=some c297.erase:=by kernel_rfl
theorem k298:cFn Tryz.prog 298=some c298.erase:=by kernel_rfl
theorem k299:cFn Tryz.prog 299=some c299.erase:=by kernel_rfl
theorem k300:cFn Tryz.prog 300=some c300.erase:=by kernel_rfl
theorem k301:cFn Tryz.prog 301=some c301.erase:=by kernel_rfl
theorem k302:cFn Tryz.prog 302=some c302.erase:=by kernel_rfl
theorem k303:cFn Tryz.prog 303=some c303.erase:=by kernel_rfl
theorem k304:cFn Tryz.prog 304=some c304.erase:=by kernel_rfl
theorem k305:cFn Tryz.prog 305=some c305.erase:=by kernel_rfl
theorem k306:cFn Tryz.prog 306=some c306.erase:=by kernel_rfl
theorem k307:cFn Tryz.prog 307=some c307.erase:=by kernel_rfl
theorem k308:cFn Tryz.prog 308=some c308.erase:=by kernel_rfl
theorem k309:cFn Tryz.prog 309=some c309.erase:=by kernel_rfl
theorem k310:cFn Tryz.prog 310=some c310.erase:=by kernel_rfl
theorem k311:cFn Tryz.prog 311=some c311.erase:=by kernel_rfl
theorem k312:cFn Tryz.prog 312=some c312.erase:=by kernel_rfl
theorem k313:cFn Tryz.prog 313=some c313.erase:=by kernel_rfl
theorem k314:cFn Tryz.prog 314=some c314.erase:=by kernel_rfl
theorem k315:cFn Tryz.prog 315=some c315.erase:=by kernel_rfl
theorem k316:cFn Tryz.prog 316=some c316.erase:=by kernel_rfl
theorem k317:cFn Tryz.prog 317=some c317.erase:=by kernel_rfl
theorem k318:cFn Tryz.prog 318=some c318.erase:=by kernel_rfl
theorem k319:cFn Tryz.prog 319=some c319.erase:=by kernel_rfl
theorem k320:cFn Tryz.prog 320=some c320.erase:=by kernel_rfl
theorem k321:cFn Tryz.prog 321=some c321.erase:=by kernel_rfl
theorem k322:cFn Tryz.prog 322=some c322.erase:=by kernel_rfl
theorem k323:cFn Tryz.prog 323=some c323.erase:=by kernel_rfl
theorem k324:cFn Tryz.prog 324=some c324.erase:=by kernel_rfl
theorem k325:cFn Tryz.prog 325=some c325.erase:=by kernel_rfl
theorem k326:cFn Tryz.prog 326=some c326.erase:=by kernel_rfl
theorem k327:cFn Tryz.prog 327=some c327.erase:=by kernel_rfl
theorem k328:cFn Tryz.prog 328=some c328.erase:=by kernel_rfl
theorem k329:cFn Tryz.prog 329=some c329.erase:=by kernel_rfl
theorem k330:cFn Tryz.prog 330=some c330.erase:=by kernel_rfl
theorem k331:cFn Tryz.prog 331=some c331.erase:=by kernel_rfl
theorem k333:cFn Tryz.prog 333=some c333.erase:=by kernel_rfl
theorem k334:cFn Tryz.prog 334=some c334.erase:=by kernel_rfl
theorem k335:cFn Tryz.prog 335=some c335.erase:=by kernel_rfl
theorem k336:cFn Tryz.prog 336=some c336.erase:=by kernel_rfl
theorem k337:cFn Tryz.prog 337=some c337.erase:=by kernel_rfl
theorem k338:cFn Tryz.prog 338=some c338.erase:=by kernel_rfl
theorem k339:cFn Tryz.prog 339=some c339.erase:=by kernel_rfl
theorem tableOK:AllOK Tryz.prog table:=⟨k3,k10,k11,k12,k13,k14,k15,k16,k21,k22,k27,k28,k48,k49,k50,k51,k52,k53,k54,k55,k56,k57,k64,k67,k68,k69,k70,k73,k74,k77,k78,k79,k80,k81,k82,k83,k84,k85,k86,k112,k113,k114,k115,k116,k117,k121,k122,k124,k125,k126,k127,k128,k129,k130,k131,k132,k133,k134,k137,k138,k139,k140,k141,k142,k143,k144,k145,k146,k147,k148,k149,k150,k151,k152,k153,k154,k155,k156,k157,k158,k159,k160,k162,k169,k179,k180,k183,k184,k185,k186,k187,k188,k189,k190,k191,k192,k193,k194,k195,k196,k197,k198,k199,k200,k201,k202,k203,k204,k205,k206,k207,k208,k209,k210,k212,k213,k214,k215,k216,k217,k218,k219,k220,k221,k222,k223,k224,k225,k226,k227,k228,k231,k238,k239,k240,k241,k242,k243,k244,k245,k246,k247,k248,k249,k250,k251,k252,k253,k254,k255,k256,k257,k258,k259,k260,k261,k262,k263,k264,k265,k266,k270,k271,k273,k274,k275,k276,k278,k279,k280,k281,k282,k283,k285,k286,k289,k290,k291,k292,k293,k295,k296,k297,k298,k299,k300,k301,k302,k303,k304,k305,k306,k307,k308,k309,k310,k311,k312,k313,k314,k315,k316,k317,k318,k319,k320,k321,k322,k323,k324,k325,k326,k327,k328,k329,k330,k331,k333,k334,k335,k336,k337,k338,k339,trivial⟩
theorem mixed:Tryz.prog.follows .mixedOrders=true:=by kernel_rfl
end Go.Proofs.YtlhageadjmoajaaGreatDoor.A
