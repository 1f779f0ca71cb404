/- Own work: part 52 of the proof of FnEvents. -/
import Derived.Test.YtfdnolfnbmnafaaGreatP51
import Derived.Test.YtfdnolfnbmnafaaGreatProg
import Derived.KernelRfl
set_option linter.unusedSimpArgs false
set_option linter.unusedVariables false
namespace Go.Eng.T
open Go.Proofs
set_option maxRecDepth 100000
def AMB:List (Option Nat):=[none,none,none,none,none,none,none,none,none,none,none,none,none,none,none,none,none,none,none,none,none,none,some 97,none,none,none,none,none,none,none,none,none,none,none,none,none,none,none,some 49,none,none,some 31,none,none,some 33,none,none,none,none,none,none,none,none,none,none,none,none,none,none,none,none,none,none,none,none,some 165,some 166,some 135,none,none,some 159,some 132,some 55,none,some 121,some 123,none,none,some 124,none,some 122,none,some 182,none,none,none,none,none,none,none,none,none,none,none,none,some 211,none,none,none,none,none,some 127,some 128,some 53,none,none,some 8,some 21,some 10,some 12,some 14,some 16,some 23,some 18,some 68,none,none,some 50,none,none,none,none,none,some 63,some 197,none,none,some 56,none,none,none,none,none,none,none,none,none,none,none,none,none,some 207,some 133,some 134,some 136,some 180,some 181,some 183,some 184,some 185,none,none,some 186,none,none,some 194,some 218,none,none,some 156,none,none,none,none,none,none,some 193,some 219,some 220,none,none,none,some 67,some 51,some 52,some 54,some 75,some 58,some 57,some 59,some 60,some 62,some 64,some 66,some 19,none,none,none,some 76,some 140,some 141,none,none,some 137,some 138,none,none,some 144,none,none,none,none,none,none,none,none,none,some 227,some 246,some 247,some 248,some 249,some 191,some 190,some 192,some 217,none,some 221,none,none,none,none,some 342,some 313,some 251,none,none,some 129,some 130,some 131,some 139,some 142,some 143,some 145,some 69,some 70,some 71,some 73,some 72,some 74,some 282,none,some 196,none,none,none,none,none,none,none,some 266,some 229,some 228,some 230,some 231,none,some 368,none,some 345,none,some 367,some 188,some 187,some 189,some 195,some 198,some 202,some 201,some 147,some 146,some 149,some 150,some 77,some 322,some 256,none,none,none,none,some 204,some 267,some 268,some 269,some 270,some 271,some 302,some 306,some 222,some 223,some 224,some 225,some 226,some 252,some 254,some 285,some 325,some 326,some 327,some 293,none,some 303,some 304,some 305,some 307,some 308,some 310,some 311,some 309,some 312,some 314,some 315,some 316,some 317,some 318,some 253,some 255,some 257,some 258,some 259,some 260,some 261,some 262,some 264,some 263,some 265,some 357,some 359,some 358,some 341,some 344,some 343,some 347,some 346,some 348,some 349,some 351,some 350,some 352,some 354,some 353,some 281,some 284,some 283,some 286,none,some 289,some 290,some 288,some 291,some 292,some 294,some 296,some 295,some 299,some 298,some 365,some 366,some 80,some 321,some 323,some 324,some 329,some 328,none,some 331,some 333,some 332,some 334,some 335,some 336,some 337,some 356,some 355,some 360,some 361,some 362,none,some 34,none,none,none,none,none,some 29,none,none,none,none,none,some 151,none,none,none,some 148,none,none,none,none,none,none,none,none,none,none,some 245,some 203,some 152,none,none,none,none,none,none,none,none,none,none,none,none,some 363,none,none,none,none,none,none,none,none,none,none,none,none,none,none,none,none,none,none,none,none,none,none,none,none,none,none,none,none,none,none,none,none,none,none,none,none,none,none,none,none,some 6,none,none,none,none,none,none,none,none,none,none,none,none,some 45,some 47,none,none,none,some 48,some 88,none,some 61,none,none,some 89,none,some 126,some 157,some 158,some 160,some 205,none,some 90,some 206,some 125,none,none,none,none,none,some 25,some 81,some 82,some 154,some 153,some 83,some 84,some 85,some 155,some 86,some 87,none,none,none,none,none,none,none,none,none,none,none,some 26,none,none,none,none,none,none,none,none,none,some 4,some 27,some 28,some 30,some 32,none,none,some 46,none,none,none,none,none,none,none,none,none,none,none,none,none,none,none,none,none,none,none,none,none,none,none,none,none]
def Ah:Nat→Option FuncId:=fun g=>AMB.getD g none
theorem ACK:Tryz.prog.follows .mixedOrders=true:=by kernel_rfl
theorem hFl:AMB.all (fun o=>match o with | some f=>okF Tryz.prog f | none=>true)=true:=by kernel_rfl
theorem hF:∀g f,Ah g=some f→okF Tryz.prog f=true:=by
 intro g f h
 have:=List.all_eq_true.1 hFl (some f) (by
  unfold Ah at h
  rw[List.getD_eq_getElem?_getD]at h
  cases hg:AMB[g]? with
  | none=>simp[hg]at h
  | some o=>simp[hg]at h;subst h;exact List.mem_of_getElem? hg)
 exact this
variable {G0:Gl}
abbrev DE (G0:Gl):Dn:=Den Tryz.prog Ah G0
theorem lk {g:Nat} {f:FuncId} {fn:Func} {st:List Tmp} {sf:Bp} (hg:Ah g=some f) (hfn:Tryz.prog.funcs[f]? =some fn) (hm:Bq Tryz.prog Ah st sf fn=true) {a:List V} {gi:List O} {r:V} {o:List O}
 (h:Body (DE G0) sf a gi r o):(DE G0) g a gi r o:=
 AGY ACK (fun _ _ _ _ _ h=>h) hF (fun id hid=>by rw[hg]at hid;cases hid;exact hfn) hm h
theorem AUI:Bq Tryz.prog Ah AUj ASj Tryz.f6=true:=by kernel_rfl
theorem AT5:Bq Tryz.prog Ah ATI AP5 Tryz.f45=true:=by kernel_rfl
theorem ATP:Bq Tryz.prog Ah ATt AQg Tryz.f126=true:=by kernel_rfl
theorem ATA:Bq Tryz.prog Ah ASD AP3 Tryz.f48=true:=by kernel_rfl
theorem ATS:Bq Tryz.prog Ah ATr AQh Tryz.f47=true:=by kernel_rfl
theorem Avv:Bq Tryz.prog Ah As7 Aa8 Tryz.f156=true:=by kernel_rfl
theorem ATc:Bq Tryz.prog Ah ASC AP0 Tryz.f157=true:=by kernel_rfl
theorem AT4:Bq Tryz.prog Ah ATW AQy Tryz.f61=true:=by kernel_rfl
theorem AS1:Bq Tryz.prog Ah ASN APU Tryz.f205=true:=by kernel_rfl
theorem ATv:Bq Tryz.prog Ah ASr AP1 Tryz.f160=true:=by kernel_rfl
theorem ATs:Bq Tryz.prog Ah ASA APX Tryz.f125=true:=by kernel_rfl
theorem ATi:Bq Tryz.prog Ah ASR AP2 Tryz.f206=true:=by kernel_rfl
theorem ATx:Bq Tryz.prog Ah ASI APW Tryz.f158=true:=by kernel_rfl
theorem Ar3:Bq Tryz.prog Ah AqD Y8 Tryz.f165=true:=by kernel_rfl
theorem AoZ:Bq Tryz.prog Ah Ak9 Ww Tryz.f166=true:=by kernel_rfl
theorem Ajf:Bq Tryz.prog Ah Ag5 RV Tryz.f135=true:=by kernel_rfl
theorem AoE:Bq Tryz.prog Ah Al1 WV Tryz.f97=true:=by kernel_rfl
theorem Ay4:Bq Tryz.prog Ah AwG AeF Tryz.f132=true:=by kernel_rfl
theorem Afk:Bq Tryz.prog Ah AdW QY Tryz.f266=true:=by kernel_rfl
theorem AsJ:Bq Tryz.prog Ah Arn Zn Tryz.f221=true:=by kernel_rfl
theorem Awv:Bq Tryz.prog Ah AsO AaJ Tryz.f186=true:=by kernel_rfl
theorem Aev:Bq Tryz.prog Ah Ab6 Pb Tryz.f246=true:=by kernel_rfl
theorem AfY:Bq Tryz.prog Ah AeN Ql Tryz.f227=true:=by kernel_rfl
theorem ATa:Bq Tryz.prog Ah ASB AQD Tryz.f247=true:=by kernel_rfl
theorem AgV:Bq Tryz.prog Ah Adu Qx Tryz.f248=true:=by kernel_rfl
theorem AiM:Bq Tryz.prog Ah AgR Sd Tryz.f180=true:=by kernel_rfl
theorem Awt:Bq Tryz.prog Ah AtI AaK Tryz.f193=true:=by kernel_rfl
theorem Aot:Bq Tryz.prog Ah AkR Wt Tryz.f211=true:=by kernel_rfl
theorem AkN:Bq Tryz.prog Ah Ajl Vi Tryz.f251=true:=by kernel_rfl
theorem AgZ:Bq Tryz.prog Ah AdT PY Tryz.f220=true:=by kernel_rfl
theorem ASF:Bq Tryz.prog Ah ASc AQm Tryz.f249=true:=by kernel_rfl
theorem AS3:Bq Tryz.prog Ah ASo AQC Tryz.f207=true:=by kernel_rfl
theorem ASv:Bq Tryz.prog Ah AR6 AQr Tryz.f159=true:=by kernel_rfl
theorem ASx:Bq Tryz.prog Ah AR9 APH Tryz.f88=true:=by kernel_rfl
theorem AXz:Bq Tryz.prog Ah AXm AVF Tryz.f90=true:=by kernel_rfl
theorem AXo:Bq Tryz.prog Ah AXi AU5 Tryz.f89=true:=by kernel_rfl
theorem AWP:Bq Tryz.prog Ah AWD AUE Tryz.f26=true:=by kernel_rfl
theorem AlF:Bq Tryz.prog Ah AjL Ux Tryz.f67=true:=by kernel_rfl
theorem AcJ:Bq Tryz.prog Ah Aa0 NH Tryz.f128=true:=by kernel_rfl
theorem Ac6:Bq Tryz.prog Ah AcE OQ Tryz.f127=true:=by kernel_rfl
theorem Ahb:Bq Tryz.prog Ah AdO QF Tryz.f53=true:=by kernel_rfl
theorem AhZ:Bq Tryz.prog Ah AeX Sb Tryz.f49=true:=by kernel_rfl
theorem Ao4:Bq Tryz.prog Ah Am5 Xk Tryz.f68=true:=by kernel_rfl
theorem Atu:Bq Tryz.prog Ah Aqr YP Tryz.f50=true:=by kernel_rfl
theorem AdM:Bq Tryz.prog Ah AcK Oo Tryz.f143=true:=by kernel_rfl
theorem Acx:Bq Tryz.prog Ah Aaa Nk Tryz.f202=true:=by kernel_rfl
theorem Ro:Bq Tryz.prog Ah Qa HZ Tryz.f245=true:=by kernel_rfl
theorem OU:Bq Tryz.prog Ah Oh Gv Tryz.f201=true:=by kernel_rfl
theorem Agj:Bq Tryz.prog Ah Ad0 QO Tryz.f145=true:=by kernel_rfl
theorem AqR:Bq Tryz.prog Ah AlG Wy Tryz.f70=true:=by kernel_rfl
theorem AfC:Bq Tryz.prog Ah Adp Qy Tryz.f204=true:=by kernel_rfl
theorem Af2:Bq Tryz.prog Ah Aed Qb Tryz.f149=true:=by kernel_rfl
theorem Av2:Bq Tryz.prog Ah Ato Aam Tryz.f66=true:=by kernel_rfl
theorem Ab0:Bq Tryz.prog Ah Aba Nz Tryz.f150=true:=by kernel_rfl
theorem KX:Bq Tryz.prog Ah KO Er Tryz.f152=true:=by kernel_rfl
theorem Kh:Bq Tryz.prog Ah JR D5 Tryz.f77=true:=by kernel_rfl
theorem Afp:Bq Tryz.prog Ah Aeh QM Tryz.f74=true:=by kernel_rfl
theorem AfH:Bq Tryz.prog Ah Ad5 Qo Tryz.f294=true:=by kernel_rfl
theorem AmY:Bq Tryz.prog Ah Ajm U1 Tryz.f293=true:=by kernel_rfl
theorem AmK:Bq Tryz.prog Ah Ajr UD Tryz.f259=true:=by kernel_rfl
theorem AB7:Bq Tryz.prog Ah AyP Ais Tryz.f298=true:=by kernel_rfl
theorem AzE:Bq Tryz.prog Ah Avd AdB Tryz.f299=true:=by kernel_rfl
theorem Aso:Bq Tryz.prog Ah Aon Yr Tryz.f264=true:=by kernel_rfl
theorem AiC:Bq Tryz.prog Ah AgL R7 Tryz.f260=true:=by kernel_rfl
theorem ApU:Bq Tryz.prog Ah Anj Xc Tryz.f296=true:=by kernel_rfl
theorem KY:Bq Tryz.prog Ah KQ Ew Tryz.f295=true:=by kernel_rfl
theorem AvG:Bq Tryz.prog Ah ArE Aao Tryz.f262=true:=by kernel_rfl
theorem Aok:Bq Tryz.prog Ah AkT WN Tryz.f261=true:=by kernel_rfl
theorem Agx:Bq Tryz.prog Ah Aeu PZ Tryz.f225=true:=by kernel_rfl
theorem AqA:Bq Tryz.prog Ah Amx WE Tryz.f188=true:=by kernel_rfl
theorem Ark:Bq Tryz.prog Ah Al9 WR Tryz.f252=true:=by kernel_rfl
theorem AjG:Bq Tryz.prog Ah Agk Tq Tryz.f254=true:=by kernel_rfl
theorem VA:Bq Tryz.prog Ah Vo Jr Tryz.f151=true:=by kernel_rfl
theorem Sc:Bq Tryz.prog Ah Rw Ib Tryz.f76=true:=by kernel_rfl
theorem AqC:Bq Tryz.prog Ah Amg Wi Tryz.f359=true:=by kernel_rfl
theorem J9:Bq Tryz.prog Ah JU DV Tryz.f358=true:=by kernel_rfl
theorem Awa:Bq Tryz.prog Ah AsU Aan Tryz.f325=true:=by kernel_rfl
theorem Ajq:Bq Tryz.prog Ah Ag3 RJ Tryz.f327=true:=by kernel_rfl
theorem AoC:Bq Tryz.prog Ah Aml Wp Tryz.f285=true:=by kernel_rfl
theorem Alv:Bq Tryz.prog Ah Ai6 UC Tryz.f256=true:=by kernel_rfl
theorem Vy:Bq Tryz.prog Ah Vs Jv Tryz.f80=true:=by kernel_rfl
theorem AkX:Bq Tryz.prog Ah Aji UI Tryz.f356=true:=by kernel_rfl
theorem Gx:Bq Tryz.prog Ah Gu BV Tryz.f355=true:=by kernel_rfl
theorem Aj8:Bq Tryz.prog Ah Aha SB Tryz.f321=true:=by kernel_rfl
theorem Aef:Bq Tryz.prog Ah Acw PD Tryz.f281=true:=by kernel_rfl
theorem AeC:Bq Tryz.prog Ah Acr Pv Tryz.f253=true:=by kernel_rfl
theorem AgD:Bq Tryz.prog Ah Ac7 Qu Tryz.f322=true:=by kernel_rfl
theorem Acd:Bq Tryz.prog Ah AaV Nt Tryz.f282=true:=by kernel_rfl
theorem Abi:Bq Tryz.prog Ah Am1 Q0 Tryz.f140=true:=by kernel_rfl
theorem Ahz:Bq Tryz.prog Ah Ad9 Qc Tryz.f324=true:=by kernel_rfl
theorem Ann:Bq Tryz.prog Ah Ajv Ve Tryz.f284=true:=by kernel_rfl
theorem Adj:Bq Tryz.prog Ah AcD Ol Tryz.f323=true:=by kernel_rfl
theorem AhD:Bq Tryz.prog Ah AeZ R9 Tryz.f283=true:=by kernel_rfl
theorem Abm:Bq Tryz.prog Ah ZU Mw Tryz.f255=true:=by kernel_rfl
theorem AlD:Bq Tryz.prog Ah AjD Vx Tryz.f222=true:=by kernel_rfl
theorem Ami:Bq Tryz.prog Ah Aiq UZ Tryz.f196=true:=by kernel_rfl
theorem Af5:Bq Tryz.prog Ah Aet Qg Tryz.f141=true:=by kernel_rfl
theorem AiS:Bq Tryz.prog Ah Agy Sy Tryz.f361=true:=by kernel_rfl
theorem Ao2:Bq Tryz.prog Ah Alk WB Tryz.f329=true:=by kernel_rfl
theorem AaQ:Bq Tryz.prog Ah ZO MI Tryz.f360=true:=by kernel_rfl
theorem AdU:Bq Tryz.prog Ah Acs Pq Tryz.f328=true:=by kernel_rfl
theorem AcL:Bq Tryz.prog Ah Aat Nr Tryz.f286=true:=by kernel_rfl
theorem Anq:Bq Tryz.prog Ah Aj5 UY Tryz.f336=true:=by kernel_rfl
theorem AtT:Bq Tryz.prog Ah Aq9 Zq Tryz.f258=true:=by kernel_rfl
theorem Aj7:Bq Tryz.prog Ah Ae3 Tv Tryz.f337=true:=by kernel_rfl
theorem AhU:Bq Tryz.prog Ah Af9 SV Tryz.f291=true:=by kernel_rfl
theorem Aft:Bq Tryz.prog Ah Aeb QK Tryz.f334=true:=by kernel_rfl
theorem TG:Bq Tryz.prog Ah RL IK Tryz.f335=true:=by kernel_rfl
theorem Ae1:Bq Tryz.prog Ah Adk Qz Tryz.f289=true:=by kernel_rfl
theorem AeK:Bq Tryz.prog Ah Ab7 Pg Tryz.f290=true:=by kernel_rfl
theorem Ae7:Bq Tryz.prog Ah AeB QR Tryz.f71=true:=by kernel_rfl
theorem ZR:Bq Tryz.prog Ah Zl APk Tryz.f362=true:=by kernel_rfl
theorem Og:Bq Tryz.prog Ah Nw F4 Tryz.f203=true:=by kernel_rfl
theorem MC:Bq Tryz.prog Ah Mc Fb Tryz.f146=true:=by kernel_rfl
theorem AcB:Bq Tryz.prog Ah AaN NA Tryz.f331=true:=by kernel_rfl
theorem ZV:Bq Tryz.prog Ah YV K3 Tryz.f333=true:=by kernel_rfl
theorem Ah4:Bq Tryz.prog Ah Agz R6 Tryz.f332=true:=by kernel_rfl
theorem Alh:Bq Tryz.prog Ah Aiw Uz Tryz.f288=true:=by kernel_rfl
theorem AiE:Bq Tryz.prog Ah Ae4 RQ Tryz.f292=true:=by kernel_rfl
theorem Atn:Bq Tryz.prog Ah An7 Zo Tryz.f257=true:=by kernel_rfl
theorem Al8:Bq Tryz.prog Ah AjY Vj Tryz.f223=true:=by kernel_rfl
theorem Aq6:Bq Tryz.prog Ah Amf WI Tryz.f224=true:=by kernel_rfl
theorem AyN:Bq Tryz.prog Ah AvK AdR Tryz.f187=true:=by kernel_rfl
theorem Aqi:Bq Tryz.prog Ah Am7 Wn Tryz.f129=true:=by kernel_rfl
theorem Asl:Bq Tryz.prog Ah Aps YN Tryz.f51=true:=by kernel_rfl
theorem AjI:Bq Tryz.prog Ah Ahe SL Tryz.f75=true:=by kernel_rfl
theorem Aog:Bq Tryz.prog Ah Alm Wo Tryz.f226=true:=by kernel_rfl
theorem Arq:Bq Tryz.prog Ah AmU WH Tryz.f189=true:=by kernel_rfl
theorem Ays:Bq Tryz.prog Ah Avq Aer Tryz.f130=true:=by kernel_rfl
theorem AoT:Bq Tryz.prog Ah Ak2 WY Tryz.f52=true:=by kernel_rfl
theorem Awc:Bq Tryz.prog Ah ArW Abf Tryz.f131=true:=by kernel_rfl
theorem Ail:Bq Tryz.prog Ah Afl SH Tryz.f54=true:=by kernel_rfl
theorem Ama:Bq Tryz.prog Ah Ah6 Ut Tryz.f8=true:=by kernel_rfl
theorem AcI:Bq Tryz.prog Ah AaC Nl Tryz.f139=true:=by kernel_rfl
theorem Aeg:Bq Tryz.prog Ah Acn O4 Tryz.f58=true:=by kernel_rfl
theorem Aiy:Bq Tryz.prog Ah AgY S9 Tryz.f21=true:=by kernel_rfl
theorem AlP:Bq Tryz.prog Ah AjN UF Tryz.f137=true:=by kernel_rfl
theorem Ans:Bq Tryz.prog Ah AjO U4 Tryz.f138=true:=by kernel_rfl
theorem AjE:Bq Tryz.prog Ah Afg Sq Tryz.f56=true:=by kernel_rfl
theorem Ah3:Bq Tryz.prog Ah Ago Ti Tryz.f57=true:=by kernel_rfl
theorem AjV:Bq Tryz.prog Ah AfO RU Tryz.f59=true:=by kernel_rfl
theorem Ack:Bq Tryz.prog Ah AaB NE Tryz.f60=true:=by kernel_rfl
theorem AhF:Bq Tryz.prog Ah AeS Tj Tryz.f10=true:=by kernel_rfl
theorem Apn:Bq Tryz.prog Ah AlH Wq Tryz.f63=true:=by kernel_rfl
theorem AlW:Bq Tryz.prog Ah Ajn Vg Tryz.f197=true:=by kernel_rfl
theorem Avg:Bq Tryz.prog Ah ArK Aa2 Tryz.f198=true:=by kernel_rfl
theorem AhP:Bq Tryz.prog Ah AgN Tm Tryz.f142=true:=by kernel_rfl
theorem Z9:Bq Tryz.prog Ah Z4 Mq Tryz.f62=true:=by kernel_rfl
theorem Agl:Bq Tryz.prog Ah AdN QU Tryz.f12=true:=by kernel_rfl
theorem Ac8:Bq Tryz.prog Ah Ab8 O9 Tryz.f64=true:=by kernel_rfl
theorem Aht:Bq Tryz.prog Ah Ads Qk Tryz.f14=true:=by kernel_rfl
theorem Api:Bq Tryz.prog Ah Als Xf Tryz.f16=true:=by kernel_rfl
theorem AjW:Bq Tryz.prog Ah Ahn Tn Tryz.f23=true:=by kernel_rfl
theorem Ak3:Bq Tryz.prog Ah AjQ UH Tryz.f18=true:=by kernel_rfl
theorem Agp:Bq Tryz.prog Ah Ad6 P6 Tryz.f31=true:=by kernel_rfl
theorem AjJ:Bq Tryz.prog Ah Agd RY Tryz.f27=true:=by kernel_rfl
theorem AYa:Bq Tryz.prog Ah AXY AXG Tryz.f28=true:=by kernel_rfl
theorem ARY:Bq Tryz.prog Ah ARF APQ Tryz.f147=true:=by kernel_rfl
theorem ASQ:Bq Tryz.prog Ah ASf AQp Tryz.f69=true:=by kernel_rfl
theorem AR7:Bq Tryz.prog Ah ART AQc Tryz.f73=true:=by kernel_rfl
theorem AO0:Bq Tryz.prog Ah AOV AGz Tryz.f148=true:=by kernel_rfl
theorem AOR:Bq Tryz.prog Ah AOQ ADA Tryz.f72=true:=by kernel_rfl
theorem ATq:Bq Tryz.prog Ah ASO AQE Tryz.f19=true:=by kernel_rfl
theorem ARU:Bq Tryz.prog Ah ARJ APR Tryz.f154=true:=by kernel_rfl
theorem AOL:Bq Tryz.prog Ah AOK ABp Tryz.f153=true:=by kernel_rfl
theorem AQZ:Bq Tryz.prog Ah AQQ APj Tryz.f82=true:=by kernel_rfl
theorem AJu:Bq Tryz.prog Ah AJo AtA Tryz.f81=true:=by kernel_rfl
theorem AQ9:Bq Tryz.prog Ah AQV APm Tryz.f83=true:=by kernel_rfl
theorem AR1:Bq Tryz.prog Ah ARG APP Tryz.f155=true:=by kernel_rfl
theorem ARI:Bq Tryz.prog Ah ARo APL Tryz.f85=true:=by kernel_rfl
theorem AOm:Bq Tryz.prog Ah AN5 Awe Tryz.f84=true:=by kernel_rfl
theorem ARK:Bq Tryz.prog Ah ARp APM Tryz.f87=true:=by kernel_rfl
theorem AOg:Bq Tryz.prog Ah ANK At3 Tryz.f86=true:=by kernel_rfl
theorem ARm:Bq Tryz.prog Ah AQ0 APv Tryz.f25=true:=by kernel_rfl
theorem AXp:Bq Tryz.prog Ah AXj AVG Tryz.f29=true:=by kernel_rfl
theorem Ara:Bq Tryz.prog Ah AlO Wh Tryz.f271=true:=by kernel_rfl
theorem Ap5:Bq Tryz.prog Ah AkV WZ Tryz.f231=true:=by kernel_rfl
theorem Ax1:Bq Tryz.prog Ah Aw2 AdH Tryz.f192=true:=by kernel_rfl
theorem AA1:Bq Tryz.prog Ah AAb AjF Tryz.f217=true:=by kernel_rfl
theorem Agw:Bq Tryz.prog Ah AeE QV Tryz.f181=true:=by kernel_rfl
theorem Ajo:Bq Tryz.prog Ah AgG Sl Tryz.f121=true:=by kernel_rfl
theorem Al2:Bq Tryz.prog Ah Ai3 UJ Tryz.f122=true:=by kernel_rfl
theorem AlY:Bq Tryz.prog Ah Ajy Uv Tryz.f194=true:=by kernel_rfl
theorem Ak1:Bq Tryz.prog Ah AhV Uy Tryz.f218=true:=by kernel_rfl
theorem Aif:Bq Tryz.prog Ah Ahm Tc Tryz.f182=true:=by kernel_rfl
theorem AjC:Bq Tryz.prog Ah Ahx Td Tryz.f183=true:=by kernel_rfl
theorem Ajt:Bq Tryz.prog Ah AfB R4 Tryz.f184=true:=by kernel_rfl
theorem Agn:Bq Tryz.prog Ah Aes QX Tryz.f219=true:=by kernel_rfl
theorem Acp:Bq Tryz.prog Ah Abe NF Tryz.f185=true:=by kernel_rfl
theorem Ajz:Bq Tryz.prog Ah Af4 Tw Tryz.f123=true:=by kernel_rfl
theorem Aox:Bq Tryz.prog Ah AmR WW Tryz.f124=true:=by kernel_rfl
theorem ACf:Bq Tryz.prog Ah Ayf AiL Tryz.f230=true:=by kernel_rfl
theorem ApZ:Bq Tryz.prog Ah Al5 Xd Tryz.f191=true:=by kernel_rfl
theorem ACP:Bq Tryz.prog Ah AzO Ah8 Tryz.f353=true:=by kernel_rfl
theorem AxK:Bq Tryz.prog Ah Avi AdZ Tryz.f354=true:=by kernel_rfl
theorem Asv:Bq Tryz.prog Ah ApM ZB Tryz.f318=true:=by kernel_rfl
theorem Aje:Bq Tryz.prog Ah AfP RN Tryz.f315=true:=by kernel_rfl
theorem Asq:Bq Tryz.prog Ah Ape Yv Tryz.f312=true:=by kernel_rfl
theorem AnV:Bq Tryz.prog Ah AmI Wu Tryz.f347=true:=by kernel_rfl
theorem Aqk:Bq Tryz.prog Ah AkS WU Tryz.f316=true:=by kernel_rfl
theorem Av8:Bq Tryz.prog Ah Att Aaj Tryz.f314=true:=by kernel_rfl
theorem Aph:Bq Tryz.prog Ah Ana WK Tryz.f317=true:=by kernel_rfl
theorem AhW:Bq Tryz.prog Ah Ae8 Sn Tryz.f270=true:=by kernel_rfl
theorem AoJ:Bq Tryz.prog Ah AkQ Xi Tryz.f229=true:=by kernel_rfl
theorem Aqg:Bq Tryz.prog Ah AmJ Wx Tryz.f302=true:=by kernel_rfl
theorem Anb:Bq Tryz.prog Ah AiD U6 Tryz.f304=true:=by kernel_rfl
theorem Apy:Bq Tryz.prog Ah AmM WS Tryz.f345=true:=by kernel_rfl
theorem AmF:Bq Tryz.prog Ah Aig U7 Tryz.f306=true:=by kernel_rfl
theorem Aip:Bq Tryz.prog Ah AgH SQ Tryz.f365=true:=by kernel_rfl
theorem AiN:Bq Tryz.prog Ah AgC SS Tryz.f366=true:=by kernel_rfl
theorem Ade:Bq Tryz.prog Ah AbZ O1 Tryz.f341=true:=by kernel_rfl
theorem Adn:Bq Tryz.prog Ah Aci O7 Tryz.f303=true:=by kernel_rfl
theorem Afy:Bq Tryz.prog Ah AdF Qt Tryz.f368=true:=by kernel_rfl
theorem Afq:Bq Tryz.prog Ah AeG QH Tryz.f367=true:=by kernel_rfl
theorem Acv:Bq Tryz.prog Ah Aag NC Tryz.f342=true:=by kernel_rfl
theorem AoG:Bq Tryz.prog Ah AlC WC Tryz.f313=true:=by kernel_rfl
theorem Ak6:Bq Tryz.prog Ah Ai7 U8 Tryz.f344=true:=by kernel_rfl
theorem AiR:Bq Tryz.prog Ah AfF Sm Tryz.f343=true:=by kernel_rfl
theorem Aa4:Bq Tryz.prog Ah ZQ MB Tryz.f305=true:=by kernel_rfl
theorem Amo:Bq Tryz.prog Ah AiY U3 Tryz.f267=true:=by kernel_rfl
theorem Adq:Bq Tryz.prog Ah Acf OC Tryz.f346=true:=by kernel_rfl
theorem Ach:Bq Tryz.prog Ah AaX Nn Tryz.f307=true:=by kernel_rfl
theorem AkU:Bq Tryz.prog Ah Ah5 UL Tryz.f348=true:=by kernel_rfl
theorem AhI:Bq Tryz.prog Ah Af3 Tk Tryz.f308=true:=by kernel_rfl
theorem AgW:Bq Tryz.prog Ah Adi QC Tryz.f352=true:=by kernel_rfl
theorem AeT:Bq Tryz.prog Ah Aea Qj Tryz.f310=true:=by kernel_rfl
theorem Aex:Bq Tryz.prog Ah AbY OD Tryz.f311=true:=by kernel_rfl
theorem Ab9:Bq Tryz.prog Ah AaP NG Tryz.f349=true:=by kernel_rfl
theorem Z5:Bq Tryz.prog Ah Zb Ll Tryz.f351=true:=by kernel_rfl
theorem Akb:Bq Tryz.prog Ah AfK Tg Tryz.f350=true:=by kernel_rfl
theorem AmN:Bq Tryz.prog Ah Aj3 Vv Tryz.f309=true:=by kernel_rfl
theorem Ald:Bq Tryz.prog Ah Aj4 Vk Tryz.f268=true:=by kernel_rfl
theorem Apv:Bq Tryz.prog Ah Amr Wd Tryz.f269=true:=by kernel_rfl
theorem AzV:Bq Tryz.prog Ah AvA Adw Tryz.f228=true:=by kernel_rfl
theorem AqH:Bq Tryz.prog Ah Amu Wj Tryz.f190=true:=by kernel_rfl
theorem ArJ:Bq Tryz.prog Ah AqV YQ Tryz.f133=true:=by kernel_rfl
theorem AoI:Bq Tryz.prog Ah AmX WJ Tryz.f134=true:=by kernel_rfl
theorem Ah2:Bq Tryz.prog Ah Afm Tt Tryz.f136=true:=by kernel_rfl
theorem Alt:Bq Tryz.prog Ah Aio UA Tryz.f55=true:=by kernel_rfl
theorem ASy:Bq Tryz.prog Ah ASe AOX Tryz.f46=true:=by kernel_rfl
theorem AWL:Bq Tryz.prog Ah AWs AUh Tryz.f30=true:=by kernel_rfl
theorem AXl:Bq Tryz.prog Ah AXf AUY Tryz.f32=true:=by kernel_rfl
theorem AXL:Bq Tryz.prog Ah AXF AWC Tryz.f33=true:=by kernel_rfl
theorem AXs:Bq Tryz.prog Ah AXg AVP Tryz.f34=true:=by kernel_rfl
theorem AXB:Bq Tryz.prog Ah AXq AV4 Tryz.f4=true:=by kernel_rfl
theorem AVu:AWb (DE G0 460):=by unfold AWb;intros;refine lk (g:=460) rfl Tryz.func6 AUI ?_;apply AWO (DE G0)<;>assumption
theorem APA:AQP (DE G0 473):=by unfold AQP;intros;refine AWr (R:=Body (DE G0) AP5) (R':=(DE G0) 473) (fun _ _ _ _ h=>lk (g:=473) rfl Tryz.func45 AT5 h) ?_;apply AWh (DE G0)<;>assumption
theorem AUg:ASV (DE G0 486):=by unfold ASV;intros;refine APl (R:=Body (DE G0) AQg) (R':=(DE G0) 486) (fun _ _ _ _ h=>lk (g:=486) rfl Tryz.func126 ATP h) ?_;apply AVT (DE G0)<;>assumption
theorem ALB:AON (DE G0 478):=by unfold AON;intros;refine APl (R:=Body (DE G0) AP3) (R':=(DE G0) 478) (fun _ _ _ _ h=>lk (g:=478) rfl Tryz.func48 ATA h) ?_;apply AVg (DE G0) AUg<;>assumption
theorem AQd:AQL (DE G0 474):=by unfold AQL;intros;refine APl (R:=Body (DE G0) AQh) (R':=(DE G0) 474) (fun _ _ _ _ h=>lk (g:=474) rfl Tryz.func47 ATS h) ?_;apply AVN (DE G0) ALB<;>assumption
theorem Aku:Apu (DE G0 159):=by unfold Apu;intros;refine lk (g:=159) rfl Tryz.func156 Avv ?_;apply ALg (DE G0)<;>assumption
theorem ATJ:ARX (DE G0 487):=by unfold ARX;intros;refine APl (R:=Body (DE G0) AP0) (R':=(DE G0) 487) (fun _ _ _ _ h=>lk (g:=487) rfl Tryz.func157 ATc h) ?_;apply AVw (DE G0) ALB Aku<;>assumption
theorem AP7:AQ1 (DE G0 481):=by unfold AQ1;intros;refine APl (R:=Body (DE G0) AQy) (R':=(DE G0) 481) (fun _ _ _ _ h=>lk (g:=481) rfl Tryz.func61 AT4 h) ?_;apply AV8 (DE G0) ALB<;>assumption
theorem ATF:AR2 (DE G0 490):=by unfold AR2;intros;refine APl (R:=Body (DE G0) APU) (R':=(DE G0) 490) (fun _ _ _ _ h=>lk (g:=490) rfl Tryz.func205 AS1 h) ?_;apply AVf (DE G0) ALB Aku<;>assumption
theorem ARx:ARc (DE G0 489):=by unfold ARc;intros;refine APl (R:=Body (DE G0) AP1) (R':=(DE G0) 489) (fun _ _ _ _ h=>lk (g:=489) rfl Tryz.func160 ATv h) ?_;apply AVz (DE G0) ALB AP7 Aku<;>assumption
theorem AQA:AQn (DE G0 494):=by unfold AQn;intros;refine APl (R:=Body (DE G0) APX) (R':=(DE G0) 494) (fun _ _ _ _ h=>lk (g:=494) rfl Tryz.func125 ATs h) ?_;apply AVE (DE G0) ALB ARx<;>assumption
theorem ATG:ARV (DE G0 493):=by unfold ARV;intros;refine APl (R:=Body (DE G0) AP2) (R':=(DE G0) 493) (fun _ _ _ _ h=>lk (g:=493) rfl Tryz.func206 ATi h) ?_;apply AVx (DE G0) ALB AQA<;>assumption
theorem ATK:AR3 (DE G0 488):=by unfold AR3;intros;refine APl (R:=Body (DE G0) APW) (R':=(DE G0) 488) (fun _ _ _ _ h=>lk (g:=488) rfl Tryz.func158 ATx h) ?_;apply AVr (DE G0) ALB AP7 ATF ATG Aku<;>assumption
theorem Al6:JV (DE G0 65):=by unfold JV;intros;refine lk (g:=65) rfl Tryz.func165 Ar3 ?_;apply AIB (DE G0)<;>assumption
theorem U9:H6 (DE G0 66):=by unfold H6;intros;refine lk (g:=66) rfl Tryz.func166 AoZ ?_;apply AFA (DE G0)<;>assumption
theorem AcU:KJ (DE G0 67):=by unfold KJ;intros;refine lk (g:=67) rfl Tryz.func135 Ajf ?_;apply AAk (DE G0)<;>assumption
theorem Fz:CV (DE G0 22):=by unfold CV;intros;refine lk (g:=22) rfl Tryz.func97 AoE ?_;apply AEs (DE G0) Al6 U9 AcU<;>assumption
theorem FT:TF (DE G0 71):=by unfold TF;intros;refine lk (g:=71) rfl Tryz.func132 Ay4 ?_;apply AMd (DE G0)<;>assumption
theorem QN:Ho (DE G0 250):=by unfold Ho;intros;refine lk (g:=250) rfl Tryz.func266 Afk ?_;apply AtE (DE G0) FT<;>assumption
theorem YG:AbL (DE G0 217):=by unfold AbL;intros;refine lk (g:=217) rfl Tryz.func221 AsJ ?_;apply AIQ (DE G0) FT<;>assumption
theorem Aae:Tx (DE G0 152):=by unfold Tx;intros;refine lk (g:=152) rfl Tryz.func186 Awv ?_;apply AHR (DE G0) FT YG<;>assumption
theorem FY:Co (DE G0 208):=by unfold Co;intros;refine lk (g:=208) rfl Tryz.func246 Aev ?_;apply App (DE G0) FT<;>assumption
theorem Xt:Iq (DE G0 207):=by unfold Iq;intros;refine lk (g:=207) rfl Tryz.func227 AfY ?_;apply AsG (DE G0) FT QN Aae FY<;>assumption
theorem ATM:Ag6 (DE G0 209):=by unfold Ag6;intros;refine lk (g:=209) rfl Tryz.func247 ATa ?_;apply AUJ (DE G0) FT<;>assumption
theorem AoV:NN (DE G0 210):=by unfold NN;intros;refine lk (g:=210) rfl Tryz.func248 AgV ?_;apply Ayn (DE G0) FT<;>assumption
theorem Ku:EP (DE G0 145):=by unfold EP;intros;refine lk (g:=145) rfl Tryz.func180 AiM ?_;apply Avs (DE G0) FT<;>assumption
theorem KG:PN (DE G0 166):=by unfold PN;intros;refine lk (g:=166) rfl Tryz.func193 Awt ?_;apply AKp (DE G0)<;>assumption
theorem AwJ:Rs (DE G0 95):=by unfold Rs;intros;refine lk (g:=95) rfl Tryz.func211 Aot ?_;apply ABG (DE G0)<;>assumption
theorem AqJ:Oc (DE G0 224):=by unfold Oc;intros;refine lk (g:=224) rfl Tryz.func251 AkN ?_;apply Aye (DE G0) KG<;>assumption
theorem L9:EU (DE G0 168):=by unfold EU;intros;refine lk (g:=168) rfl Tryz.func220 AgZ ?_;apply ArQ (DE G0) AqJ FY<;>assumption
theorem ATn:APC (DE G0 211):=by unfold APC;intros;refine lk (g:=211) rfl Tryz.func249 ASF ?_;apply AUB (DE G0) L9 FY<;>assumption
theorem ATX:AP4 (DE G0 141):=by unfold AP4;intros;refine lk (g:=141) rfl Tryz.func207 AS3 ?_;apply AUS (DE G0) Xt FY ATM AoV Ku KG AwJ ATn FT<;>assumption
theorem ATQ:ARg (DE G0 70):=by unfold ARg;intros;refine lk (g:=70) rfl Tryz.func159 ASv ?_;apply AUi (DE G0) Fz ATX<;>assumption
theorem AS8:ARf (DE G0 479):=by unfold ARf;intros;refine APl (R:=Body (DE G0) APH) (R':=(DE G0) 479) (fun _ _ _ _ h=>lk (g:=479) rfl Tryz.func88 ASx h) ?_;apply AUZ (DE G0) ALB Aku ATJ ATK ARx ATQ<;>assumption
theorem AWR:AWo (DE G0 492):=by unfold AWo;intros;refine APl (R:=Body (DE G0) AVF) (R':=(DE G0) 492) (fun _ _ _ _ h=>lk (g:=492) rfl Tryz.func90 AXz h) ?_;apply AXX (DE G0) ALB AQA<;>assumption
theorem AXC:AWA (DE G0 484):=by unfold AWA;intros;refine APl (R:=Body (DE G0) AU5) (R':=(DE G0) 484) (fun _ _ _ _ h=>lk (g:=484) rfl Tryz.func89 AXo h) ?_;apply AXV (DE G0) ALB AWR<;>assumption
theorem AWS:AVs (DE G0 522):=by unfold AVs;intros;refine AP6 (R:=Body (DE G0) AUE) (R':=(DE G0) 522) (fun _ _ _ _ h=>lk (g:=522) rfl Tryz.func26 AWP h) ?_;apply AXw (DE G0) APA ALB AQd AS8 AXC<;>assumption
theorem Ahh:Af6 (DE G0 172):=by unfold Af6;intros;refine lk (g:=172) rfl Tryz.func67 AlF ?_;apply ABL (DE G0)<;>assumption
theorem Aja:JV (DE G0 102):=by unfold JV;intros;refine lk (g:=102) rfl Tryz.func128 AcJ ?_;apply ApJ (DE G0) Ahh<;>assumption
theorem R3:H6 (DE G0 101):=by unfold H6;intros;refine lk (g:=101) rfl Tryz.func127 Ac6 ?_;apply AsC (DE G0)<;>assumption
theorem Z6:KJ (DE G0 103):=by unfold KJ;intros;refine lk (g:=103) rfl Tryz.func53 Ahb ?_;apply Avx (DE G0)<;>assumption
theorem FB:CV (DE G0 38):=by unfold CV;intros;refine lk (g:=38) rfl Tryz.func49 AhZ ?_;apply AzH (DE G0) Aja R3 Z6<;>assumption
theorem FN:TF (DE G0 114):=by unfold TF;intros;refine lk (g:=114) rfl Tryz.func68 Ao4 ?_;apply AFo (DE G0)<;>assumption
theorem O5:VT (DE G0 117):=by unfold VT;intros;refine lk (g:=117) rfl Tryz.func50 Atu ?_;apply AH6 (DE G0) FN<;>assumption
theorem Gc:Co (DE G0 232):=by unfold Co;intros;refine lk (g:=232) rfl Tryz.func143 AdM ?_;apply Aoo (DE G0) FN<;>assumption
theorem AgM:Ue (DE G0 266):=by unfold Ue;intros;refine lk (g:=266) rfl Tryz.func202 Acx ?_;apply Aty (DE G0) FN<;>assumption
theorem Am8:Zf (DE G0) (DE G0 404):=by unfold Zf;intros;refine lk (g:=404) rfl Tryz.func245 Ro ?_;apply AyK (DE G0)<;>assumption
theorem Uw:M7 (DE G0) (DE G0 267):=by unfold M7;intros;refine lk (g:=267) rfl Tryz.func201 OU ?_;apply An9 (DE G0) Am8<;>assumption
theorem JF:J2 (DE G0 233):=by unfold J2;intros;refine lk (g:=233) rfl Tryz.func145 Agj ?_;apply AvL (DE G0) AgM Uw<;>assumption
theorem AsL:Ag6 (DE G0 235):=by unfold Ag6;intros;refine lk (g:=235) rfl Tryz.func70 AqR ?_;apply ACO (DE G0) JF<;>assumption
theorem XC:Ho (DE G0 279):=by unfold Ho;intros;refine lk (g:=279) rfl Tryz.func204 AfC ?_;apply AsH (DE G0) FN<;>assumption
theorem X7:Ru (DE G0 270):=by unfold Ru;intros;refine lk (g:=270) rfl Tryz.func149 Af2 ?_;apply ArX (DE G0) XC Uw<;>assumption
theorem Aa6:Tx (DE G0 183):=by unfold Tx;intros;refine lk (g:=183) rfl Tryz.func66 Av2 ?_;apply AIa (DE G0) FN JF<;>assumption
theorem Ae0:TM (DE G0 271):=by unfold TM;intros;refine lk (g:=271) rfl Tryz.func150 Ab0 ?_;apply Ati (DE G0) Aa6<;>assumption
theorem AdY:QZ (DE G0) (DE G0 406):=by unfold QZ;intros;refine lk (g:=406) rfl Tryz.func152 KX ?_;apply AnU (DE G0)<;>assumption
theorem Z0:Mg (DE G0) (DE G0 272):=by unfold Mg;intros;refine lk (g:=272) rfl Tryz.func77 Kh ?_;apply AfS (DE G0) AdY<;>assumption
theorem XM:Iq (DE G0 239):=by unfold Iq;intros;refine lk (g:=239) rfl Tryz.func74 Afp ?_;apply Ar6 (DE G0) Gc AsL X7 Ae0 Z0 FN<;>assumption
theorem ArD:Afr (DE G0 350):=by unfold Afr;intros;refine lk (g:=350) rfl Tryz.func294 AfH ?_;apply Ay2 (DE G0)<;>assumption
theorem K4:NS (DE G0) (DE G0 298):=by unfold NS;intros;refine lk (g:=298) rfl Tryz.func293 AmY ?_;apply ACh (DE G0)<;>assumption
theorem Aho:Q8 (DE G0 318):=by unfold Q8;intros;refine lk (g:=318) rfl Tryz.func259 AmK ?_;apply ACE (DE G0) ArD K4<;>assumption
theorem Auy:AsZ (DE G0 354):=by unfold AsZ;intros;refine lk (g:=354) rfl Tryz.func298 AB7 ?_;apply AM5 (DE G0) FN<;>assumption
theorem AeL:ZF (DE G0 353):=by unfold ZF;intros;refine lk (g:=353) rfl Tryz.func299 AzE ?_;apply AK4 (DE G0) Auy<;>assumption
theorem AnR:Ac5 (DE G0 322):=by unfold Ac5;intros;refine lk (g:=322) rfl Tryz.func264 Aso ?_;apply ALj (DE G0) AeL Auy<;>assumption
theorem Alq:Ld (DE G0 319):=by unfold Ld;intros;refine lk (g:=319) rfl Tryz.func260 AiC ?_;apply Awr (DE G0) AnR<;>assumption
theorem Awx:AnK (DE G0 351):=by unfold AnK;intros;refine lk (g:=351) rfl Tryz.func296 ApU ?_;apply AI0 (DE G0)<;>assumption
theorem UM:MN (DE G0) (DE G0 352):=by unfold MN;intros;refine lk (g:=352) rfl Tryz.func295 KY ?_;apply ApF (DE G0)<;>assumption
theorem AkD:Tf (DE G0 321):=by unfold Tf;intros;refine lk (g:=321) rfl Tryz.func262 AvG ?_;apply AHn (DE G0) Awx UM<;>assumption
theorem MR:Ia (DE G0 320):=by unfold Ia;intros;refine lk (g:=320) rfl Tryz.func261 Aok ?_;apply AAQ (DE G0) FN AkD JF<;>assumption
theorem AwP:AvJ (DE G0 323):=Azk (k:=263) rfl (fun b o c w=>Go.Eng.Ins.AOt b o c w) (fun b o c v w h=>Go.Eng.Ins.AOw b o c v w h) (fun b o c v w h=>Go.Eng.Ins.AOu b o c v w h)
theorem Axt:AvV (DE G0 324):=AyL (k:=265) rfl Go.Eng.Ins.AOs
theorem Alu:LQ (DE G0 290):=by unfold LQ;intros;refine lk (g:=290) rfl Tryz.func225 Agx ?_;apply AwS (DE G0) Aho Alq MR AkD AnR AwP Axt<;>assumption
theorem Asn:RI (DE G0 261):=by unfold RI;intros;refine lk (g:=261) rfl Tryz.func188 AqA ?_;apply ACn (DE G0) XM Alu<;>assumption
theorem Js:Fe (DE G0 292):=by unfold Fe;intros;refine lk (g:=292) rfl Tryz.func252 Ark ?_;apply AB6 (DE G0) Gc MR<;>assumption
theorem AcS:MS (DE G0 293):=by unfold MS;intros;refine lk (g:=293) rfl Tryz.func254 AjG ?_;apply AxT (DE G0) Aho<;>assumption
theorem AFh:AMr (DE G0 325):=AKS (k:=357) rfl (fun b off n c zs w h1 h2 h3 h4=>Tryz.slices_Max_int b off n c zs w h1 h2 h3 h4)
theorem AzL:AwX (DE G0 389):=by unfold AwX;intros;refine lk (g:=389) rfl Tryz.func151 VA ?_;apply AKo (DE G0)<;>assumption
theorem I8:PN (DE G0 188):=by unfold PN;intros;refine lk (g:=188) rfl Tryz.func76 Sc ?_;apply AAZ (DE G0) AzL<;>assumption
theorem Awi:AnD (DE G0 326):=by unfold AnD;intros;refine lk (g:=326) rfl Tryz.func359 AqC ?_;apply AIq (DE G0) I8 FN<;>assumption
theorem ZT:Md (DE G0) (DE G0 327):=by unfold Md;intros;refine lk (g:=327) rfl Tryz.func358 J9 ?_;apply Agu (DE G0) UM<;>assumption
theorem AzB:Awb (DE G0 295):=by unfold Awb;intros;refine lk (g:=295) rfl Tryz.func325 Awa ?_;apply AKw (DE G0) AFh Awi ZT<;>assumption
theorem Aya:ACy (DE G0 296):=AEO (k:=326) rfl (fun n c w=>Tryz.slices_Clone_int_nil n c w) (fun a c w=>Tryz.slices_Clone_int_zero a c w) (fun b off n c zs w h1 h2 h3=>Tryz.slices_Clone_int b off n c zs w h1 h2 h3)
theorem Ao0:AbJ (DE G0 297):=by unfold AbJ;intros;refine lk (g:=297) rfl Tryz.func327 Ajq ?_;apply ABd (DE G0) I8<;>assumption
theorem ArM:Rx (DE G0 294):=by unfold Rx;intros;refine lk (g:=294) rfl Tryz.func285 AoC ?_;apply ABB (DE G0) Aa6 Js AzB Aya Ao0 K4<;>assumption
theorem PE:Hy (DE G0 274):=by unfold Hy;intros;refine lk (g:=274) rfl Tryz.func256 Alv ?_;apply AzK (DE G0) Js AcS ArM<;>assumption
theorem Ahi:Ih (DE G0 357):=by unfold Ih;intros;refine lk (g:=357) rfl Tryz.func80 Vy ?_;apply AG1 (DE G0)<;>assumption
theorem AnT:Xp (DE G0 371):=by unfold Xp;intros;refine lk (g:=371) rfl Tryz.func356 AkX ?_;apply ACl (DE G0) Ahi<;>assumption
theorem AkW:Y4 (DE G0) (DE G0 372):=by unfold Y4;intros;refine lk (g:=372) rfl Tryz.func355 Gx ?_;apply AzD (DE G0)<;>assumption
theorem AvE:TI (DE G0 358):=by unfold TI;intros;refine lk (g:=358) rfl Tryz.func321 Aj8 ?_;apply AwL (DE G0) AnT AkW<;>assumption
theorem ApH:N8 (DE G0 340):=by unfold N8;intros;refine lk (g:=340) rfl Tryz.func281 Aef ?_;apply AoH (DE G0) Ahi AvE<;>assumption
theorem VO:Ii (DE G0 314):=by unfold Ii;intros;refine lk (g:=314) rfl Tryz.func253 AeC ?_;apply ApV (DE G0) PE ApH<;>assumption
theorem X4:IA (DE G0 273):=by unfold IA;intros;refine lk (g:=273) rfl Tryz.func322 AgD ?_;apply Ate (DE G0)<;>assumption
theorem Ael:Il (DE G0 240):=by unfold Il;intros;refine lk (g:=240) rfl Tryz.func282 Acd ?_;apply AmT (DE G0) Gc X4 PE<;>assumption
theorem Y0:ZH (DE G0 189):=by unfold ZH;intros;refine lk (g:=189) rfl Tryz.func140 Abi ?_;apply ABC (DE G0) I8<;>assumption
theorem Ai1:I9 (DE G0 360):=by unfold I9;intros;refine lk (g:=360) rfl Tryz.func324 Ahz ?_;apply AtV (DE G0) Gc X4 PE<;>assumption
theorem ApS:NU (DE G0 341):=by unfold NU;intros;refine lk (g:=341) rfl Tryz.func284 Ann ?_;apply AxS (DE G0) MR Ai1 VO<;>assumption
theorem Aik:VI (DE G0 359):=by unfold VI;intros;refine lk (g:=359) rfl Tryz.func323 Adj ?_;apply Avj (DE G0) I8<;>assumption
theorem Alp:LD (DE G0 342):=by unfold LD;intros;refine lk (g:=342) rfl Tryz.func283 AhD ?_;apply Au9 (DE G0) Js Y0 Aik K4<;>assumption
theorem Aqv:N9 (DE G0 315):=by unfold N9;intros;refine lk (g:=315) rfl Tryz.func255 Abm ?_;apply Ax0 (DE G0) Ael Y0 ApS Alp<;>assumption
theorem Aqa:NK (DE G0 287):=by unfold NK;intros;refine lk (g:=287) rfl Tryz.func222 AlD ?_;apply Ayw (DE G0) Js VO AcS Aqv<;>assumption
theorem AoD:Oc (DE G0 242):=by unfold Oc;intros;refine lk (g:=242) rfl Tryz.func196 Ami ?_;apply Ayk (DE G0) I8<;>assumption
theorem Me:EU (DE G0 190):=by unfold EU;intros;refine lk (g:=190) rfl Tryz.func141 Af5 ?_;apply Asw (DE G0) AoD Gc<;>assumption
theorem AoM:AbB (DE G0 374):=by unfold AbB;intros;refine lk (g:=374) rfl Tryz.func361 AiS ?_;apply ACb (DE G0) I8<;>assumption
theorem AsE:Pp (DE G0 361):=by unfold Pp;intros;refine lk (g:=361) rfl Tryz.func329 Ao2 ?_;apply ABF (DE G0) AoM K4<;>assumption
theorem AlR:Zw (DE G0 373):=by unfold Zw;intros;refine lk (g:=373) rfl Tryz.func360 AaQ ?_;apply ApW (DE G0) XC<;>assumption
theorem Ag0:Je (DE G0 362):=by unfold Je;intros;refine lk (g:=362) rfl Tryz.func328 AdU ?_;apply Art (DE G0) AlR K4<;>assumption
theorem Au7:VZ (DE G0 343):=by unfold VZ;intros;refine lk (g:=343) rfl Tryz.func286 AcL ?_;apply AFQ (DE G0) Me Js AsE Ag0<;>assumption
theorem Abl:KH (DE G0 369):=by unfold KH;intros;refine lk (g:=369) rfl Tryz.func336 Anq ?_;apply Azb (DE G0) FN MR<;>assumption
theorem TJ:Nb (DE G0 317):=by unfold Nb;intros;refine lk (g:=317) rfl Tryz.func258 AtT ?_;apply AEV (DE G0)<;>assumption
theorem Amh:Yw (DE G0 370):=by unfold Yw;intros;refine lk (g:=370) rfl Tryz.func337 Aj7 ?_;apply AwQ (DE G0) TJ X7<;>assumption
theorem Ala:K6 (DE G0 348):=by unfold K6;intros;refine lk (g:=348) rfl Tryz.func291 AhU ?_;apply Awl (DE G0) Js Abl I8 TJ Y0 Amh<;>assumption
theorem Yl:IB (DE G0 367):=by unfold IB;intros;refine lk (g:=367) rfl Tryz.func334 Aft ?_;apply As3 (DE G0) MR<;>assumption
theorem ABx:AHZ (DE G0 419):=AFJ (k:=363) rfl (fun w=>Go.Eng.Ins.ANG w) (fun n w h1 h2=>Go.Eng.Ins.ANZ n w h1 h2)
theorem Ags:Afs (DE G0 368):=by unfold Afs;intros;refine lk (g:=368) rfl Tryz.func335 TG ?_;apply AHb (DE G0) ABx<;>assumption
theorem AiW:J3 (DE G0 345):=by unfold J3;intros;refine lk (g:=345) rfl Tryz.func289 Ae1 ?_;apply ArV (DE G0) Js Yl Ags<;>assumption
theorem AgQ:Jd (DE G0 346):=by unfold Jd;intros;refine lk (g:=346) rfl Tryz.func290 AeK ?_;apply AqS (DE G0) Abl Yl<;>assumption
theorem Aqj:NN (DE G0 236):=by unfold NN;intros;refine lk (g:=236) rfl Tryz.func71 Ae7 ?_;apply AAc (DE G0) FN<;>assumption
theorem AqQ:Abr (DE G0 375):=by unfold Abr;intros;refine lk (g:=375) rfl Tryz.func362 ZR ?_;apply ACV (DE G0) JF<;>assumption
theorem AcH:Om (DE G0) (DE G0 405):=by unfold Om;intros;refine lk (g:=405) rfl Tryz.func203 Og ?_;apply AlB (DE G0)<;>assumption
theorem Y5:KT (DE G0) (DE G0 269):=by unfold KT;intros;refine lk (g:=269) rfl Tryz.func146 MC ?_;apply AdK (DE G0) AcH<;>assumption
theorem Ac0:M6 (DE G0 364):=by unfold M6;intros;refine lk (g:=364) rfl Tryz.func331 AcB ?_;apply AA6 (DE G0) AqQ Y5<;>assumption
theorem AmH:Lf (DE G0 365):=by unfold Lf;intros;refine lk (g:=365) rfl Tryz.func333 ZV ?_;apply Axm (DE G0) Ac0 AeL<;>assumption
theorem Az9:Aa5 (DE G0 366):=by unfold Aa5;intros;refine lk (g:=366) rfl Tryz.func332 Ah4 ?_;apply AHT (DE G0) Ags AeL<;>assumption
theorem AfE:TV (DE G0 347):=by unfold TV;intros;refine lk (g:=347) rfl Tryz.func288 Alh ?_;apply AFR (DE G0) Aqj Ac0 FN AmH Az9<;>assumption
theorem Alr:Yq (DE G0 349):=by unfold Yq;intros;refine lk (g:=349) rfl Tryz.func292 AiE ?_;apply AwV (DE G0) AfE<;>assumption
theorem AxU:AwT (DE G0 316):=by unfold AwT;intros;refine lk (g:=316) rfl Tryz.func257 Atn ?_;apply AJT (DE G0) Au7 Ala AiW AgQ AfE Alr TJ<;>assumption
theorem AqB:NP (DE G0 288):=by unfold NP;intros;refine lk (g:=288) rfl Tryz.func223 Al8 ?_;apply AAl (DE G0) PE AxU<;>assumption
theorem Atr:Rl (DE G0 289):=by unfold Rl;intros;refine lk (g:=289) rfl Tryz.func224 Aq6 ?_;apply AAT (DE G0) Y0 TJ FN<;>assumption
theorem ABs:AkG (DE G0 262):=by unfold AkG;intros;refine lk (g:=262) rfl Tryz.func187 AyN ?_;apply AJ8 (DE G0) Aqa AqB Atr<;>assumption
theorem AtY:RB (DE G0 227):=by unfold RB;intros;refine lk (g:=227) rfl Tryz.func129 Aqi ?_;apply AA5 (DE G0) XM Asn ABs<;>assumption
theorem Avt:VG (DE G0 173):=by unfold VG;intros;refine lk (g:=173) rfl Tryz.func51 Asl ?_;apply AEZ (DE G0) O5 AtY<;>assumption
theorem Ko:EP (DE G0 176):=by unfold EP;intros;refine lk (g:=176) rfl Tryz.func75 AjI ?_;apply Au5 (DE G0) FN<;>assumption
theorem AtU:Rm (DE G0 291):=by unfold Rm;intros;refine lk (g:=291) rfl Tryz.func226 Aog ?_;apply ACt (DE G0) FN<;>assumption
theorem Atd:Rb (DE G0 263):=by unfold Rb;intros;refine lk (g:=263) rfl Tryz.func189 Arq ?_;apply ABO (DE G0) Ko FN AtU<;>assumption
theorem Aqz:Ac3 (DE G0 228):=by unfold Ac3;intros;refine lk (g:=228) rfl Tryz.func130 Ays ?_;apply AK2 (DE G0) Atd<;>assumption
theorem Atm:Rj (DE G0 174):=by unfold Rj;intros;refine lk (g:=174) rfl Tryz.func52 AoT ?_;apply ABE (DE G0) O5 Aqz I8<;>assumption
theorem ZG:GD (DE G0 229):=by unfold GD;intros;refine lk (g:=229) rfl Tryz.func131 Awc ?_;apply AKa (DE G0) I8<;>assumption
theorem Alw:GD (DE G0 175):=by unfold GD;intros;refine lk (g:=175) rfl Tryz.func54 Ail ?_;apply Av4 (DE G0) ZG<;>assumption
theorem AoF:NW (DE G0 106):=by unfold NW;intros;refine lk (g:=106) rfl Tryz.func8 Ama ?_;apply AAt (DE G0) FB O5 Avt Atm Z6 Alw<;>assumption
theorem Ave:ADY (DE G0 264):=fun l i v hl hi=>ABH (Ah:=Ah) (g:=264) (k:=195) (t3:=Tryz.AcP.t 3) rfl (fun b off n c i vb voff m vc cs vs w h1 h2 h3 h4 h5 h6 h7 h8 h9 h10 h11 h12 h13 tA tB kA kB h14 h15 h16 h17 h18=>Any2.slices_Insert_int_shift Tryz.AbT b off n c i vb voff m vc cs vs w h1 h2 h3 h4 h5 h6 h7 h8 h9 h10 h11 h12 h13 tA tB kA kB h14 h15 h16 h17 h18) (fun b off n c vb voff m vc vs w h1 h2 h3 h4 h5 h6 h7 h8=>Any2.slices_Insert_int_end_room Tryz.AbT b off n c vb voff m vc vs w h1 h2 h3 h4 h5 h6 h7 h8) (fun base n c vb voff m vc cs vs w h1 h2 h3 h4 h5 h6 h7 h8 h9 h10=>Any2.slices_Insert_int_end_grow Tryz.AbT base n c vb voff m vc cs vs w h1 h2 h3 h4 h5 h6 h7 h8 h9 h10) (fun b off n c i vb voff m vc cs vs w h1 h2 h3 h4 h5 h6 h7 h8 h9 h10 h11=>Any2.slices_Insert_int_grow Tryz.AbT b off n c i vb voff m vc cs vs w h1 h2 h3 h4 h5 h6 h7 h8 h9 h10 h11) l i v hl hi
theorem Afb:TL (DE G0 230):=by unfold TL;intros;refine lk (g:=230) rfl Tryz.func139 AcI ?_;apply ArI (DE G0) Ave<;>assumption
theorem XE:Io (DE G0 177):=by unfold Io;intros;refine lk (g:=177) rfl Tryz.func58 Aeg ?_;apply AsR (DE G0) FB Ko Aqz Afb<;>assumption
theorem AmB:LB (DE G0 107):=by unfold LB;intros;refine lk (g:=107) rfl Tryz.func21 Aiy ?_;apply Aws (DE G0) FB Ko XE<;>assumption
theorem Ap1:Mh (DE G0 193):=by unfold Mh;intros;refine lk (g:=193) rfl Tryz.func137 AlP ?_;apply AyU (DE G0) ZG<;>assumption
theorem AoX:Ob (DE G0 194):=by unfold Ob;intros;refine lk (g:=194) rfl Tryz.func138 Ans ?_;apply AxY (DE G0) JF FN<;>assumption
theorem AlS:Lr (DE G0 127):=by unfold Lr;intros;refine lk (g:=127) rfl Tryz.func56 AjE ?_;apply AwA (DE G0) Ap1 AoX<;>assumption
theorem Al0:Lj (DE G0 178):=by unfold Lj;intros;refine lk (g:=178) rfl Tryz.func57 Ah3 ?_;apply Aw0 (DE G0) R3 Ko<;>assumption
theorem AkO:LK (DE G0 179):=by unfold LK;intros;refine lk (g:=179) rfl Tryz.func59 AjV ?_;apply Av3 (DE G0) R3 Ko<;>assumption
theorem WT:Ya (DE G0 189):=by unfold Ya;intros;refine lk (g:=189) rfl Tryz.func140 Abi ?_;apply AFW (DE G0) I8<;>assumption
theorem Ad4:Ik (DE G0 180):=by unfold Ik;intros;refine lk (g:=180) rfl Tryz.func60 Ack ?_;apply Amj (DE G0) FB WT Me<;>assumption
theorem Ak4:LG (DE G0 108):=by unfold LG;intros;refine lk (g:=108) rfl Tryz.func10 AhF ?_;apply Axj (DE G0) FB AlS Al0 XE AkO Ad4<;>assumption
theorem ArH:Rs (DE G0 123):=by unfold Rs;intros;refine lk (g:=123) rfl Tryz.func63 Apn ?_;apply ABz (DE G0)<;>assumption
theorem ApE:NR (DE G0 124):=by unfold NR;intros;refine lk (g:=124) rfl Tryz.func197 AlW ?_;apply Azu (DE G0) Me WT<;>assumption
theorem AyM:AaD (DE G0 265):=by unfold AaD;intros;refine lk (g:=265) rfl Tryz.func198 Avg ?_;apply AIM (DE G0) Me<;>assumption
theorem Am4:LA (DE G0 231):=by unfold LA;intros;refine lk (g:=231) rfl Tryz.func142 AhP ?_;apply AvN (DE G0) Gc I8 FN ApE AyM<;>assumption
theorem Acu:G9 (DE G0 181):=by unfold G9;intros;refine lk (g:=181) rfl Tryz.func62 Z9 ?_;apply AiH (DE G0) Am4 WT<;>assumption
theorem Aic:JW (DE G0 109):=by unfold JW;intros;refine lk (g:=109) rfl Tryz.func12 Agl ?_;apply Atl (DE G0) FB ArH Acu<;>assumption
theorem AC2:AHm (DE G0 197):=AEb (k:=144) rfl (fun p c w=>Tryz.slices_Sort_int_none p c w) (fun b o c zs w h1 h2 h3=>Tryz.slices_Sort_int b o c zs w h1 h2 h3)
theorem AjS:JY (DE G0 182):=by unfold JY;intros;refine lk (g:=182) rfl Tryz.func64 Ac8 ?_;apply Ar4 (DE G0) Gc FN I8 AC2<;>assumption
theorem AiQ:JZ (DE G0 110):=by unfold JZ;intros;refine lk (g:=110) rfl Tryz.func14 Aht ?_;apply Asg (DE G0) FB AjS<;>assumption
theorem Atw:Rh (DE G0 111):=by unfold Rh;intros;refine lk (g:=111) rfl Tryz.func16 Api ?_;apply ABf (DE G0) FB O5 Aa6 Ahh<;>assumption
theorem Alb:Lc (DE G0 112):=by unfold Lc;intros;refine lk (g:=112) rfl Tryz.func23 AjW ?_;apply AvB (DE G0) FB O5<;>assumption
theorem AnZ:NZ (DE G0 113):=by unfold NZ;intros;refine lk (g:=113) rfl Tryz.func18 Ak3 ?_;apply AyO (DE G0) FB FN<;>assumption
theorem AkZ:JX (DE G0 41):=by unfold JX;intros;refine lk (g:=41) rfl Tryz.func31 Agp ?_;apply Asy (DE G0) FB AoF AmB Ak4 Aic AiQ Atw Alb AnZ<;>assumption
theorem AmC:Li (DE G0 533):=by unfold Li;intros;refine lk (g:=533) rfl Tryz.func27 AjJ ?_;apply Aw4 (DE G0) FB AkZ<;>assumption
theorem AYh:atS (DE G0 534):=by unfold atS;intros;refine lk (g:=534) rfl Tryz.func28 AYa ?_;apply AYF (DE G0)<;>assumption
theorem ASJ:AQI (DE G0 268):=by unfold AQI;intros;refine lk (g:=268) rfl Tryz.func147 ARY ?_;apply AUs (DE G0) Me<;>assumption
theorem ASY:APC (DE G0 234):=by unfold APC;intros;refine lk (g:=234) rfl Tryz.func69 ASQ ?_;apply AUl (DE G0) Gc ASJ Y5<;>assumption
theorem ATh:ARh (DE G0 237):=by unfold ARh;intros;refine lk (g:=237) rfl Tryz.func73 AR7 ?_;apply AUQ (DE G0) XM<;>assumption
theorem AQG:AO8 (DE G0) (DE G0 393):=by unfold AO8;intros;refine lk (g:=393) rfl Tryz.func148 AO0 ?_;apply ARq (DE G0)<;>assumption
theorem AQq:AOY (DE G0) (DE G0 238):=by unfold AOY;intros;refine lk (g:=238) rfl Tryz.func72 AOR ?_;apply AQK (DE G0) AQG<;>assumption
theorem ATL:AP4 (DE G0 184):=by unfold AP4;intros;refine lk (g:=184) rfl Tryz.func19 ATq ?_;apply AUW (DE G0) ArH ASY AsL Aqj ATh AQq Ko I8 FN<;>assumption
theorem ASi:AQt (DE G0 503):=by unfold AQt;intros;refine lk (g:=503) rfl Tryz.func154 ARU ?_;apply AT7 (DE G0) Ahi<;>assumption
theorem ASP:AQH (DE G0) (DE G0 504):=by unfold AQH;intros;refine lk (g:=504) rfl Tryz.func153 AOL ?_;apply AUz (DE G0)<;>assumption
theorem AQ8:APs (DE G0 502):=by unfold APs;intros;refine lk (g:=502) rfl Tryz.func82 AQZ ?_;apply ASg (DE G0) Ahi ASi ASP<;>assumption
theorem ASE:AQO (DE G0) (DE G0 501):=by unfold AQO;intros;refine lk (g:=501) rfl Tryz.func81 AJu ?_;apply AUw (DE G0)<;>assumption
theorem ARk:APF (DE G0 505):=by unfold APF;intros;refine lk (g:=505) rfl Tryz.func83 AQ9 ?_;apply ASu (DE G0) Ahi<;>assumption
theorem ASd:AQw (DE G0 508):=by unfold AQw;intros;refine lk (g:=508) rfl Tryz.func155 AR1 ?_;apply AUc (DE G0) Ahi<;>assumption
theorem AQv:APN (DE G0 507):=by unfold APN;intros;refine lk (g:=507) rfl Tryz.func85 ARI ?_;apply ATY (DE G0) ASd Ahi<;>assumption
theorem ARB:APY (DE G0) (DE G0 506):=by unfold APY;intros;refine lk (g:=506) rfl Tryz.func84 AOm ?_;apply ATo (DE G0)<;>assumption
theorem AR0:AQe (DE G0 510):=by unfold AQe;intros;refine lk (g:=510) rfl Tryz.func87 ARK ?_;apply ATE (DE G0) AQv<;>assumption
theorem ARL:APT (DE G0) (DE G0 509):=by unfold APT;intros;refine lk (g:=509) rfl Tryz.func86 AOg ?_;apply ATl (DE G0)<;>assumption
theorem ARW:AQf (DE G0 500):=by unfold AQf;intros;refine lk (g:=500) rfl Tryz.func25 ARm ?_;apply ATN (DE G0) Ahi AQ8 ASE ARk AQv ARB AR0 ARL<;>assumption
theorem AXv:AWB (DE G0 383):=by unfold AWB;intros;refine lk (g:=383) rfl Tryz.func29 AXp ?_;apply AXQ (DE G0)<;>assumption
theorem ArN:Rm (DE G0 284):=by unfold Rm;intros;refine lk (g:=284) rfl Tryz.func271 Ara ?_;apply ACF (DE G0) FT<;>assumption
theorem AtP:Rb (DE G0 254):=by unfold Rb;intros;refine lk (g:=254) rfl Tryz.func231 Ap5 ?_;apply ACo (DE G0) Ku FT ArN<;>assumption
theorem Aou:Ac3 (DE G0 214):=by unfold Ac3;intros;refine lk (g:=214) rfl Tryz.func192 Ax1 ?_;apply ALu (DE G0) AtP<;>assumption
theorem Aoq:AxR (DE G0 215):=by unfold AxR;intros;refine lk (g:=215) rfl Tryz.func217 AA1 ?_;apply AMY (DE G0)<;>assumption
theorem Xr:Io (DE G0 146):=by unfold Io;intros;refine lk (g:=146) rfl Tryz.func181 Agw ?_;apply Atp (DE G0) Fz Ku Aou Aku Aoq<;>assumption
theorem Aor:LB (DE G0 74):=by unfold LB;intros;refine lk (g:=74) rfl Tryz.func121 Ajo ?_;apply Awy (DE G0) Fz Ku Xr<;>assumption
theorem AtG:NZ (DE G0 80):=by unfold NZ;intros;refine lk (g:=80) rfl Tryz.func122 Al2 ?_;apply Ayy (DE G0) Fz FT<;>assumption
theorem Z7:Mh (DE G0 155):=by unfold Mh;intros;refine lk (g:=155) rfl Tryz.func194 AlY ?_;apply Ayt (DE G0) KG<;>assumption
theorem Arj:Ob (DE G0 156):=by unfold Ob;intros;refine lk (g:=156) rfl Tryz.func218 Ak1 ?_;apply AyJ (DE G0) FT<;>assumption
theorem Aoa:Lr (DE G0 82):=by unfold Lr;intros;refine lk (g:=82) rfl Tryz.func182 Aif ?_;apply AvY (DE G0) Z7 Arj<;>assumption
theorem Alc:Lj (DE G0 147):=by unfold Lj;intros;refine lk (g:=147) rfl Tryz.func183 AjC ?_;apply Awf (DE G0) U9 Ku<;>assumption
theorem AmO:LK (DE G0 148):=by unfold LK;intros;refine lk (g:=148) rfl Tryz.func184 Ajt ?_;apply Axp (DE G0) U9 Ku<;>assumption
theorem QG:Oe (DE G0 167):=by unfold Oe;intros;refine lk (g:=167) rfl Tryz.func219 Agn ?_;apply Awh (DE G0)<;>assumption
theorem Adg:Ik (DE G0 149):=by unfold Ik;intros;refine lk (g:=149) rfl Tryz.func185 Acp ?_;apply Anf (DE G0) Fz QG L9<;>assumption
theorem ApX:LG (DE G0 75):=by unfold LG;intros;refine lk (g:=75) rfl Tryz.func123 Ajz ?_;apply Au3 (DE G0) Fz Aoa Alc Xr AmO Adg<;>assumption
theorem Aw5:Rh (DE G0 78):=by unfold Rh;intros;refine lk (g:=78) rfl Tryz.func124 Aox ?_;apply ACI (DE G0) Fz FT Aae<;>assumption
theorem ACg:ADq (DE G0 253):=by unfold ADq;intros;refine lk (g:=253) rfl Tryz.func230 ACf ?_;apply AMj (DE G0)<;>assumption
theorem ACm:ADe (DE G0 212):=by unfold ADe;intros;refine lk (g:=212) rfl Tryz.func191 ApZ ?_;apply AET (DE G0) Aoq ACg<;>assumption
theorem Aux:AsZ (DE G0 339):=by unfold AsZ;intros;refine lk (g:=339) rfl Tryz.func353 ACP ?_;apply AMI (DE G0) FT<;>assumption
theorem Ac9:ZF (DE G0 338):=by unfold ZF;intros;refine lk (g:=338) rfl Tryz.func354 AxK ?_;apply AKL (DE G0) Aux<;>assumption
theorem Apw:Ac5 (DE G0 313):=by unfold Ac5;intros;refine lk (g:=313) rfl Tryz.func318 Asv ?_;apply ALo (DE G0) Ac9 Aux<;>assumption
theorem AmE:Ld (DE G0 310):=by unfold Ld;intros;refine lk (g:=310) rfl Tryz.func315 Aje ?_;apply AwZ (DE G0) Apw<;>assumption
theorem Afn:Nb (DE G0 308):=by unfold Nb;intros;refine lk (g:=308) rfl Tryz.func312 Asq ?_;apply AEd (DE G0)<;>assumption
theorem AcV:Pp (DE G0 331):=by unfold Pp;intros;refine lk (g:=331) rfl Tryz.func347 AnV ?_;apply AA7 (DE G0) KG<;>assumption
theorem Afz:Q8 (DE G0 311):=by unfold Q8;intros;refine lk (g:=311) rfl Tryz.func316 Aqk ?_;apply AEy (DE G0) Afn AcV<;>assumption
theorem AQx:Tf (DE G0 309):=by unfold Tf;intros;refine lk (g:=309) rfl Tryz.func314 Av8 ?_;apply AIY (DE G0)<;>assumption
theorem M0:Ia (DE G0 312):=by unfold Ia;intros;refine lk (g:=312) rfl Tryz.func317 Aph ?_;apply ABA (DE G0) FT YG AQx<;>assumption
theorem Am9:LQ (DE G0 283):=by unfold LQ;intros;refine lk (g:=283) rfl Tryz.func270 AhW ?_;apply AvU (DE G0) AmE Afz M0 AQx Apw<;>assumption
theorem AtH:RI (DE G0 251):=by unfold RI;intros;refine lk (g:=251) rfl Tryz.func229 AoJ ?_;apply ABu (DE G0) Xt Am9<;>assumption
theorem Ip:Fe (DE G0 285):=by unfold Fe;intros;refine lk (g:=285) rfl Tryz.func302 Aqg ?_;apply AB3 (DE G0) FY M0<;>assumption
theorem AcN:MS (DE G0 301):=by unfold MS;intros;refine lk (g:=301) rfl Tryz.func304 Anb ?_;apply ACG (DE G0) Afz<;>assumption
theorem Atf:Rx (DE G0 258):=by unfold Rx;intros;refine lk (g:=258) rfl Tryz.func345 Apy ?_;apply ACH (DE G0) Aae Ip KG FT<;>assumption
theorem Oq:Hy (DE G0 286):=by unfold Hy;intros;refine lk (g:=286) rfl Tryz.func306 AmF ?_;apply AxI (DE G0) Ip AcN Atf<;>assumption
theorem Ahl:Ih (DE G0 355):=by unfold Ih;intros;refine lk (g:=355) rfl Tryz.func365 Aip ?_;apply Avu (DE G0)<;>assumption
theorem AeU:TI (DE G0 356):=by unfold TI;intros;refine lk (g:=356) rfl Tryz.func366 AiN ?_;apply AvW (DE G0) Ahl<;>assumption
theorem Aqp:N8 (DE G0 328):=by unfold N8;intros;refine lk (g:=328) rfl Tryz.func341 Ade ?_;apply Ao1 (DE G0) Ahl AeU<;>assumption
theorem AgI:Ii (DE G0 300):=by unfold Ii;intros;refine lk (g:=300) rfl Tryz.func303 Adn ?_;apply Aom (DE G0) Oq Aqp<;>assumption
theorem Xx:IA (DE G0 256):=by unfold IA;intros;refine lk (g:=256) rfl Tryz.func368 Afy ?_;apply AsP (DE G0)<;>assumption
theorem XV:I9 (DE G0 260):=by unfold I9;intros;refine lk (g:=260) rfl Tryz.func367 Afq ?_;apply As9 (DE G0) FY Xx Oq<;>assumption
theorem Adz:Il (DE G0 222):=by unfold Il;intros;refine lk (g:=222) rfl Tryz.func342 Acv ?_;apply Ame (DE G0) FY XV<;>assumption
theorem Arr:ZH (DE G0 223):=by unfold ZH;intros;refine lk (g:=223) rfl Tryz.func313 AoG ?_;apply AFT (DE G0) KG<;>assumption
theorem Apt:NU (DE G0 329):=by unfold NU;intros;refine lk (g:=329) rfl Tryz.func344 Ak6 ?_;apply Azm (DE G0) M0 XV Xx Oq AeU<;>assumption
theorem Aln:LD (DE G0 330):=by unfold LD;intros;refine lk (g:=330) rfl Tryz.func343 AiR ?_;apply Av7 (DE G0) Ip KG<;>assumption
theorem AqP:N9 (DE G0 302):=by unfold N9;intros;refine lk (g:=302) rfl Tryz.func305 Aa4 ?_;apply Azh (DE G0) Ip Adz Arr Apt Aln<;>assumption
theorem An5:NK (DE G0 280):=by unfold NK;intros;refine lk (g:=280) rfl Tryz.func267 Amo ?_;apply AyG (DE G0) Ip AgI AcN AqP<;>assumption
theorem Ag8:Je (DE G0 332):=by unfold Je;intros;refine lk (g:=332) rfl Tryz.func346 Adq ?_;apply AqL (DE G0) QN<;>assumption
theorem Axq:VZ (DE G0 303):=by unfold VZ;intros;refine lk (g:=303) rfl Tryz.func307 Ach ?_;apply AEY (DE G0) L9 Ip AcV Ag8<;>assumption
theorem AaG:KH (DE G0 333):=by unfold KH;intros;refine lk (g:=333) rfl Tryz.func348 AkU ?_;apply Ayc (DE G0) FT M0<;>assumption
theorem Amz:K6 (DE G0 304):=by unfold K6;intros;refine lk (g:=304) rfl Tryz.func308 AhI ?_;apply Axs (DE G0) AQx QN Ip AaG KG<;>assumption
theorem X3:IB (DE G0 337):=by unfold IB;intros;refine lk (g:=337) rfl Tryz.func352 AgW ?_;apply Ar1 (DE G0) M0<;>assumption
theorem Aj0:J3 (DE G0 305):=by unfold J3;intros;refine lk (g:=305) rfl Tryz.func310 AeT ?_;apply AsN (DE G0) Ip X3<;>assumption
theorem Aga:Jd (DE G0 306):=by unfold Jd;intros;refine lk (g:=306) rfl Tryz.func311 Aex ?_;apply An8 (DE G0) AaG X3<;>assumption
theorem AcZ:M6 (DE G0 334):=by unfold M6;intros;refine lk (g:=334) rfl Tryz.func349 Ab9 ?_;apply ACX (DE G0) YG<;>assumption
theorem Amv:Lf (DE G0 335):=by unfold Lf;intros;refine lk (g:=335) rfl Tryz.func351 Z5 ?_;apply Avo (DE G0) AcZ Ac9<;>assumption
theorem AAa:Aa5 (DE G0 336):=by unfold Aa5;intros;refine lk (g:=336) rfl Tryz.func350 Akb ?_;apply AIw (DE G0) Ac9<;>assumption
theorem AwU:TV (DE G0 307):=by unfold TV;intros;refine lk (g:=307) rfl Tryz.func309 AmN ?_;apply AEo (DE G0) AoV AcZ FT Amv AAa<;>assumption
theorem AnQ:NP (DE G0 281):=by unfold NP;intros;refine lk (g:=281) rfl Tryz.func268 Ald ?_;apply Ayb (DE G0) Oq Axq Amz Aj0 Aga AwU Afn<;>assumption
theorem Ase:Rl (DE G0 282):=by unfold Rl;intros;refine lk (g:=282) rfl Tryz.func269 Apv ?_;apply ABc (DE G0) Arr AQx FT<;>assumption
theorem ABa:AkG (DE G0 252):=by unfold AkG;intros;refine lk (g:=252) rfl Tryz.func228 AzV ?_;apply AKs (DE G0) An5 AnQ Ase<;>assumption
theorem Asu:RB (DE G0 213):=by unfold RB;intros;refine lk (g:=213) rfl Tryz.func190 AqH ?_;apply AA8 (DE G0) Xt AtH ABa<;>assumption
theorem Aw8:VG (DE G0 142):=by unfold VG;intros;refine lk (g:=142) rfl Tryz.func133 ArJ ?_;apply AEa (DE G0) FT ACm Asu<;>assumption
theorem Atb:Rj (DE G0 143):=by unfold Rj;intros;refine lk (g:=143) rfl Tryz.func134 AoI ?_;apply ACx (DE G0) FT Aou KG<;>assumption
theorem Aly:GD (DE G0 144):=by unfold GD;intros;refine lk (g:=144) rfl Tryz.func136 Ah2 ?_;apply AwF (DE G0) Z7<;>assumption
theorem Ar5:NW (DE G0 72):=by unfold NW;intros;refine lk (g:=72) rfl Tryz.func55 Alt ?_;apply Ayu (DE G0) Fz FT Aw8 Atb AcU Aly<;>assumption
theorem APi:APz (DE G0 539):=by unfold APz;intros;refine APl (R:=Body (DE G0) AOX) (R':=(DE G0) 539) (fun _ _ _ _ h=>lk (g:=539) rfl Tryz.func46 ASy h) ?_;apply AUL (DE G0) ALB AQd AS8 AQA Aor AtG ApX Aw5 Ar5<;>assumption
theorem AWQ:AU2 (DE G0 535):=by unfold AU2;intros;refine AP6 (R:=Body (DE G0) AUh) (R':=(DE G0) 535) (fun _ _ _ _ h=>lk (g:=535) rfl Tryz.func30 AWL h) ?_;apply AXr (DE G0) APA ALB AQd APi AWR<;>assumption
theorem AXn:AWl (DE G0 536):=by unfold AWl;intros;refine AP6 (R:=Body (DE G0) AUY) (R':=(DE G0) 536) (fun _ _ _ _ h=>lk (g:=536) rfl Tryz.func32 AXl h) ?_;apply AXU (DE G0) APA APi<;>assumption
theorem AXW:AXE (DE G0 44):=by unfold AXE;intros;refine lk (g:=44) rfl Tryz.func33 AXL ?_;apply AX7 (DE G0) FB AoF<;>assumption
theorem AXx:AWy (DE G0 377):=by unfold AWy;intros;refine lk (g:=377) rfl Tryz.func34 AXs ?_;apply AXO (DE G0) FN<;>assumption
theorem AXI:AXt (DE G0 532):=by unfold AXt;intros;refine lk (g:=532) rfl Tryz.func4 AXB ?_;apply AX0 (DE G0) AVu AWS AmC AYh ATL ARW AXv AWQ AkZ AXn AXW AXx<;>assumption
theorem den (G0:Gl) (av:List V) (h:AS7 av):DE G0 532 av [] (B true) []:=by
 obtain⟨bs,hb,rfl⟩:=AW8 h
 exact AXI bs hb
end Go.Eng.T
