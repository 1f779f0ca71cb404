/- Own work: part 49 of the proof of FnExactRunEvents. -/
import Derived.Test.YtfdnolfnbmnafaaGreatP48
import Derived.Test.YtfdnolfnbmnafaaGreatProg
import Derived.KernelRfl
set_option linter.unusedSimpArgs false
set_option linter.unusedVariables false
namespace Go.Eng.T
open Go.Proofs
set_option maxRecDepth 100000
def AMB:List (Option Nat):=[none,none,none,none,none,none,none,some 35,some 38,none,none,some 40,some 42,some 44,none,none,some 91,some 92,some 93,some 94,some 95,none,some 97,none,none,none,none,some 98,none,none,none,some 99,some 100,some 101,some 102,some 103,none,none,some 49,none,none,some 31,none,none,none,none,none,some 105,some 106,some 107,some 108,some 109,some 111,some 112,some 113,some 114,some 115,some 116,some 117,some 118,some 119,some 120,some 161,some 162,some 163,some 165,some 166,some 135,none,none,none,some 132,some 55,none,some 121,some 123,some 167,some 168,some 124,some 169,some 122,none,some 182,none,none,none,none,none,none,none,none,none,none,none,none,some 211,some 279,none,some 170,some 171,some 172,some 127,some 128,some 53,none,none,some 8,some 21,some 10,some 12,some 14,some 16,some 23,some 18,some 68,none,none,some 50,none,none,none,none,none,some 63,some 197,none,none,some 56,none,none,none,none,none,none,some 174,some 175,some 176,some 178,some 179,some 208,some 209,none,some 133,some 134,some 136,some 180,some 181,some 183,some 184,some 185,some 210,some 212,some 186,none,none,some 194,some 218,none,none,some 156,none,none,none,none,none,none,some 193,some 219,some 220,none,some 213,some 214,some 67,some 51,some 52,some 54,some 75,some 58,some 57,some 59,some 60,some 62,some 64,some 66,none,none,none,none,some 76,some 140,some 141,none,none,some 137,some 138,none,none,some 144,none,none,none,none,none,none,some 215,some 216,some 164,some 227,some 246,none,some 248,none,some 191,some 190,some 192,some 217,some 250,some 221,none,none,none,none,some 342,some 313,some 251,none,some 173,some 129,some 130,some 131,some 139,some 142,some 143,some 145,none,some 70,some 71,none,none,some 74,some 282,none,some 196,none,none,none,none,none,none,some 177,some 266,some 229,some 228,some 230,some 231,some 280,some 368,none,some 345,none,some 367,some 188,some 187,some 189,some 195,some 198,some 202,some 201,none,some 146,some 149,some 150,some 77,some 322,some 256,none,none,none,none,some 204,some 267,some 268,some 269,some 270,some 271,some 302,some 306,some 222,some 223,some 224,some 225,some 226,some 252,some 254,some 285,some 325,some 326,some 327,some 293,none,some 303,some 304,some 305,some 307,some 308,some 310,some 311,some 309,some 312,some 314,some 315,some 316,some 317,some 318,some 253,some 255,some 257,some 258,some 259,some 260,some 261,some 262,some 264,some 263,some 265,some 357,some 359,some 358,some 341,some 344,some 343,some 347,some 346,some 348,some 349,some 351,some 350,some 352,some 354,some 353,some 281,some 284,some 283,some 286,none,some 289,some 290,some 288,some 291,some 292,some 294,some 296,some 295,some 299,some 298,some 365,some 366,some 80,some 321,some 323,some 324,some 329,some 328,none,some 331,some 333,some 332,some 334,some 335,some 336,some 337,some 356,some 355,some 360,some 361,some 362,none,none,none,none,some 36,some 39,none,none,some 41,none,some 96,some 104,some 110,some 151,none,none,none,none,none,none,none,none,none,none,none,none,none,none,some 245,some 203,some 152,none,none,none,none,none,none,none,none,none,none,none,none,some 363,none,none,none,none,none,none,none,none,none,none,none,none,none,none,none,none,none,none,none,none,none,none,none,none,none,none,none,none,none,none,none,none,none,none,none,none,none,none,none,none,none,none,none,none,none,none,none,none,none,none,none,none,none,none,none,none,none,none,none,none,none,none,none,none,none,some 37,none,none,none,none,none,none,none,none,none,none,none,none,none,none,none,none,none,none,none,none,none,none,none,none,none,none,none,none,none,none,none,none,none,none,none,none,none,none,none,none,none,none,none,none,none,none,none,some 27,none,none,none,none,none,none,none,none,none,none,some 5,some 43,none,none,none,none,none,none,none,none,none,none,none,none,none,none,none,none,none,none,none]
def Ah:Nat→Option FuncId:=fun g=>AMB.getD g none
theorem ACK:Tryz.prog.follows .mixedOrders=true:=by kernel_rfl
theorem hFl:AMB.all (fun o=>match o with | some f=>okF Tryz.prog f | none=>true)=true:=by kernel_rfl
theorem hF:∀g f,Ah g=some f→okF Tryz.prog f=true:=by
 intro g f h
 have:=List.all_eq_true.1 hFl (some f) (by
  unfold Ah at h
  rw[List.getD_eq_getElem?_getD]at h
  cases hg:AMB[g]? with
  | none=>simp[hg]at h
  | some o=>simp[hg]at h;subst h;exact List.mem_of_getElem? hg)
 exact this
abbrev G0:Gl:=⟨fun _=>False,fun _=>none⟩
abbrev DD:Dn:=VP Tryz.prog Ah G0
theorem lk {g:Nat} {f:FuncId} {fn:Func} {st:List Tmp} {sf:Bp} (hg:Ah g=some f) (hfn:Tryz.prog.funcs[f]? =some fn) (hm:Bq Tryz.prog Ah st sf fn=true) {a:List V} {gi:List O} {r:V} {o:List O}
 (h:Body DD sf a gi r o):DD g a gi r o:=
 AGY ACK (fun _ _ _ _ _ h=>h) hF (fun id hid=>by rw[hg]at hid;cases hid;exact hfn) hm h
theorem Ar3:Bq Tryz.prog Ah AqD Y8 Tryz.f165=true:=by kernel_rfl
theorem AoZ:Bq Tryz.prog Ah Ak9 Ww Tryz.f166=true:=by kernel_rfl
theorem Ajf:Bq Tryz.prog Ah Ag5 RV Tryz.f135=true:=by kernel_rfl
theorem AoE:Bq Tryz.prog Ah Al1 WV Tryz.f97=true:=by kernel_rfl
theorem Ay4:Bq Tryz.prog Ah AwG AeF Tryz.f132=true:=by kernel_rfl
theorem AA1:Bq Tryz.prog Ah AAb AjF Tryz.f217=true:=by kernel_rfl
theorem ACf:Bq Tryz.prog Ah Ayf AiL Tryz.f230=true:=by kernel_rfl
theorem ApZ:Bq Tryz.prog Ah Al5 Xd Tryz.f191=true:=by kernel_rfl
theorem Afk:Bq Tryz.prog Ah AdW QY Tryz.f266=true:=by kernel_rfl
theorem AsJ:Bq Tryz.prog Ah Arn Zn Tryz.f221=true:=by kernel_rfl
theorem Awv:Bq Tryz.prog Ah AsO AaJ Tryz.f186=true:=by kernel_rfl
theorem Aev:Bq Tryz.prog Ah Ab6 Pb Tryz.f246=true:=by kernel_rfl
theorem AfY:Bq Tryz.prog Ah AeN Ql Tryz.f227=true:=by kernel_rfl
theorem ACP:Bq Tryz.prog Ah AzO Ah8 Tryz.f353=true:=by kernel_rfl
theorem AxK:Bq Tryz.prog Ah Avi AdZ Tryz.f354=true:=by kernel_rfl
theorem Asv:Bq Tryz.prog Ah ApM ZB Tryz.f318=true:=by kernel_rfl
theorem Aje:Bq Tryz.prog Ah AfP RN Tryz.f315=true:=by kernel_rfl
theorem Asq:Bq Tryz.prog Ah Ape Yv Tryz.f312=true:=by kernel_rfl
theorem Awt:Bq Tryz.prog Ah AtI AaK Tryz.f193=true:=by kernel_rfl
theorem AnV:Bq Tryz.prog Ah AmI Wu Tryz.f347=true:=by kernel_rfl
theorem Aqk:Bq Tryz.prog Ah AkS WU Tryz.f316=true:=by kernel_rfl
theorem Av8:Bq Tryz.prog Ah Att Aaj Tryz.f314=true:=by kernel_rfl
theorem Aph:Bq Tryz.prog Ah Ana WK Tryz.f317=true:=by kernel_rfl
theorem AhW:Bq Tryz.prog Ah Ae8 Sn Tryz.f270=true:=by kernel_rfl
theorem AoJ:Bq Tryz.prog Ah AkQ Xi Tryz.f229=true:=by kernel_rfl
theorem Aqg:Bq Tryz.prog Ah AmJ Wx Tryz.f302=true:=by kernel_rfl
theorem Anb:Bq Tryz.prog Ah AiD U6 Tryz.f304=true:=by kernel_rfl
theorem Apy:Bq Tryz.prog Ah AmM WS Tryz.f345=true:=by kernel_rfl
theorem AmF:Bq Tryz.prog Ah Aig U7 Tryz.f306=true:=by kernel_rfl
theorem Aip:Bq Tryz.prog Ah AgH SQ Tryz.f365=true:=by kernel_rfl
theorem AiN:Bq Tryz.prog Ah AgC SS Tryz.f366=true:=by kernel_rfl
theorem Ade:Bq Tryz.prog Ah AbZ O1 Tryz.f341=true:=by kernel_rfl
theorem Adn:Bq Tryz.prog Ah Aci O7 Tryz.f303=true:=by kernel_rfl
theorem Afy:Bq Tryz.prog Ah AdF Qt Tryz.f368=true:=by kernel_rfl
theorem Afq:Bq Tryz.prog Ah AeG QH Tryz.f367=true:=by kernel_rfl
theorem Acv:Bq Tryz.prog Ah Aag NC Tryz.f342=true:=by kernel_rfl
theorem AoG:Bq Tryz.prog Ah AlC WC Tryz.f313=true:=by kernel_rfl
theorem Ak6:Bq Tryz.prog Ah Ai7 U8 Tryz.f344=true:=by kernel_rfl
theorem AiR:Bq Tryz.prog Ah AfF Sm Tryz.f343=true:=by kernel_rfl
theorem Aa4:Bq Tryz.prog Ah ZQ MB Tryz.f305=true:=by kernel_rfl
theorem Amo:Bq Tryz.prog Ah AiY U3 Tryz.f267=true:=by kernel_rfl
theorem AkN:Bq Tryz.prog Ah Ajl Vi Tryz.f251=true:=by kernel_rfl
theorem AgZ:Bq Tryz.prog Ah AdT PY Tryz.f220=true:=by kernel_rfl
theorem Adq:Bq Tryz.prog Ah Acf OC Tryz.f346=true:=by kernel_rfl
theorem Ach:Bq Tryz.prog Ah AaX Nn Tryz.f307=true:=by kernel_rfl
theorem AkU:Bq Tryz.prog Ah Ah5 UL Tryz.f348=true:=by kernel_rfl
theorem AhI:Bq Tryz.prog Ah Af3 Tk Tryz.f308=true:=by kernel_rfl
theorem AgW:Bq Tryz.prog Ah Adi QC Tryz.f352=true:=by kernel_rfl
theorem AeT:Bq Tryz.prog Ah Aea Qj Tryz.f310=true:=by kernel_rfl
theorem Aex:Bq Tryz.prog Ah AbY OD Tryz.f311=true:=by kernel_rfl
theorem AgV:Bq Tryz.prog Ah Adu Qx Tryz.f248=true:=by kernel_rfl
theorem Ab9:Bq Tryz.prog Ah AaP NG Tryz.f349=true:=by kernel_rfl
theorem Z5:Bq Tryz.prog Ah Zb Ll Tryz.f351=true:=by kernel_rfl
theorem Akb:Bq Tryz.prog Ah AfK Tg Tryz.f350=true:=by kernel_rfl
theorem AmN:Bq Tryz.prog Ah Aj3 Vv Tryz.f309=true:=by kernel_rfl
theorem Ald:Bq Tryz.prog Ah Aj4 Vk Tryz.f268=true:=by kernel_rfl
theorem Apv:Bq Tryz.prog Ah Amr Wd Tryz.f269=true:=by kernel_rfl
theorem AzV:Bq Tryz.prog Ah AvA Adw Tryz.f228=true:=by kernel_rfl
theorem AqH:Bq Tryz.prog Ah Amu Wj Tryz.f190=true:=by kernel_rfl
theorem ArJ:Bq Tryz.prog Ah AqV YQ Tryz.f133=true:=by kernel_rfl
theorem AiM:Bq Tryz.prog Ah AgR Sd Tryz.f180=true:=by kernel_rfl
theorem Ara:Bq Tryz.prog Ah AlO Wh Tryz.f271=true:=by kernel_rfl
theorem Ap5:Bq Tryz.prog Ah AkV WZ Tryz.f231=true:=by kernel_rfl
theorem Ax1:Bq Tryz.prog Ah Aw2 AdH Tryz.f192=true:=by kernel_rfl
theorem AoI:Bq Tryz.prog Ah AmX WJ Tryz.f134=true:=by kernel_rfl
theorem AlY:Bq Tryz.prog Ah Ajy Uv Tryz.f194=true:=by kernel_rfl
theorem Ah2:Bq Tryz.prog Ah Afm Tt Tryz.f136=true:=by kernel_rfl
theorem Alt:Bq Tryz.prog Ah Aio UA Tryz.f55=true:=by kernel_rfl
theorem Avv:Bq Tryz.prog Ah As7 Aa8 Tryz.f156=true:=by kernel_rfl
theorem Agw:Bq Tryz.prog Ah AeE QV Tryz.f181=true:=by kernel_rfl
theorem Ajo:Bq Tryz.prog Ah AgG Sl Tryz.f121=true:=by kernel_rfl
theorem Ak1:Bq Tryz.prog Ah AhV Uy Tryz.f218=true:=by kernel_rfl
theorem Aif:Bq Tryz.prog Ah Ahm Tc Tryz.f182=true:=by kernel_rfl
theorem AjC:Bq Tryz.prog Ah Ahx Td Tryz.f183=true:=by kernel_rfl
theorem Ajt:Bq Tryz.prog Ah AfB R4 Tryz.f184=true:=by kernel_rfl
theorem Agn:Bq Tryz.prog Ah Aes QX Tryz.f219=true:=by kernel_rfl
theorem Acp:Bq Tryz.prog Ah Abe NF Tryz.f185=true:=by kernel_rfl
theorem Ajz:Bq Tryz.prog Ah Af4 Tw Tryz.f123=true:=by kernel_rfl
theorem Aot:Bq Tryz.prog Ah AkR Wt Tryz.f211=true:=by kernel_rfl
theorem AmV:Bq Tryz.prog Ah Ah7 UX Tryz.f279=true:=by kernel_rfl
theorem Aw9:Bq Tryz.prog Ah ArP Aaf Tryz.f280=true:=by kernel_rfl
theorem AiA:Bq Tryz.prog Ah Ahw R5 Tryz.f250=true:=by kernel_rfl
theorem AaA:Bq Tryz.prog Ah ZP Mv Tryz.f210=true:=by kernel_rfl
theorem Afj:Bq Tryz.prog Ah Aek Qe Tryz.f167=true:=by kernel_rfl
theorem AgU:Bq Tryz.prog Ah Aeo Qm Tryz.f212=true:=by kernel_rfl
theorem Aff:Bq Tryz.prog Ah Ad7 Qr Tryz.f168=true:=by kernel_rfl
theorem Aox:Bq Tryz.prog Ah AmR WW Tryz.f124=true:=by kernel_rfl
theorem Ai2:Bq Tryz.prog Ah Agi SX Tryz.f169=true:=by kernel_rfl
theorem Al2:Bq Tryz.prog Ah Ai3 UJ Tryz.f122=true:=by kernel_rfl
theorem Afd:Bq Tryz.prog Ah Ad3 QJ Tryz.f98=true:=by kernel_rfl
theorem AiO:Bq Tryz.prog Ah Ag7 Sg Tryz.f37=true:=by kernel_rfl
theorem AlF:Bq Tryz.prog Ah AjL Ux Tryz.f67=true:=by kernel_rfl
theorem AcJ:Bq Tryz.prog Ah Aa0 NH Tryz.f128=true:=by kernel_rfl
theorem Ac6:Bq Tryz.prog Ah AcE OQ Tryz.f127=true:=by kernel_rfl
theorem Ahb:Bq Tryz.prog Ah AdO QF Tryz.f53=true:=by kernel_rfl
theorem AhZ:Bq Tryz.prog Ah AeX Sb Tryz.f49=true:=by kernel_rfl
theorem Ao4:Bq Tryz.prog Ah Am5 Xk Tryz.f68=true:=by kernel_rfl
theorem Atu:Bq Tryz.prog Ah Aqr YP Tryz.f50=true:=by kernel_rfl
theorem AdM:Bq Tryz.prog Ah AcK Oo Tryz.f143=true:=by kernel_rfl
theorem Acx:Bq Tryz.prog Ah Aaa Nk Tryz.f202=true:=by kernel_rfl
theorem Ro:Bq Tryz.prog Ah Qa HZ Tryz.f245=true:=by kernel_rfl
theorem OU:Bq Tryz.prog Ah Oh Gv Tryz.f201=true:=by kernel_rfl
theorem Agj:Bq Tryz.prog Ah Ad0 QO Tryz.f145=true:=by kernel_rfl
theorem AqR:Bq Tryz.prog Ah AlG Wy Tryz.f70=true:=by kernel_rfl
theorem AfC:Bq Tryz.prog Ah Adp Qy Tryz.f204=true:=by kernel_rfl
theorem Af2:Bq Tryz.prog Ah Aed Qb Tryz.f149=true:=by kernel_rfl
theorem Av2:Bq Tryz.prog Ah Ato Aam Tryz.f66=true:=by kernel_rfl
theorem Ab0:Bq Tryz.prog Ah Aba Nz Tryz.f150=true:=by kernel_rfl
theorem KX:Bq Tryz.prog Ah KO Er Tryz.f152=true:=by kernel_rfl
theorem Kh:Bq Tryz.prog Ah JR D5 Tryz.f77=true:=by kernel_rfl
theorem Afp:Bq Tryz.prog Ah Aeh QM Tryz.f74=true:=by kernel_rfl
theorem AfH:Bq Tryz.prog Ah Ad5 Qo Tryz.f294=true:=by kernel_rfl
theorem AmY:Bq Tryz.prog Ah Ajm U1 Tryz.f293=true:=by kernel_rfl
theorem AmK:Bq Tryz.prog Ah Ajr UD Tryz.f259=true:=by kernel_rfl
theorem AB7:Bq Tryz.prog Ah AyP Ais Tryz.f298=true:=by kernel_rfl
theorem AzE:Bq Tryz.prog Ah Avd AdB Tryz.f299=true:=by kernel_rfl
theorem Aso:Bq Tryz.prog Ah Aon Yr Tryz.f264=true:=by kernel_rfl
theorem AiC:Bq Tryz.prog Ah AgL R7 Tryz.f260=true:=by kernel_rfl
theorem ApU:Bq Tryz.prog Ah Anj Xc Tryz.f296=true:=by kernel_rfl
theorem KY:Bq Tryz.prog Ah KQ Ew Tryz.f295=true:=by kernel_rfl
theorem AvG:Bq Tryz.prog Ah ArE Aao Tryz.f262=true:=by kernel_rfl
theorem Aok:Bq Tryz.prog Ah AkT WN Tryz.f261=true:=by kernel_rfl
theorem Agx:Bq Tryz.prog Ah Aeu PZ Tryz.f225=true:=by kernel_rfl
theorem AqA:Bq Tryz.prog Ah Amx WE Tryz.f188=true:=by kernel_rfl
theorem Ark:Bq Tryz.prog Ah Al9 WR Tryz.f252=true:=by kernel_rfl
theorem AjG:Bq Tryz.prog Ah Agk Tq Tryz.f254=true:=by kernel_rfl
theorem VA:Bq Tryz.prog Ah Vo Jr Tryz.f151=true:=by kernel_rfl
theorem Sc:Bq Tryz.prog Ah Rw Ib Tryz.f76=true:=by kernel_rfl
theorem AqC:Bq Tryz.prog Ah Amg Wi Tryz.f359=true:=by kernel_rfl
theorem J9:Bq Tryz.prog Ah JU DV Tryz.f358=true:=by kernel_rfl
theorem Awa:Bq Tryz.prog Ah AsU Aan Tryz.f325=true:=by kernel_rfl
theorem Ajq:Bq Tryz.prog Ah Ag3 RJ Tryz.f327=true:=by kernel_rfl
theorem AoC:Bq Tryz.prog Ah Aml Wp Tryz.f285=true:=by kernel_rfl
theorem Alv:Bq Tryz.prog Ah Ai6 UC Tryz.f256=true:=by kernel_rfl
theorem Vy:Bq Tryz.prog Ah Vs Jv Tryz.f80=true:=by kernel_rfl
theorem AkX:Bq Tryz.prog Ah Aji UI Tryz.f356=true:=by kernel_rfl
theorem Gx:Bq Tryz.prog Ah Gu BV Tryz.f355=true:=by kernel_rfl
theorem Aj8:Bq Tryz.prog Ah Aha SB Tryz.f321=true:=by kernel_rfl
theorem Aef:Bq Tryz.prog Ah Acw PD Tryz.f281=true:=by kernel_rfl
theorem AeC:Bq Tryz.prog Ah Acr Pv Tryz.f253=true:=by kernel_rfl
theorem AgD:Bq Tryz.prog Ah Ac7 Qu Tryz.f322=true:=by kernel_rfl
theorem Acd:Bq Tryz.prog Ah AaV Nt Tryz.f282=true:=by kernel_rfl
theorem Abi:Bq Tryz.prog Ah Am1 Q0 Tryz.f140=true:=by kernel_rfl
theorem Ahz:Bq Tryz.prog Ah Ad9 Qc Tryz.f324=true:=by kernel_rfl
theorem Ann:Bq Tryz.prog Ah Ajv Ve Tryz.f284=true:=by kernel_rfl
theorem Adj:Bq Tryz.prog Ah AcD Ol Tryz.f323=true:=by kernel_rfl
theorem AhD:Bq Tryz.prog Ah AeZ R9 Tryz.f283=true:=by kernel_rfl
theorem Abm:Bq Tryz.prog Ah ZU Mw Tryz.f255=true:=by kernel_rfl
theorem AlD:Bq Tryz.prog Ah AjD Vx Tryz.f222=true:=by kernel_rfl
theorem Ami:Bq Tryz.prog Ah Aiq UZ Tryz.f196=true:=by kernel_rfl
theorem Af5:Bq Tryz.prog Ah Aet Qg Tryz.f141=true:=by kernel_rfl
theorem AiS:Bq Tryz.prog Ah Agy Sy Tryz.f361=true:=by kernel_rfl
theorem Ao2:Bq Tryz.prog Ah Alk WB Tryz.f329=true:=by kernel_rfl
theorem AaQ:Bq Tryz.prog Ah ZO MI Tryz.f360=true:=by kernel_rfl
theorem AdU:Bq Tryz.prog Ah Acs Pq Tryz.f328=true:=by kernel_rfl
theorem AcL:Bq Tryz.prog Ah Aat Nr Tryz.f286=true:=by kernel_rfl
theorem Anq:Bq Tryz.prog Ah Aj5 UY Tryz.f336=true:=by kernel_rfl
theorem AtT:Bq Tryz.prog Ah Aq9 Zq Tryz.f258=true:=by kernel_rfl
theorem Aj7:Bq Tryz.prog Ah Ae3 Tv Tryz.f337=true:=by kernel_rfl
theorem AhU:Bq Tryz.prog Ah Af9 SV Tryz.f291=true:=by kernel_rfl
theorem Aft:Bq Tryz.prog Ah Aeb QK Tryz.f334=true:=by kernel_rfl
theorem TG:Bq Tryz.prog Ah RL IK Tryz.f335=true:=by kernel_rfl
theorem Ae1:Bq Tryz.prog Ah Adk Qz Tryz.f289=true:=by kernel_rfl
theorem AeK:Bq Tryz.prog Ah Ab7 Pg Tryz.f290=true:=by kernel_rfl
theorem Ae7:Bq Tryz.prog Ah AeB QR Tryz.f71=true:=by kernel_rfl
theorem ZR:Bq Tryz.prog Ah Zl APk Tryz.f362=true:=by kernel_rfl
theorem Og:Bq Tryz.prog Ah Nw F4 Tryz.f203=true:=by kernel_rfl
theorem MC:Bq Tryz.prog Ah Mc Fb Tryz.f146=true:=by kernel_rfl
theorem AcB:Bq Tryz.prog Ah AaN NA Tryz.f331=true:=by kernel_rfl
theorem ZV:Bq Tryz.prog Ah YV K3 Tryz.f333=true:=by kernel_rfl
theorem Ah4:Bq Tryz.prog Ah Agz R6 Tryz.f332=true:=by kernel_rfl
theorem Alh:Bq Tryz.prog Ah Aiw Uz Tryz.f288=true:=by kernel_rfl
theorem AiE:Bq Tryz.prog Ah Ae4 RQ Tryz.f292=true:=by kernel_rfl
theorem Atn:Bq Tryz.prog Ah An7 Zo Tryz.f257=true:=by kernel_rfl
theorem Al8:Bq Tryz.prog Ah AjY Vj Tryz.f223=true:=by kernel_rfl
theorem Aq6:Bq Tryz.prog Ah Amf WI Tryz.f224=true:=by kernel_rfl
theorem AyN:Bq Tryz.prog Ah AvK AdR Tryz.f187=true:=by kernel_rfl
theorem Aqi:Bq Tryz.prog Ah Am7 Wn Tryz.f129=true:=by kernel_rfl
theorem Asl:Bq Tryz.prog Ah Aps YN Tryz.f51=true:=by kernel_rfl
theorem AjI:Bq Tryz.prog Ah Ahe SL Tryz.f75=true:=by kernel_rfl
theorem Aog:Bq Tryz.prog Ah Alm Wo Tryz.f226=true:=by kernel_rfl
theorem Arq:Bq Tryz.prog Ah AmU WH Tryz.f189=true:=by kernel_rfl
theorem Ays:Bq Tryz.prog Ah Avq Aer Tryz.f130=true:=by kernel_rfl
theorem AoT:Bq Tryz.prog Ah Ak2 WY Tryz.f52=true:=by kernel_rfl
theorem Awc:Bq Tryz.prog Ah ArW Abf Tryz.f131=true:=by kernel_rfl
theorem Ail:Bq Tryz.prog Ah Afl SH Tryz.f54=true:=by kernel_rfl
theorem Ama:Bq Tryz.prog Ah Ah6 Ut Tryz.f8=true:=by kernel_rfl
theorem AcI:Bq Tryz.prog Ah AaC Nl Tryz.f139=true:=by kernel_rfl
theorem Aeg:Bq Tryz.prog Ah Acn O4 Tryz.f58=true:=by kernel_rfl
theorem Aiy:Bq Tryz.prog Ah AgY S9 Tryz.f21=true:=by kernel_rfl
theorem AlP:Bq Tryz.prog Ah AjN UF Tryz.f137=true:=by kernel_rfl
theorem Ans:Bq Tryz.prog Ah AjO U4 Tryz.f138=true:=by kernel_rfl
theorem AjE:Bq Tryz.prog Ah Afg Sq Tryz.f56=true:=by kernel_rfl
theorem Ah3:Bq Tryz.prog Ah Ago Ti Tryz.f57=true:=by kernel_rfl
theorem AjV:Bq Tryz.prog Ah AfO RU Tryz.f59=true:=by kernel_rfl
theorem Ack:Bq Tryz.prog Ah AaB NE Tryz.f60=true:=by kernel_rfl
theorem AhF:Bq Tryz.prog Ah AeS Tj Tryz.f10=true:=by kernel_rfl
theorem Apn:Bq Tryz.prog Ah AlH Wq Tryz.f63=true:=by kernel_rfl
theorem AlW:Bq Tryz.prog Ah Ajn Vg Tryz.f197=true:=by kernel_rfl
theorem Avg:Bq Tryz.prog Ah ArK Aa2 Tryz.f198=true:=by kernel_rfl
theorem AhP:Bq Tryz.prog Ah AgN Tm Tryz.f142=true:=by kernel_rfl
theorem Z9:Bq Tryz.prog Ah Z4 Mq Tryz.f62=true:=by kernel_rfl
theorem Agl:Bq Tryz.prog Ah AdN QU Tryz.f12=true:=by kernel_rfl
theorem Ac8:Bq Tryz.prog Ah Ab8 O9 Tryz.f64=true:=by kernel_rfl
theorem Aht:Bq Tryz.prog Ah Ads Qk Tryz.f14=true:=by kernel_rfl
theorem Api:Bq Tryz.prog Ah Als Xf Tryz.f16=true:=by kernel_rfl
theorem AjW:Bq Tryz.prog Ah Ahn Tn Tryz.f23=true:=by kernel_rfl
theorem Ak3:Bq Tryz.prog Ah AjQ UH Tryz.f18=true:=by kernel_rfl
theorem Agp:Bq Tryz.prog Ah Ad6 P6 Tryz.f31=true:=by kernel_rfl
theorem AjJ:Bq Tryz.prog Ah Agd RY Tryz.f27=true:=by kernel_rfl
theorem Ass:Bq Tryz.prog Ah Aos Zr Tryz.f91=true:=by kernel_rfl
theorem AwI:Bq Tryz.prog Ah AsF AaS Tryz.f164=true:=by kernel_rfl
theorem As1:Bq Tryz.prog Ah Aq5 YB Tryz.f208=true:=by kernel_rfl
theorem AgB:Bq Tryz.prog Ah AeD Qn Tryz.f161=true:=by kernel_rfl
theorem Aen:Bq Tryz.prog Ah Aco OI Tryz.f92=true:=by kernel_rfl
theorem AhT:Bq Tryz.prog Ah Ahd RP Tryz.f93=true:=by kernel_rfl
theorem Asa:Bq Tryz.prog Ah Apb Y2 Tryz.f209=true:=by kernel_rfl
theorem Amq:Bq Tryz.prog Ah Ai8 Vn Tryz.f162=true:=by kernel_rfl
theorem AiK:Bq Tryz.prog Ah Ae2 Sw Tryz.f94=true:=by kernel_rfl
theorem Amk:Bq Tryz.prog Ah AhQ U5 Tryz.f163=true:=by kernel_rfl
theorem Ai9:Bq Tryz.prog Ah Ahq R8 Tryz.f95=true:=by kernel_rfl
theorem AoK:Bq Tryz.prog Ah AlU WA Tryz.f35=true:=by kernel_rfl
theorem Arv:Bq Tryz.prog Ah AlA Xe Tryz.f96=true:=by kernel_rfl
theorem Alf:Bq Tryz.prog Ah AiF Vw Tryz.f36=true:=by kernel_rfl
theorem Asm:Bq Tryz.prog Ah ApO Zp Tryz.f99=true:=by kernel_rfl
theorem Axo:Bq Tryz.prog Ah As2 Aac Tryz.f173=true:=by kernel_rfl
theorem ArZ:Bq Tryz.prog Ah Ap9 YD Tryz.f213=true:=by kernel_rfl
theorem Afu:Bq Tryz.prog Ah AdA Qd Tryz.f170=true:=by kernel_rfl
theorem AdQ:Bq Tryz.prog Ah AcG Ov Tryz.f100=true:=by kernel_rfl
theorem Aix:Bq Tryz.prog Ah AfJ Sz Tryz.f101=true:=by kernel_rfl
theorem Atj:Bq Tryz.prog Ah AqG Y3 Tryz.f214=true:=by kernel_rfl
theorem Alj:Bq Tryz.prog Ah AiI UG Tryz.f171=true:=by kernel_rfl
theorem AjB:Bq Tryz.prog Ah AfL Sv Tryz.f102=true:=by kernel_rfl
theorem Ang:Bq Tryz.prog Ah AhH UN Tryz.f172=true:=by kernel_rfl
theorem AiB:Bq Tryz.prog Ah Agf Ta Tryz.f103=true:=by kernel_rfl
theorem Apf:Bq Tryz.prog Ah AlV WM Tryz.f38=true:=by kernel_rfl
theorem AqM:Bq Tryz.prog Ah Am6 Xg Tryz.f104=true:=by kernel_rfl
theorem AmZ:Bq Tryz.prog Ah AhG U0 Tryz.f39=true:=by kernel_rfl
theorem AsM:Bq Tryz.prog Ah AqO YS Tryz.f105=true:=by kernel_rfl
theorem Avk:Bq Tryz.prog Ah Asb Abo Tryz.f177=true:=by kernel_rfl
theorem AsW:Bq Tryz.prog Ah Aoc Za Tryz.f215=true:=by kernel_rfl
theorem Afo:Bq Tryz.prog Ah Aei PV Tryz.f174=true:=by kernel_rfl
theorem Adc:Bq Tryz.prog Ah Aca Pf Tryz.f106=true:=by kernel_rfl
theorem AhY:Bq Tryz.prog Ah AeQ Sk Tryz.f107=true:=by kernel_rfl
theorem Ath:Bq Tryz.prog Ah Aqn Yx Tryz.f216=true:=by kernel_rfl
theorem Alz:Bq Tryz.prog Ah Aih Vd Tryz.f175=true:=by kernel_rfl
theorem Aii:Bq Tryz.prog Ah AfV Tz Tryz.f108=true:=by kernel_rfl
theorem Alo:Bq Tryz.prog Ah AjA UE Tryz.f176=true:=by kernel_rfl
theorem AjT:Bq Tryz.prog Ah Afc Sr Tryz.f109=true:=by kernel_rfl
theorem Aq4:Bq Tryz.prog Ah Ak5 Wl Tryz.f40=true:=by kernel_rfl
theorem AqX:Bq Tryz.prog Ah Ane WL Tryz.f110=true:=by kernel_rfl
theorem Amc:Bq Tryz.prog Ah AhK UB Tryz.f41=true:=by kernel_rfl
theorem AlL:Bq Tryz.prog Ah AiG Vf Tryz.f111=true:=by kernel_rfl
theorem Am3:Bq Tryz.prog Ah Ajg Vh Tryz.f178=true:=by kernel_rfl
theorem Aah:Bq Tryz.prog Ah ZX Ms Tryz.f112=true:=by kernel_rfl
theorem Ado:Bq Tryz.prog Ah Acy OY Tryz.f113=true:=by kernel_rfl
theorem Adv:Bq Tryz.prog Ah Ab3 OB Tryz.f114=true:=by kernel_rfl
theorem AeM:Bq Tryz.prog Ah Ab5 OX Tryz.f115=true:=by kernel_rfl
theorem Aiv:Bq Tryz.prog Ah Agq SF Tryz.f42=true:=by kernel_rfl
theorem Ahg:Bq Tryz.prog Ah Adx QI Tryz.f43=true:=by kernel_rfl
theorem Al4:Bq Tryz.prog Ah Aiu Vr Tryz.f116=true:=by kernel_rfl
theorem AkP:Bq Tryz.prog Ah Aj1 Vq Tryz.f179=true:=by kernel_rfl
theorem Aax:Bq Tryz.prog Ah ZY ME Tryz.f117=true:=by kernel_rfl
theorem Ady:Bq Tryz.prog Ah Ab1 Po Tryz.f118=true:=by kernel_rfl
theorem AdP:Bq Tryz.prog Ah Acz OJ Tryz.f119=true:=by kernel_rfl
theorem Aec:Bq Tryz.prog Ah Ace OZ Tryz.f120=true:=by kernel_rfl
theorem Ai4:Bq Tryz.prog Ah Agm RO Tryz.f44=true:=by kernel_rfl
theorem X5:Bq Tryz.prog Ah Xn J8 Tryz.f5=true:=by kernel_rfl
theorem Al6:JV (DD 65):=by unfold JV;intros;refine lk (g:=65) rfl Tryz.func165 Ar3 ?_;apply AIB _<;>assumption
theorem U9:H6 (DD 66):=by unfold H6;intros;refine lk (g:=66) rfl Tryz.func166 AoZ ?_;apply AFA _<;>assumption
theorem AcU:KJ (DD 67):=by unfold KJ;intros;refine lk (g:=67) rfl Tryz.func135 Ajf ?_;apply AAk _<;>assumption
theorem Fz:CV (DD 22):=by unfold CV;intros;refine lk (g:=22) rfl Tryz.func97 AoE ?_;apply AEs _ Al6 U9 AcU<;>assumption
theorem FT:TF (DD 71):=by unfold TF;intros;refine lk (g:=71) rfl Tryz.func132 Ay4 ?_;apply AMd _<;>assumption
theorem Aoq:AxR (DD 215):=by unfold AxR;intros;refine lk (g:=215) rfl Tryz.func217 AA1 ?_;apply AMY _<;>assumption
theorem ACg:ADq (DD 253):=by unfold ADq;intros;refine lk (g:=253) rfl Tryz.func230 ACf ?_;apply AMj _<;>assumption
theorem ACm:ADe (DD 212):=by unfold ADe;intros;refine lk (g:=212) rfl Tryz.func191 ApZ ?_;apply AET _ Aoq ACg<;>assumption
theorem QN:Ho (DD 250):=by unfold Ho;intros;refine lk (g:=250) rfl Tryz.func266 Afk ?_;apply AtE _ FT<;>assumption
theorem YG:AbL (DD 217):=by unfold AbL;intros;refine lk (g:=217) rfl Tryz.func221 AsJ ?_;apply AIQ _ FT<;>assumption
theorem Aae:Tx (DD 152):=by unfold Tx;intros;refine lk (g:=152) rfl Tryz.func186 Awv ?_;apply AHR _ FT YG<;>assumption
theorem FY:Co (DD 208):=by unfold Co;intros;refine lk (g:=208) rfl Tryz.func246 Aev ?_;apply App _ FT<;>assumption
theorem Xt:Iq (DD 207):=by unfold Iq;intros;refine lk (g:=207) rfl Tryz.func227 AfY ?_;apply AsG _ FT QN Aae FY<;>assumption
theorem Aux:AsZ (DD 339):=by unfold AsZ;intros;refine lk (g:=339) rfl Tryz.func353 ACP ?_;apply AMI _ FT<;>assumption
theorem Ac9:ZF (DD 338):=by unfold ZF;intros;refine lk (g:=338) rfl Tryz.func354 AxK ?_;apply AKL _ Aux<;>assumption
theorem Apw:Ac5 (DD 313):=by unfold Ac5;intros;refine lk (g:=313) rfl Tryz.func318 Asv ?_;apply ALo _ Ac9 Aux<;>assumption
theorem AmE:Ld (DD 310):=by unfold Ld;intros;refine lk (g:=310) rfl Tryz.func315 Aje ?_;apply AwZ _ Apw<;>assumption
theorem Afn:Nb (DD 308):=by unfold Nb;intros;refine lk (g:=308) rfl Tryz.func312 Asq ?_;apply AEd _<;>assumption
theorem KG:PN (DD 166):=by unfold PN;intros;refine lk (g:=166) rfl Tryz.func193 Awt ?_;apply AKp _<;>assumption
theorem AcV:Pp (DD 331):=by unfold Pp;intros;refine lk (g:=331) rfl Tryz.func347 AnV ?_;apply AA7 _ KG<;>assumption
theorem Afz:Q8 (DD 311):=by unfold Q8;intros;refine lk (g:=311) rfl Tryz.func316 Aqk ?_;apply AEy _ Afn AcV<;>assumption
theorem AQx:Tf (DD 309):=by unfold Tf;intros;refine lk (g:=309) rfl Tryz.func314 Av8 ?_;apply AIY _<;>assumption
theorem M0:Ia (DD 312):=by unfold Ia;intros;refine lk (g:=312) rfl Tryz.func317 Aph ?_;apply ABA _ FT YG AQx<;>assumption
theorem Am9:LQ (DD 283):=by unfold LQ;intros;refine lk (g:=283) rfl Tryz.func270 AhW ?_;apply AvU _ AmE Afz M0 AQx Apw<;>assumption
theorem AtH:RI (DD 251):=by unfold RI;intros;refine lk (g:=251) rfl Tryz.func229 AoJ ?_;apply ABu _ Xt Am9<;>assumption
theorem Ip:Fe (DD 285):=by unfold Fe;intros;refine lk (g:=285) rfl Tryz.func302 Aqg ?_;apply AB3 _ FY M0<;>assumption
theorem AcN:MS (DD 301):=by unfold MS;intros;refine lk (g:=301) rfl Tryz.func304 Anb ?_;apply ACG _ Afz<;>assumption
theorem Atf:Rx (DD 258):=by unfold Rx;intros;refine lk (g:=258) rfl Tryz.func345 Apy ?_;apply ACH _ Aae Ip KG FT<;>assumption
theorem Oq:Hy (DD 286):=by unfold Hy;intros;refine lk (g:=286) rfl Tryz.func306 AmF ?_;apply AxI _ Ip AcN Atf<;>assumption
theorem Ahl:Ih (DD 355):=by unfold Ih;intros;refine lk (g:=355) rfl Tryz.func365 Aip ?_;apply Avu _<;>assumption
theorem AeU:TI (DD 356):=by unfold TI;intros;refine lk (g:=356) rfl Tryz.func366 AiN ?_;apply AvW _ Ahl<;>assumption
theorem Aqp:N8 (DD 328):=by unfold N8;intros;refine lk (g:=328) rfl Tryz.func341 Ade ?_;apply Ao1 _ Ahl AeU<;>assumption
theorem AgI:Ii (DD 300):=by unfold Ii;intros;refine lk (g:=300) rfl Tryz.func303 Adn ?_;apply Aom _ Oq Aqp<;>assumption
theorem Xx:IA (DD 256):=by unfold IA;intros;refine lk (g:=256) rfl Tryz.func368 Afy ?_;apply AsP _<;>assumption
theorem XV:I9 (DD 260):=by unfold I9;intros;refine lk (g:=260) rfl Tryz.func367 Afq ?_;apply As9 _ FY Xx Oq<;>assumption
theorem Adz:Il (DD 222):=by unfold Il;intros;refine lk (g:=222) rfl Tryz.func342 Acv ?_;apply Ame _ FY XV<;>assumption
theorem Arr:ZH (DD 223):=by unfold ZH;intros;refine lk (g:=223) rfl Tryz.func313 AoG ?_;apply AFT _ KG<;>assumption
theorem Apt:NU (DD 329):=by unfold NU;intros;refine lk (g:=329) rfl Tryz.func344 Ak6 ?_;apply Azm _ M0 XV Xx Oq AeU<;>assumption
theorem Aln:LD (DD 330):=by unfold LD;intros;refine lk (g:=330) rfl Tryz.func343 AiR ?_;apply Av7 _ Ip KG<;>assumption
theorem AqP:N9 (DD 302):=by unfold N9;intros;refine lk (g:=302) rfl Tryz.func305 Aa4 ?_;apply Azh _ Ip Adz Arr Apt Aln<;>assumption
theorem An5:NK (DD 280):=by unfold NK;intros;refine lk (g:=280) rfl Tryz.func267 Amo ?_;apply AyG _ Ip AgI AcN AqP<;>assumption
theorem AqJ:Oc (DD 224):=by unfold Oc;intros;refine lk (g:=224) rfl Tryz.func251 AkN ?_;apply Aye _ KG<;>assumption
theorem L9:EU (DD 168):=by unfold EU;intros;refine lk (g:=168) rfl Tryz.func220 AgZ ?_;apply ArQ _ AqJ FY<;>assumption
theorem Ag8:Je (DD 332):=by unfold Je;intros;refine lk (g:=332) rfl Tryz.func346 Adq ?_;apply AqL _ QN<;>assumption
theorem Axq:VZ (DD 303):=by unfold VZ;intros;refine lk (g:=303) rfl Tryz.func307 Ach ?_;apply AEY _ L9 Ip AcV Ag8<;>assumption
theorem AaG:KH (DD 333):=by unfold KH;intros;refine lk (g:=333) rfl Tryz.func348 AkU ?_;apply Ayc _ FT M0<;>assumption
theorem Amz:K6 (DD 304):=by unfold K6;intros;refine lk (g:=304) rfl Tryz.func308 AhI ?_;apply Axs _ AQx QN Ip AaG KG<;>assumption
theorem X3:IB (DD 337):=by unfold IB;intros;refine lk (g:=337) rfl Tryz.func352 AgW ?_;apply Ar1 _ M0<;>assumption
theorem Aj0:J3 (DD 305):=by unfold J3;intros;refine lk (g:=305) rfl Tryz.func310 AeT ?_;apply AsN _ Ip X3<;>assumption
theorem Aga:Jd (DD 306):=by unfold Jd;intros;refine lk (g:=306) rfl Tryz.func311 Aex ?_;apply An8 _ AaG X3<;>assumption
theorem AoV:NN (DD 210):=by unfold NN;intros;refine lk (g:=210) rfl Tryz.func248 AgV ?_;apply Ayn _ FT<;>assumption
theorem AcZ:M6 (DD 334):=by unfold M6;intros;refine lk (g:=334) rfl Tryz.func349 Ab9 ?_;apply ACX _ YG<;>assumption
theorem Amv:Lf (DD 335):=by unfold Lf;intros;refine lk (g:=335) rfl Tryz.func351 Z5 ?_;apply Avo _ AcZ Ac9<;>assumption
theorem AAa:Aa5 (DD 336):=by unfold Aa5;intros;refine lk (g:=336) rfl Tryz.func350 Akb ?_;apply AIw _ Ac9<;>assumption
theorem AwU:TV (DD 307):=by unfold TV;intros;refine lk (g:=307) rfl Tryz.func309 AmN ?_;apply AEo _ AoV AcZ FT Amv AAa<;>assumption
theorem AnQ:NP (DD 281):=by unfold NP;intros;refine lk (g:=281) rfl Tryz.func268 Ald ?_;apply Ayb _ Oq Axq Amz Aj0 Aga AwU Afn<;>assumption
theorem Ase:Rl (DD 282):=by unfold Rl;intros;refine lk (g:=282) rfl Tryz.func269 Apv ?_;apply ABc _ Arr AQx FT<;>assumption
theorem ABa:AkG (DD 252):=by unfold AkG;intros;refine lk (g:=252) rfl Tryz.func228 AzV ?_;apply AKs _ An5 AnQ Ase<;>assumption
theorem Asu:RB (DD 213):=by unfold RB;intros;refine lk (g:=213) rfl Tryz.func190 AqH ?_;apply AA8 _ Xt AtH ABa<;>assumption
theorem Aw8:VG (DD 142):=by unfold VG;intros;refine lk (g:=142) rfl Tryz.func133 ArJ ?_;apply AEa _ FT ACm Asu<;>assumption
theorem Ku:EP (DD 145):=by unfold EP;intros;refine lk (g:=145) rfl Tryz.func180 AiM ?_;apply Avs _ FT<;>assumption
theorem ArN:Rm (DD 284):=by unfold Rm;intros;refine lk (g:=284) rfl Tryz.func271 Ara ?_;apply ACF _ FT<;>assumption
theorem AtP:Rb (DD 254):=by unfold Rb;intros;refine lk (g:=254) rfl Tryz.func231 Ap5 ?_;apply ACo _ Ku FT ArN<;>assumption
theorem Aou:Ac3 (DD 214):=by unfold Ac3;intros;refine lk (g:=214) rfl Tryz.func192 Ax1 ?_;apply ALu _ AtP<;>assumption
theorem Atb:Rj (DD 143):=by unfold Rj;intros;refine lk (g:=143) rfl Tryz.func134 AoI ?_;apply ACx _ FT Aou KG<;>assumption
theorem Z7:Mh (DD 155):=by unfold Mh;intros;refine lk (g:=155) rfl Tryz.func194 AlY ?_;apply Ayt _ KG<;>assumption
theorem Aly:GD (DD 144):=by unfold GD;intros;refine lk (g:=144) rfl Tryz.func136 Ah2 ?_;apply AwF _ Z7<;>assumption
theorem Ar5:NW (DD 72):=by unfold NW;intros;refine lk (g:=72) rfl Tryz.func55 Alt ?_;apply Ayu _ Fz FT Aw8 Atb AcU Aly<;>assumption
theorem Aku:Apu (DD 159):=by unfold Apu;intros;refine lk (g:=159) rfl Tryz.func156 Avv ?_;apply ALg _<;>assumption
theorem Xr:Io (DD 146):=by unfold Io;intros;refine lk (g:=146) rfl Tryz.func181 Agw ?_;apply Atp _ Fz Ku Aou Aku Aoq<;>assumption
theorem Aor:LB (DD 74):=by unfold LB;intros;refine lk (g:=74) rfl Tryz.func121 Ajo ?_;apply Awy _ Fz Ku Xr<;>assumption
theorem Arj:Ob (DD 156):=by unfold Ob;intros;refine lk (g:=156) rfl Tryz.func218 Ak1 ?_;apply AyJ _ FT<;>assumption
theorem Aoa:Lr (DD 82):=by unfold Lr;intros;refine lk (g:=82) rfl Tryz.func182 Aif ?_;apply AvY _ Z7 Arj<;>assumption
theorem Alc:Lj (DD 147):=by unfold Lj;intros;refine lk (g:=147) rfl Tryz.func183 AjC ?_;apply Awf _ U9 Ku<;>assumption
theorem AmO:LK (DD 148):=by unfold LK;intros;refine lk (g:=148) rfl Tryz.func184 Ajt ?_;apply Axp _ U9 Ku<;>assumption
theorem QG:Oe (DD 167):=by unfold Oe;intros;refine lk (g:=167) rfl Tryz.func219 Agn ?_;apply Awh _<;>assumption
theorem Adg:Ik (DD 149):=by unfold Ik;intros;refine lk (g:=149) rfl Tryz.func185 Acp ?_;apply Anf _ Fz QG L9<;>assumption
theorem ApX:LG (DD 75):=by unfold LG;intros;refine lk (g:=75) rfl Tryz.func123 Ajz ?_;apply Au3 _ Fz Aoa Alc Xr AmO Adg<;>assumption
theorem AwJ:Rs (DD 95):=by unfold Rs;intros;refine lk (g:=95) rfl Tryz.func211 Aot ?_;apply ABG _<;>assumption
theorem ArY:NR (DD 96):=by unfold NR;intros;refine lk (g:=96) rfl Tryz.func279 AmV ?_;apply Azz _ L9 QG<;>assumption
theorem AAm:AaD (DD 255):=by unfold AaD;intros;refine lk (g:=255) rfl Tryz.func280 Aw9 ?_;apply AI6 _ L9<;>assumption
theorem Ani:LA (DD 216):=by unfold LA;intros;refine lk (g:=216) rfl Tryz.func250 AiA ?_;apply Axi _ FY KG FT ArY AAm<;>assumption
theorem AcC:G9 (DD 150):=by unfold G9;intros;refine lk (g:=150) rfl Tryz.func210 AaA ?_;apply AjR _ Ani QG<;>assumption
theorem Am2:JW (DD 76):=by unfold JW;intros;refine lk (g:=76) rfl Tryz.func167 Afj ?_;apply Ar8 _ Fz AwJ AcC<;>assumption
theorem AiX:JY (DD 151):=by unfold JY;intros;refine lk (g:=151) rfl Tryz.func212 AgU ?_;apply Asf _ FY FT KG Aku<;>assumption
theorem Al7:JZ (DD 77):=by unfold JZ;intros;refine lk (g:=77) rfl Tryz.func168 Aff ?_;apply As5 _ Fz AiX<;>assumption
theorem Aw5:Rh (DD 78):=by unfold Rh;intros;refine lk (g:=78) rfl Tryz.func124 Aox ?_;apply ACI _ Fz FT Aae<;>assumption
theorem Arh:Lc (DD 79):=by unfold Lc;intros;refine lk (g:=79) rfl Tryz.func169 Ai2 ?_;apply AwM _ Fz FT<;>assumption
theorem AtG:NZ (DD 80):=by unfold NZ;intros;refine lk (g:=80) rfl Tryz.func122 Al2 ?_;apply Ayy _ Fz FT<;>assumption
theorem Ank:JX (DD 27):=by unfold JX;intros;refine lk (g:=27) rfl Tryz.func98 Afd ?_;apply AtL _ Fz Ar5 Aor ApX Am2 Al7 Aw5 Arh AtG<;>assumption
theorem Ak0:Li (DD 485):=by unfold Li;intros;refine lk (g:=485) rfl Tryz.func37 AiO ?_;apply AvX _ Fz Ank<;>assumption
theorem Ahh:Af6 (DD 172):=by unfold Af6;intros;refine lk (g:=172) rfl Tryz.func67 AlF ?_;apply ABL _<;>assumption
theorem Aja:JV (DD 102):=by unfold JV;intros;refine lk (g:=102) rfl Tryz.func128 AcJ ?_;apply ApJ _ Ahh<;>assumption
theorem R3:H6 (DD 101):=by unfold H6;intros;refine lk (g:=101) rfl Tryz.func127 Ac6 ?_;apply AsC _<;>assumption
theorem Z6:KJ (DD 103):=by unfold KJ;intros;refine lk (g:=103) rfl Tryz.func53 Ahb ?_;apply Avx _<;>assumption
theorem FB:CV (DD 38):=by unfold CV;intros;refine lk (g:=38) rfl Tryz.func49 AhZ ?_;apply AzH _ Aja R3 Z6<;>assumption
theorem FN:TF (DD 114):=by unfold TF;intros;refine lk (g:=114) rfl Tryz.func68 Ao4 ?_;apply AFo _<;>assumption
theorem O5:VT (DD 117):=by unfold VT;intros;refine lk (g:=117) rfl Tryz.func50 Atu ?_;apply AH6 _ FN<;>assumption
theorem Gc:Co (DD 232):=by unfold Co;intros;refine lk (g:=232) rfl Tryz.func143 AdM ?_;apply Aoo _ FN<;>assumption
theorem AgM:Ue (DD 266):=by unfold Ue;intros;refine lk (g:=266) rfl Tryz.func202 Acx ?_;apply Aty _ FN<;>assumption
theorem Am8:Zf DD (DD 404):=by unfold Zf;intros;refine lk (g:=404) rfl Tryz.func245 Ro ?_;apply AyK _<;>assumption
theorem Uw:M7 DD (DD 267):=by unfold M7;intros;refine lk (g:=267) rfl Tryz.func201 OU ?_;apply An9 _ Am8<;>assumption
theorem JF:J2 (DD 233):=by unfold J2;intros;refine lk (g:=233) rfl Tryz.func145 Agj ?_;apply AvL _ AgM Uw<;>assumption
theorem AsL:Ag6 (DD 235):=by unfold Ag6;intros;refine lk (g:=235) rfl Tryz.func70 AqR ?_;apply ACO _ JF<;>assumption
theorem XC:Ho (DD 279):=by unfold Ho;intros;refine lk (g:=279) rfl Tryz.func204 AfC ?_;apply AsH _ FN<;>assumption
theorem X7:Ru (DD 270):=by unfold Ru;intros;refine lk (g:=270) rfl Tryz.func149 Af2 ?_;apply ArX _ XC Uw<;>assumption
theorem Aa6:Tx (DD 183):=by unfold Tx;intros;refine lk (g:=183) rfl Tryz.func66 Av2 ?_;apply AIa _ FN JF<;>assumption
theorem Ae0:TM (DD 271):=by unfold TM;intros;refine lk (g:=271) rfl Tryz.func150 Ab0 ?_;apply Ati _ Aa6<;>assumption
theorem AdY:QZ DD (DD 406):=by unfold QZ;intros;refine lk (g:=406) rfl Tryz.func152 KX ?_;apply AnU _<;>assumption
theorem Z0:Mg DD (DD 272):=by unfold Mg;intros;refine lk (g:=272) rfl Tryz.func77 Kh ?_;apply AfS _ AdY<;>assumption
theorem XM:Iq (DD 239):=by unfold Iq;intros;refine lk (g:=239) rfl Tryz.func74 Afp ?_;apply Ar6 _ Gc AsL X7 Ae0 Z0 FN<;>assumption
theorem ArD:Afr (DD 350):=by unfold Afr;intros;refine lk (g:=350) rfl Tryz.func294 AfH ?_;apply Ay2 _<;>assumption
theorem K4:NS DD (DD 298):=by unfold NS;intros;refine lk (g:=298) rfl Tryz.func293 AmY ?_;apply ACh _<;>assumption
theorem Aho:Q8 (DD 318):=by unfold Q8;intros;refine lk (g:=318) rfl Tryz.func259 AmK ?_;apply ACE _ ArD K4<;>assumption
theorem Auy:AsZ (DD 354):=by unfold AsZ;intros;refine lk (g:=354) rfl Tryz.func298 AB7 ?_;apply AM5 _ FN<;>assumption
theorem AeL:ZF (DD 353):=by unfold ZF;intros;refine lk (g:=353) rfl Tryz.func299 AzE ?_;apply AK4 _ Auy<;>assumption
theorem AnR:Ac5 (DD 322):=by unfold Ac5;intros;refine lk (g:=322) rfl Tryz.func264 Aso ?_;apply ALj _ AeL Auy<;>assumption
theorem Alq:Ld (DD 319):=by unfold Ld;intros;refine lk (g:=319) rfl Tryz.func260 AiC ?_;apply Awr _ AnR<;>assumption
theorem Awx:AnK (DD 351):=by unfold AnK;intros;refine lk (g:=351) rfl Tryz.func296 ApU ?_;apply AI0 _<;>assumption
theorem UM:MN DD (DD 352):=by unfold MN;intros;refine lk (g:=352) rfl Tryz.func295 KY ?_;apply ApF _<;>assumption
theorem AkD:Tf (DD 321):=by unfold Tf;intros;refine lk (g:=321) rfl Tryz.func262 AvG ?_;apply AHn _ Awx UM<;>assumption
theorem MR:Ia (DD 320):=by unfold Ia;intros;refine lk (g:=320) rfl Tryz.func261 Aok ?_;apply AAQ _ FN AkD JF<;>assumption
theorem AwP:AvJ (DD 323):=Azk (k:=263) rfl (fun b o c w=>Go.Eng.Ins.AOt b o c w) (fun b o c v w h=>Go.Eng.Ins.AOw b o c v w h) (fun b o c v w h=>Go.Eng.Ins.AOu b o c v w h)
theorem Axt:AvV (DD 324):=AyL (k:=265) rfl Go.Eng.Ins.AOs
theorem Alu:LQ (DD 290):=by unfold LQ;intros;refine lk (g:=290) rfl Tryz.func225 Agx ?_;apply AwS _ Aho Alq MR AkD AnR AwP Axt<;>assumption
theorem Asn:RI (DD 261):=by unfold RI;intros;refine lk (g:=261) rfl Tryz.func188 AqA ?_;apply ACn _ XM Alu<;>assumption
theorem Js:Fe (DD 292):=by unfold Fe;intros;refine lk (g:=292) rfl Tryz.func252 Ark ?_;apply AB6 _ Gc MR<;>assumption
theorem AcS:MS (DD 293):=by unfold MS;intros;refine lk (g:=293) rfl Tryz.func254 AjG ?_;apply AxT _ Aho<;>assumption
theorem AFh:AMr (DD 325):=AKS (k:=357) rfl (fun b off n c zs w h1 h2 h3 h4=>Tryz.slices_Max_int b off n c zs w h1 h2 h3 h4)
theorem AzL:AwX (DD 389):=by unfold AwX;intros;refine lk (g:=389) rfl Tryz.func151 VA ?_;apply AKo _<;>assumption
theorem I8:PN (DD 188):=by unfold PN;intros;refine lk (g:=188) rfl Tryz.func76 Sc ?_;apply AAZ _ AzL<;>assumption
theorem Awi:AnD (DD 326):=by unfold AnD;intros;refine lk (g:=326) rfl Tryz.func359 AqC ?_;apply AIq _ I8 FN<;>assumption
theorem ZT:Md DD (DD 327):=by unfold Md;intros;refine lk (g:=327) rfl Tryz.func358 J9 ?_;apply Agu _ UM<;>assumption
theorem AzB:Awb (DD 295):=by unfold Awb;intros;refine lk (g:=295) rfl Tryz.func325 Awa ?_;apply AKw _ AFh Awi ZT<;>assumption
theorem Aya:ACy (DD 296):=AEO (k:=326) rfl (fun n c w=>Tryz.slices_Clone_int_nil n c w) (fun a c w=>Tryz.slices_Clone_int_zero a c w) (fun b off n c zs w h1 h2 h3=>Tryz.slices_Clone_int b off n c zs w h1 h2 h3)
theorem Ao0:AbJ (DD 297):=by unfold AbJ;intros;refine lk (g:=297) rfl Tryz.func327 Ajq ?_;apply ABd _ I8<;>assumption
theorem ArM:Rx (DD 294):=by unfold Rx;intros;refine lk (g:=294) rfl Tryz.func285 AoC ?_;apply ABB _ Aa6 Js AzB Aya Ao0 K4<;>assumption
theorem PE:Hy (DD 274):=by unfold Hy;intros;refine lk (g:=274) rfl Tryz.func256 Alv ?_;apply AzK _ Js AcS ArM<;>assumption
theorem Ahi:Ih (DD 357):=by unfold Ih;intros;refine lk (g:=357) rfl Tryz.func80 Vy ?_;apply AG1 _<;>assumption
theorem AnT:Xp (DD 371):=by unfold Xp;intros;refine lk (g:=371) rfl Tryz.func356 AkX ?_;apply ACl _ Ahi<;>assumption
theorem AkW:Y4 DD (DD 372):=by unfold Y4;intros;refine lk (g:=372) rfl Tryz.func355 Gx ?_;apply AzD _<;>assumption
theorem AvE:TI (DD 358):=by unfold TI;intros;refine lk (g:=358) rfl Tryz.func321 Aj8 ?_;apply AwL _ AnT AkW<;>assumption
theorem ApH:N8 (DD 340):=by unfold N8;intros;refine lk (g:=340) rfl Tryz.func281 Aef ?_;apply AoH _ Ahi AvE<;>assumption
theorem VO:Ii (DD 314):=by unfold Ii;intros;refine lk (g:=314) rfl Tryz.func253 AeC ?_;apply ApV _ PE ApH<;>assumption
theorem X4:IA (DD 273):=by unfold IA;intros;refine lk (g:=273) rfl Tryz.func322 AgD ?_;apply Ate _<;>assumption
theorem Ael:Il (DD 240):=by unfold Il;intros;refine lk (g:=240) rfl Tryz.func282 Acd ?_;apply AmT _ Gc X4 PE<;>assumption
theorem Y0:ZH (DD 189):=by unfold ZH;intros;refine lk (g:=189) rfl Tryz.func140 Abi ?_;apply ABC _ I8<;>assumption
theorem Ai1:I9 (DD 360):=by unfold I9;intros;refine lk (g:=360) rfl Tryz.func324 Ahz ?_;apply AtV _ Gc X4 PE<;>assumption
theorem ApS:NU (DD 341):=by unfold NU;intros;refine lk (g:=341) rfl Tryz.func284 Ann ?_;apply AxS _ MR Ai1 VO<;>assumption
theorem Aik:VI (DD 359):=by unfold VI;intros;refine lk (g:=359) rfl Tryz.func323 Adj ?_;apply Avj _ I8<;>assumption
theorem Alp:LD (DD 342):=by unfold LD;intros;refine lk (g:=342) rfl Tryz.func283 AhD ?_;apply Au9 _ Js Y0 Aik K4<;>assumption
theorem Aqv:N9 (DD 315):=by unfold N9;intros;refine lk (g:=315) rfl Tryz.func255 Abm ?_;apply Ax0 _ Ael Y0 ApS Alp<;>assumption
theorem Aqa:NK (DD 287):=by unfold NK;intros;refine lk (g:=287) rfl Tryz.func222 AlD ?_;apply Ayw _ Js VO AcS Aqv<;>assumption
theorem AoD:Oc (DD 242):=by unfold Oc;intros;refine lk (g:=242) rfl Tryz.func196 Ami ?_;apply Ayk _ I8<;>assumption
theorem Me:EU (DD 190):=by unfold EU;intros;refine lk (g:=190) rfl Tryz.func141 Af5 ?_;apply Asw _ AoD Gc<;>assumption
theorem AoM:AbB (DD 374):=by unfold AbB;intros;refine lk (g:=374) rfl Tryz.func361 AiS ?_;apply ACb _ I8<;>assumption
theorem AsE:Pp (DD 361):=by unfold Pp;intros;refine lk (g:=361) rfl Tryz.func329 Ao2 ?_;apply ABF _ AoM K4<;>assumption
theorem AlR:Zw (DD 373):=by unfold Zw;intros;refine lk (g:=373) rfl Tryz.func360 AaQ ?_;apply ApW _ XC<;>assumption
theorem Ag0:Je (DD 362):=by unfold Je;intros;refine lk (g:=362) rfl Tryz.func328 AdU ?_;apply Art _ AlR K4<;>assumption
theorem Au7:VZ (DD 343):=by unfold VZ;intros;refine lk (g:=343) rfl Tryz.func286 AcL ?_;apply AFQ _ Me Js AsE Ag0<;>assumption
theorem Abl:KH (DD 369):=by unfold KH;intros;refine lk (g:=369) rfl Tryz.func336 Anq ?_;apply Azb _ FN MR<;>assumption
theorem TJ:Nb (DD 317):=by unfold Nb;intros;refine lk (g:=317) rfl Tryz.func258 AtT ?_;apply AEV _<;>assumption
theorem Amh:Yw (DD 370):=by unfold Yw;intros;refine lk (g:=370) rfl Tryz.func337 Aj7 ?_;apply AwQ _ TJ X7<;>assumption
theorem Ala:K6 (DD 348):=by unfold K6;intros;refine lk (g:=348) rfl Tryz.func291 AhU ?_;apply Awl _ Js Abl I8 TJ Y0 Amh<;>assumption
theorem Yl:IB (DD 367):=by unfold IB;intros;refine lk (g:=367) rfl Tryz.func334 Aft ?_;apply As3 _ MR<;>assumption
theorem ABx:AHZ (DD 419):=AFJ (k:=363) rfl (fun w=>Go.Eng.Ins.ANG w) (fun n w h1 h2=>Go.Eng.Ins.ANZ n w h1 h2)
theorem Ags:Afs (DD 368):=by unfold Afs;intros;refine lk (g:=368) rfl Tryz.func335 TG ?_;apply AHb _ ABx<;>assumption
theorem AiW:J3 (DD 345):=by unfold J3;intros;refine lk (g:=345) rfl Tryz.func289 Ae1 ?_;apply ArV _ Js Yl Ags<;>assumption
theorem AgQ:Jd (DD 346):=by unfold Jd;intros;refine lk (g:=346) rfl Tryz.func290 AeK ?_;apply AqS _ Abl Yl<;>assumption
theorem Aqj:NN (DD 236):=by unfold NN;intros;refine lk (g:=236) rfl Tryz.func71 Ae7 ?_;apply AAc _ FN<;>assumption
theorem AqQ:Abr (DD 375):=by unfold Abr;intros;refine lk (g:=375) rfl Tryz.func362 ZR ?_;apply ACV _ JF<;>assumption
theorem AcH:Om DD (DD 405):=by unfold Om;intros;refine lk (g:=405) rfl Tryz.func203 Og ?_;apply AlB _<;>assumption
theorem Y5:KT DD (DD 269):=by unfold KT;intros;refine lk (g:=269) rfl Tryz.func146 MC ?_;apply AdK _ AcH<;>assumption
theorem Ac0:M6 (DD 364):=by unfold M6;intros;refine lk (g:=364) rfl Tryz.func331 AcB ?_;apply AA6 _ AqQ Y5<;>assumption
theorem AmH:Lf (DD 365):=by unfold Lf;intros;refine lk (g:=365) rfl Tryz.func333 ZV ?_;apply Axm _ Ac0 AeL<;>assumption
theorem Az9:Aa5 (DD 366):=by unfold Aa5;intros;refine lk (g:=366) rfl Tryz.func332 Ah4 ?_;apply AHT _ Ags AeL<;>assumption
theorem AfE:TV (DD 347):=by unfold TV;intros;refine lk (g:=347) rfl Tryz.func288 Alh ?_;apply AFR _ Aqj Ac0 FN AmH Az9<;>assumption
theorem Alr:Yq (DD 349):=by unfold Yq;intros;refine lk (g:=349) rfl Tryz.func292 AiE ?_;apply AwV _ AfE<;>assumption
theorem AxU:AwT (DD 316):=by unfold AwT;intros;refine lk (g:=316) rfl Tryz.func257 Atn ?_;apply AJT _ Au7 Ala AiW AgQ AfE Alr TJ<;>assumption
theorem AqB:NP (DD 288):=by unfold NP;intros;refine lk (g:=288) rfl Tryz.func223 Al8 ?_;apply AAl _ PE AxU<;>assumption
theorem Atr:Rl (DD 289):=by unfold Rl;intros;refine lk (g:=289) rfl Tryz.func224 Aq6 ?_;apply AAT _ Y0 TJ FN<;>assumption
theorem ABs:AkG (DD 262):=by unfold AkG;intros;refine lk (g:=262) rfl Tryz.func187 AyN ?_;apply AJ8 _ Aqa AqB Atr<;>assumption
theorem AtY:RB (DD 227):=by unfold RB;intros;refine lk (g:=227) rfl Tryz.func129 Aqi ?_;apply AA5 _ XM Asn ABs<;>assumption
theorem Avt:VG (DD 173):=by unfold VG;intros;refine lk (g:=173) rfl Tryz.func51 Asl ?_;apply AEZ _ O5 AtY<;>assumption
theorem Ko:EP (DD 176):=by unfold EP;intros;refine lk (g:=176) rfl Tryz.func75 AjI ?_;apply Au5 _ FN<;>assumption
theorem AtU:Rm (DD 291):=by unfold Rm;intros;refine lk (g:=291) rfl Tryz.func226 Aog ?_;apply ACt _ FN<;>assumption
theorem Atd:Rb (DD 263):=by unfold Rb;intros;refine lk (g:=263) rfl Tryz.func189 Arq ?_;apply ABO _ Ko FN AtU<;>assumption
theorem Aqz:Ac3 (DD 228):=by unfold Ac3;intros;refine lk (g:=228) rfl Tryz.func130 Ays ?_;apply AK2 _ Atd<;>assumption
theorem Atm:Rj (DD 174):=by unfold Rj;intros;refine lk (g:=174) rfl Tryz.func52 AoT ?_;apply ABE _ O5 Aqz I8<;>assumption
theorem ZG:GD (DD 229):=by unfold GD;intros;refine lk (g:=229) rfl Tryz.func131 Awc ?_;apply AKa _ I8<;>assumption
theorem Alw:GD (DD 175):=by unfold GD;intros;refine lk (g:=175) rfl Tryz.func54 Ail ?_;apply Av4 _ ZG<;>assumption
theorem AoF:NW (DD 106):=by unfold NW;intros;refine lk (g:=106) rfl Tryz.func8 Ama ?_;apply AAt _ FB O5 Avt Atm Z6 Alw<;>assumption
theorem Ave:ADY (DD 264):=fun l i v hl hi=>ABH (Ah:=Ah) (g:=264) (k:=195) (t3:=Tryz.AcP.t 3) rfl (fun b off n c i vb voff m vc cs vs w h1 h2 h3 h4 h5 h6 h7 h8 h9 h10 h11 h12 h13 tA tB kA kB h14 h15 h16 h17 h18=>Any2.slices_Insert_int_shift Tryz.AbT b off n c i vb voff m vc cs vs w h1 h2 h3 h4 h5 h6 h7 h8 h9 h10 h11 h12 h13 tA tB kA kB h14 h15 h16 h17 h18) (fun b off n c vb voff m vc vs w h1 h2 h3 h4 h5 h6 h7 h8=>Any2.slices_Insert_int_end_room Tryz.AbT b off n c vb voff m vc vs w h1 h2 h3 h4 h5 h6 h7 h8) (fun base n c vb voff m vc cs vs w h1 h2 h3 h4 h5 h6 h7 h8 h9 h10=>Any2.slices_Insert_int_end_grow Tryz.AbT base n c vb voff m vc cs vs w h1 h2 h3 h4 h5 h6 h7 h8 h9 h10) (fun b off n c i vb voff m vc cs vs w h1 h2 h3 h4 h5 h6 h7 h8 h9 h10 h11=>Any2.slices_Insert_int_grow Tryz.AbT b off n c i vb voff m vc cs vs w h1 h2 h3 h4 h5 h6 h7 h8 h9 h10 h11) l i v hl hi
theorem Afb:TL (DD 230):=by unfold TL;intros;refine lk (g:=230) rfl Tryz.func139 AcI ?_;apply ArI _ Ave<;>assumption
theorem XE:Io (DD 177):=by unfold Io;intros;refine lk (g:=177) rfl Tryz.func58 Aeg ?_;apply AsR _ FB Ko Aqz Afb<;>assumption
theorem AmB:LB (DD 107):=by unfold LB;intros;refine lk (g:=107) rfl Tryz.func21 Aiy ?_;apply Aws _ FB Ko XE<;>assumption
theorem Ap1:Mh (DD 193):=by unfold Mh;intros;refine lk (g:=193) rfl Tryz.func137 AlP ?_;apply AyU _ ZG<;>assumption
theorem AoX:Ob (DD 194):=by unfold Ob;intros;refine lk (g:=194) rfl Tryz.func138 Ans ?_;apply AxY _ JF FN<;>assumption
theorem AlS:Lr (DD 127):=by unfold Lr;intros;refine lk (g:=127) rfl Tryz.func56 AjE ?_;apply AwA _ Ap1 AoX<;>assumption
theorem Al0:Lj (DD 178):=by unfold Lj;intros;refine lk (g:=178) rfl Tryz.func57 Ah3 ?_;apply Aw0 _ R3 Ko<;>assumption
theorem AkO:LK (DD 179):=by unfold LK;intros;refine lk (g:=179) rfl Tryz.func59 AjV ?_;apply Av3 _ R3 Ko<;>assumption
theorem WT:Ya (DD 189):=by unfold Ya;intros;refine lk (g:=189) rfl Tryz.func140 Abi ?_;apply AFW _ I8<;>assumption
theorem Ad4:Ik (DD 180):=by unfold Ik;intros;refine lk (g:=180) rfl Tryz.func60 Ack ?_;apply Amj _ FB WT Me<;>assumption
theorem Ak4:LG (DD 108):=by unfold LG;intros;refine lk (g:=108) rfl Tryz.func10 AhF ?_;apply Axj _ FB AlS Al0 XE AkO Ad4<;>assumption
theorem ArH:Rs (DD 123):=by unfold Rs;intros;refine lk (g:=123) rfl Tryz.func63 Apn ?_;apply ABz _<;>assumption
theorem ApE:NR (DD 124):=by unfold NR;intros;refine lk (g:=124) rfl Tryz.func197 AlW ?_;apply Azu _ Me WT<;>assumption
theorem AyM:AaD (DD 265):=by unfold AaD;intros;refine lk (g:=265) rfl Tryz.func198 Avg ?_;apply AIM _ Me<;>assumption
theorem Am4:LA (DD 231):=by unfold LA;intros;refine lk (g:=231) rfl Tryz.func142 AhP ?_;apply AvN _ Gc I8 FN ApE AyM<;>assumption
theorem Acu:G9 (DD 181):=by unfold G9;intros;refine lk (g:=181) rfl Tryz.func62 Z9 ?_;apply AiH _ Am4 WT<;>assumption
theorem Aic:JW (DD 109):=by unfold JW;intros;refine lk (g:=109) rfl Tryz.func12 Agl ?_;apply Atl _ FB ArH Acu<;>assumption
theorem AC2:AHm (DD 197):=AEb (k:=144) rfl (fun p c w=>Tryz.slices_Sort_int_none p c w) (fun b o c zs w h1 h2 h3=>Tryz.slices_Sort_int b o c zs w h1 h2 h3)
theorem AjS:JY (DD 182):=by unfold JY;intros;refine lk (g:=182) rfl Tryz.func64 Ac8 ?_;apply Ar4 _ Gc FN I8 AC2<;>assumption
theorem AiQ:JZ (DD 110):=by unfold JZ;intros;refine lk (g:=110) rfl Tryz.func14 Aht ?_;apply Asg _ FB AjS<;>assumption
theorem Atw:Rh (DD 111):=by unfold Rh;intros;refine lk (g:=111) rfl Tryz.func16 Api ?_;apply ABf _ FB O5 Aa6 Ahh<;>assumption
theorem Alb:Lc (DD 112):=by unfold Lc;intros;refine lk (g:=112) rfl Tryz.func23 AjW ?_;apply AvB _ FB O5<;>assumption
theorem AnZ:NZ (DD 113):=by unfold NZ;intros;refine lk (g:=113) rfl Tryz.func18 Ak3 ?_;apply AyO _ FB FN<;>assumption
theorem AkZ:JX (DD 41):=by unfold JX;intros;refine lk (g:=41) rfl Tryz.func31 Agp ?_;apply Asy _ FB AoF AmB Ak4 Aic AiQ Atw Alb AnZ<;>assumption
theorem AmC:Li (DD 533):=by unfold Li;intros;refine lk (g:=533) rfl Tryz.func27 AjJ ?_;apply Aw4 _ FB AkZ<;>assumption
theorem NQ:TK (DD 16):=by unfold TK;intros;refine lk (g:=16) rfl Tryz.func91 Ass ?_;apply AHO _<;>assumption
theorem AkB:Apc (DD 206):=by unfold Apc;intros;refine lk (g:=206) rfl Tryz.func164 AwI ?_;apply AJ0 _ NQ<;>assumption
theorem AvS:AnC (DD 139):=by unfold AnC;intros;refine lk (g:=139) rfl Tryz.func208 As1 ?_;apply AHy _ AkB<;>assumption
theorem Alx:VY (DD 62):=by unfold VY;intros;refine lk (g:=62) rfl Tryz.func161 AgB ?_;apply Awn _ NQ AvS<;>assumption
theorem Aib:TS (DD 17):=by unfold TS;intros;refine lk (g:=17) rfl Tryz.func92 Aen ?_;apply Atv _ Alx<;>assumption
theorem Aoy:YK (DD 18):=by unfold YK;intros;refine lk (g:=18) rfl Tryz.func93 AhT ?_;apply Ax2 _ NQ<;>assumption
theorem Axh:Anu (DD 140):=by unfold Anu;intros;refine lk (g:=140) rfl Tryz.func209 Asa ?_;apply AHF _ NQ<;>assumption
theorem AcQ:XQ (DD 63):=by unfold XQ;intros;refine lk (g:=63) rfl Tryz.func162 Amq ?_;apply ABt _ Axh NQ<;>assumption
theorem Apd:YU (DD 19):=by unfold YU;intros;refine lk (g:=19) rfl Tryz.func94 AiK ?_;apply AyF _ AcQ<;>assumption
theorem Asj:AbA (DD 64):=by unfold AbA;intros;refine lk (g:=64) rfl Tryz.func163 Amk ?_;apply ACp _ AcQ<;>assumption
theorem Ao7:Zz (DD 20):=by unfold Zz;intros;refine lk (g:=20) rfl Tryz.func95 Ai9 ?_;apply AAg _ Asj<;>assumption
theorem AzM:Ag4 (DD 7):=by unfold Ag4;intros;refine lk (g:=7) rfl Tryz.func35 AoK ?_;apply AEF _ NQ Aib Aoy Apd Ao7<;>assumption
theorem As6:Agg (DD 386):=by unfold Agg;intros;refine lk (g:=386) rfl Tryz.func96 Arv ?_;apply AEE _ AkB<;>assumption
theorem ApG:Abv (DD 380):=by unfold Abv;intros;refine lk (g:=380) rfl Tryz.func36 Alf ?_;apply ACa _ As6<;>assumption
theorem NM:TN (DD 31):=by unfold TN;intros;refine lk (g:=31) rfl Tryz.func99 Asm ?_;apply AG9 _<;>assumption
theorem Akj:Ap7 (DD 226):=by unfold Ap7;intros;refine lk (g:=226) rfl Tryz.func173 Axo ?_;apply AKx _ NM<;>assumption
theorem AvQ:AnJ (DD 170):=by unfold AnJ;intros;refine lk (g:=170) rfl Tryz.func213 ArZ ?_;apply AHk _ Akj<;>assumption
theorem Amy:V3 (DD 98):=by unfold V3;intros;refine lk (g:=98) rfl Tryz.func170 Afu ?_;apply AwR _ NM AvQ<;>assumption
theorem AhJ:Ua (DD 32):=by unfold Ua;intros;refine lk (g:=32) rfl Tryz.func100 AdQ ?_;apply Ar2 _ Amy<;>assumption
theorem AnW:Yu (DD 33):=by unfold Yu;intros;refine lk (g:=33) rfl Tryz.func101 Aix ?_;apply AAq _ NM<;>assumption
theorem AvD:AnA (DD 171):=by unfold AnA;intros;refine lk (g:=171) rfl Tryz.func214 Atj ?_;apply AIh _ NM<;>assumption
theorem AcX:Yg (DD 99):=by unfold Yg;intros;refine lk (g:=99) rfl Tryz.func171 Alj ?_;apply AA0 _ AvD NM<;>assumption
theorem Arp:Zg (DD 34):=by unfold Zg;intros;refine lk (g:=34) rfl Tryz.func102 AjB ?_;apply Ayz _ AcX<;>assumption
theorem ApD:AbO (DD 100):=by unfold AbO;intros;refine lk (g:=100) rfl Tryz.func172 Ang ?_;apply ABv _ AcX<;>assumption
theorem Aoe:Zc (DD 35):=by unfold Zc;intros;refine lk (g:=35) rfl Tryz.func103 AiB ?_;apply Az8 _ ApD<;>assumption
theorem Azd:AfG (DD 8):=by unfold AfG;intros;refine lk (g:=8) rfl Tryz.func38 Apf ?_;apply AEI _ NM AhJ AnW Arp Aoe<;>assumption
theorem AtS:AfT (DD 387):=by unfold AfT;intros;refine lk (g:=387) rfl Tryz.func104 AqM ?_;apply AFL _ Akj<;>assumption
theorem Aqo:Abp (DD 381):=by unfold Abp;intros;refine lk (g:=381) rfl Tryz.func39 AmZ ?_;apply ABb _ AtS<;>assumption
theorem NV:Ih (DD 47):=by unfold Ih;intros;refine lk (g:=47) rfl Tryz.func105 AsM ?_;apply AIR _<;>assumption
theorem AkF:Arm (DD 249):=by unfold Arm;intros;refine lk (g:=249) rfl Tryz.func177 Avk ?_;apply AKF _ NV<;>assumption
theorem Au8:AnB (DD 204):=by unfold AnB;intros;refine lk (g:=204) rfl Tryz.func215 AsW ?_;apply AIk _ AkF<;>assumption
theorem AhM:VL (DD 134):=by unfold VL;intros;refine lk (g:=134) rfl Tryz.func174 Afo ?_;apply Avr _ NV Au8<;>assumption
theorem Ah9:Uk (DD 48):=by unfold Uk;intros;refine lk (g:=48) rfl Tryz.func106 Adc ?_;apply AsY _ AhM<;>assumption
theorem Ao3:ZA (DD 49):=by unfold ZA;intros;refine lk (g:=49) rfl Tryz.func107 AhY ?_;apply Ay1 _ NV<;>assumption
theorem Axd:AnF (DD 205):=by unfold AnF;intros;refine lk (g:=205) rfl Tryz.func216 Ath ?_;apply AIi _ NV<;>assumption
theorem Abj:Ym (DD 135):=by unfold Ym;intros;refine lk (g:=135) rfl Tryz.func175 Alz ?_;apply ACS _ Axd NV<;>assumption
theorem An2:Zd (DD 50):=by unfold Zd;intros;refine lk (g:=50) rfl Tryz.func108 Aii ?_;apply Ayv _ Abj<;>assumption
theorem Aqb:Abt (DD 136):=by unfold Abt;intros;refine lk (g:=136) rfl Tryz.func176 Alo ?_;apply ACR _ Abj<;>assumption
theorem Apz:Y1 (DD 51):=by unfold Y1;intros;refine lk (g:=51) rfl Tryz.func109 AjT ?_;apply AAp _ Aqb<;>assumption
theorem AvP:Ae6 (DD 11):=by unfold Ae6;intros;refine lk (g:=11) rfl Tryz.func40 Aq4 ?_;apply AD8 _ NV Ah9 Ao3 An2 Apz<;>assumption
theorem AsS:AeV (DD 388):=by unfold AeV;intros;refine lk (g:=388) rfl Tryz.func110 AqX ?_;apply AFU _ AkF<;>assumption
theorem ApC:AbP (DD 384):=by unfold AbP;intros;refine lk (g:=384) rfl Tryz.func41 Amc ?_;apply ABX _ AsS<;>assumption
theorem Jw:KF (DD 52):=by unfold KF;intros;refine lk (g:=52) rfl Tryz.func111 AlL ?_;apply ACM _<;>assumption
theorem Aru:AbH (DD 137):=by unfold AbH;intros;refine lk (g:=137) rfl Tryz.func178 Am3 ?_;apply ACz _ Jw<;>assumption
theorem AdD:OT (DD 53):=by unfold OT;intros;refine lk (g:=53) rfl Tryz.func112 Aah ?_;apply AlM _ Jw Aru<;>assumption
theorem Ajc:Ug (DD 54):=by unfold Ug;intros;refine lk (g:=54) rfl Tryz.func113 Ado ?_;apply Atx _ Jw<;>assumption
theorem Aie:Ud (DD 55):=by unfold Ud;intros;refine lk (g:=55) rfl Tryz.func114 Adv ?_;apply AsD _ Jw<;>assumption
theorem Akc:TP (DD 56):=by unfold TP;intros;refine lk (g:=56) rfl Tryz.func115 AeM ?_;apply Asi _ Jw<;>assumption
theorem ApI:YC (DD 12):=by unfold YC;intros;refine lk (g:=12) rfl Tryz.func42 Aiv ?_;apply Azy _ Jw AdD Ajc Aie Akc<;>assumption
theorem AjU:VE (DD 545):=by unfold VE;intros;refine lk (g:=545) rfl Tryz.func43 Ahg ?_;apply Axf _ Jw<;>assumption
theorem KI:L6 (DD 57):=by unfold L6;intros;refine lk (g:=57) rfl Tryz.func116 Al4 ?_;apply AB8 _<;>assumption
theorem Ao8:AbI (DD 138):=by unfold AbI;intros;refine lk (g:=138) rfl Tryz.func179 AkP ?_;apply AAR _ KI<;>assumption
theorem AeA:Px (DD 58):=by unfold Px;intros;refine lk (g:=58) rfl Tryz.func117 Aax ?_;apply Ams _ KI Ao8<;>assumption
theorem Air:TR (DD 59):=by unfold TR;intros;refine lk (g:=59) rfl Tryz.func118 Ady ?_;apply AtO _ KI<;>assumption
theorem AjP:TQ (DD 60):=by unfold TQ;intros;refine lk (g:=60) rfl Tryz.func119 AdP ?_;apply AtF _ KI<;>assumption
theorem AhX:Uh (DD 61):=by unfold Uh;intros;refine lk (g:=61) rfl Tryz.func120 Aec ?_;apply AsK _ KI<;>assumption
theorem AoL:Zm (DD 13):=by unfold Zm;intros;refine lk (g:=13) rfl Tryz.func44 Ai4 ?_;apply AAn _ KI AeA Air AjP AhX<;>assumption
theorem YM:Ph (DD 544):=by unfold Ph;intros;refine lk (g:=544) rfl Tryz.func5 X5 ?_;apply AeH _ Ak0 AmC AzM ApG Azd Aqo AvP ApC ApI AjU AoL<;>assumption
theorem den (av:List V) (h:ADx [Anv,.sl AfN] av):DD 544 av [] (B true) []:=by
 obtain⟨v0,r0,h0,hr0,rfl⟩:=h
 obtain⟨x0,rfl,l0,w0⟩:=AG3 h0
 obtain⟨v1,r1,h1,hr1,rfl⟩:=hr0
 obtain⟨x1,rfl,l1,w1⟩:=AFb h1
 have z:r1=[]:=hr1
 subst z
 apply YM<;>assumption
end Go.Eng.T
