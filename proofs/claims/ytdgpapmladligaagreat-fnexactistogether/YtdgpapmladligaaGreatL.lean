/- Own work: part 47 of the proof of FnExactIsTogether. -/
import Derived.Test.YtdgpapmladligaaGreatP46
import Derived.Test.YtdgpapmladligaaGreatProg
import Derived.KernelRfl
set_option linter.unusedSimpArgs false
set_option linter.unusedVariables false
namespace Go.Eng.T
open Go.Proofs
set_option maxRecDepth 100000
def AAT:List (Option Nat):=[none,none,none,none,none,none,none,some 41,some 43,none,none,some 45,none,none,none,none,some 97,some 98,some 99,some 100,some 101,none,none,none,none,none,none,none,none,none,none,some 104,some 105,some 106,some 107,some 108,none,none,none,none,none,none,none,none,none,none,none,some 109,some 110,some 111,some 112,some 113,none,none,none,none,none,none,none,none,none,none,some 164,some 165,some 166,none,none,none,none,none,none,some 79,none,none,none,none,none,none,none,none,none,none,none,none,none,none,none,none,none,none,none,none,none,none,none,some 78,none,none,some 169,some 170,some 171,none,none,none,none,none,none,none,none,none,none,none,none,none,some 70,none,none,some 90,none,none,none,none,none,some 63,none,none,none,none,none,none,none,none,none,none,some 172,some 47,some 173,none,none,some 211,some 212,none,some 46,none,none,none,none,none,none,none,none,none,some 152,none,none,none,none,none,none,none,none,none,some 42,none,none,none,some 76,none,some 103,none,some 213,some 214,none,some 32,none,none,none,none,none,none,none,none,none,some 149,none,none,none,none,some 69,some 61,some 20,none,none,none,none,none,none,none,none,none,none,some 44,none,none,some 215,some 116,some 251,some 71,some 72,none,some 74,some 77,some 115,some 114,none,some 176,none,some 197,none,none,some 102,none,some 163,some 162,some 168,none,some 252,some 91,none,none,none,none,some 81,some 145,some 62,some 64,some 65,none,none,some 68,some 161,none,some 82,none,none,none,some 28,none,none,some 253,some 151,some 175,some 174,some 177,none,none,some 250,none,some 299,some 167,some 210,some 160,some 159,none,none,none,some 195,some 194,some 144,some 143,some 147,some 148,some 86,some 209,some 208,none,none,none,some 87,some 196,some 216,some 217,some 218,some 219,none,some 254,some 249,some 204,some 205,some 206,some 207,none,some 232,some 238,some 203,some 233,some 234,some 236,some 235,some 88,some 255,some 256,some 257,some 258,some 259,some 261,some 262,some 260,some 263,some 264,some 265,some 266,some 267,some 268,some 237,some 239,some 240,some 241,some 242,some 243,some 244,some 245,some 247,some 246,some 248,some 278,some 280,some 279,some 300,some 302,some 301,some 304,some 303,some 305,some 306,some 308,some 307,some 309,some 311,some 310,some 281,some 283,some 282,some 284,none,some 287,some 288,some 286,some 289,some 290,some 291,some 293,some 292,some 296,some 295,some 332,some 333,some 315,some 316,some 317,some 318,some 320,some 319,none,some 322,some 324,some 323,some 325,some 326,some 327,some 328,some 337,some 336,some 338,some 339,some 340,none,none,none,none,none,none,none,none,none,none,none,none,none,some 150,none,none,none,none,none,none,none,none,none,none,none,none,none,none,some 224,some 193,some 157,none,none,none,none,none,none,none,none,none,none,none,none,some 341,none,none,none,none,none,none,none,none,none,none,none,none,none,none,none,none,none,none,none,none,none,none,none,none,none,none,none,none,none,none,none,none,none,none,none,none,none,none,none,none,none,none,none,none,none,none,none,none,none,none,none,none,none,none,none,none,none,none,none,none,none,none,none,none,none,none,none,none,none,none,none,none,none,none,none,none,none,none,none,none,none,none,none,none,none,none,none,none,none,none,none,some 6,none,none,none,none,none,none,none,none,none,none,none,none,none,none,none,none,none,none,none,none,none,none,none,none,none,none,none,none,none,none]
def Ae:Nat→Option FuncId:=fun g=>AAT.getD g none
theorem Apz:Tryz.prog.follows .mixedOrders=true:=by kernel_rfl
theorem hFl:AAT.all (fun o=>match o with | some f=>okF Tryz.prog f | none=>true)=true:=by kernel_rfl
theorem hF:∀g f,Ae g=some f→okF Tryz.prog f=true:=by
 intro g f h
 have:=List.all_eq_true.1 hFl (some f) (by
  unfold Ae at h
  rw[List.getD_eq_getElem?_getD]at h
  cases hg:AAT[g]? with
  | none=>simp[hg]at h
  | some o=>simp[hg]at h;subst h;exact List.mem_of_getElem? hg)
 exact this
abbrev G0:Gl:=⟨fun _=>False,fun _=>none⟩
abbrev DD:Dn:=Den Tryz.prog Ae G0
theorem lk {g:Nat} {f:FuncId} {fn:Func} {st:List Tmp} {sf:BA} (hg:Ae g=some f) (hfn:Tryz.prog.funcs[f]? =some fn) (hm:BL Tryz.prog Ae st sf fn=true) {a:List V} {gi:List O} {r:V} {o:List O}
 (h:Body DD sf a gi r o):DD g a gi r o:=
 Aw2 Apz (fun _ _ _ _ _ h=>h) hF (fun id hid=>by rw[hg]at hid;cases hid;exact hfn) hm h
theorem AnV:BL Tryz.prog Ae AkX XK Tryz.f79=true:=by kernel_rfl
theorem Ao2:BL Tryz.prog Ae AmI AaL Tryz.f176=true:=by kernel_rfl
theorem AoP:BL Tryz.prog Ae Amo AbK Tryz.f177=true:=by kernel_rfl
theorem Afz:BL Tryz.prog Ae Ac8 QC Tryz.f115=true:=by kernel_rfl
theorem Aas:BL Tryz.prog Ae XI LW Tryz.f151=true:=by kernel_rfl
theorem AiI:BL Tryz.prog Ae Afd Sr Tryz.f197=true:=by kernel_rfl
theorem Ala:BL Tryz.prog Ae AhR UO Tryz.f152=true:=by kernel_rfl
theorem XC:BL Tryz.prog Ae VU KY Tryz.f72=true:=by kernel_rfl
theorem Zw:BL Tryz.prog Ae X5 L9 Tryz.f71=true:=by kernel_rfl
theorem Aqk:BL Tryz.prog Ae Aod AbR Tryz.f310=true:=by kernel_rfl
theorem AnQ:BL Tryz.prog Ae AkT Xv Tryz.f311=true:=by kernel_rfl
theorem AhN:BL Tryz.prog Ae Af0 SB Tryz.f268=true:=by kernel_rfl
theorem AbV:BL Tryz.prog Ae ZT N8 Tryz.f265=true:=by kernel_rfl
theorem AiP:BL Tryz.prog Ae Aga Ti Tryz.f263=true:=by kernel_rfl
theorem Ak3:BL Tryz.prog Ae Ahr Uq Tryz.f76=true:=by kernel_rfl
theorem Aff:BL Tryz.prog Ae AcM QR Tryz.f304=true:=by kernel_rfl
theorem AfF:BL Tryz.prog Ae Adv Rf Tryz.f266=true:=by kernel_rfl
theorem Aj9:BL Tryz.prog Ae AiN Uu Tryz.f264=true:=by kernel_rfl
theorem AeT:BL Tryz.prog Ae AdK Q0 Tryz.f267=true:=by kernel_rfl
theorem AbL:BL Tryz.prog Ae Y7 Nv Tryz.f219=true:=by kernel_rfl
theorem Ae1:BL Tryz.prog Ae Adh Ri Tryz.f175=true:=by kernel_rfl
theorem Ae0:BL Tryz.prog Ae AdU QM Tryz.f254=true:=by kernel_rfl
theorem Adi:BL Tryz.prog Ae Aa5 Pz Tryz.f256=true:=by kernel_rfl
theorem AeS:BL Tryz.prog Ae AdO QB Tryz.f299=true:=by kernel_rfl
theorem Adm:BL Tryz.prog Ae Aba Pk Tryz.f249=true:=by kernel_rfl
theorem Abj:BL Tryz.prog Ae Aax NZ Tryz.f332=true:=by kernel_rfl
theorem AbW:BL Tryz.prog Ae ZP NH Tryz.f333=true:=by kernel_rfl
theorem XO:BL Tryz.prog Ae Wv K6 Tryz.f300=true:=by kernel_rfl
theorem Xa:BL Tryz.prog Ae Wx Km Tryz.f255=true:=by kernel_rfl
theorem ZF:BL Tryz.prog Ae Yu MF Tryz.f250=true:=by kernel_rfl
theorem Aah:BL Tryz.prog Ae WY MG Tryz.f210=true:=by kernel_rfl
theorem Ww:BL Tryz.prog Ae UM JC Tryz.f163=true:=by kernel_rfl
theorem Afm:BL Tryz.prog Ae Ac5 QH Tryz.f162=true:=by kernel_rfl
theorem Ac3:BL Tryz.prog Ae Aa1 OX Tryz.f302=true:=by kernel_rfl
theorem Abk:BL Tryz.prog Ae Zd Nu Tryz.f301=true:=by kernel_rfl
theorem UR:BL Tryz.prog Ae Ul I5 Tryz.f257=true:=by kernel_rfl
theorem AdH:BL Tryz.prog Ae AbE PY Tryz.f216=true:=by kernel_rfl
theorem Ac2:BL Tryz.prog Ae AbX O8 Tryz.f168=true:=by kernel_rfl
theorem ZB:BL Tryz.prog Ae Xt Mq Tryz.f103=true:=by kernel_rfl
theorem Xp:BL Tryz.prog Ae Wy KC Tryz.f303=true:=by kernel_rfl
theorem VW:BL Tryz.prog Ae UE JG Tryz.f258=true:=by kernel_rfl
theorem Ac6:BL Tryz.prog Ae AaG PG Tryz.f305=true:=by kernel_rfl
theorem Ab5:BL Tryz.prog Ae Yz NQ Tryz.f259=true:=by kernel_rfl
theorem Aai:BL Tryz.prog Ae X0 LG Tryz.f309=true:=by kernel_rfl
theorem YX:BL Tryz.prog Ae XD LH Tryz.f261=true:=by kernel_rfl
theorem XV:BL Tryz.prog Ae Wz KF Tryz.f262=true:=by kernel_rfl
theorem Aar:BL Tryz.prog Ae XY LM Tryz.f74=true:=by kernel_rfl
theorem WA:BL Tryz.prog Ae UK JL Tryz.f306=true:=by kernel_rfl
theorem Ue:BL Tryz.prog Ae SY Il Tryz.f308=true:=by kernel_rfl
theorem AbU:BL Tryz.prog Ae ZV NK Tryz.f307=true:=by kernel_rfl
theorem AdT:BL Tryz.prog Ae Ab4 PL Tryz.f260=true:=by kernel_rfl
theorem Adg:BL Tryz.prog Ae AaY Pq Tryz.f217=true:=by kernel_rfl
theorem Afi:BL Tryz.prog Ae AcR QL Tryz.f218=true:=by kernel_rfl
theorem An3:BL Tryz.prog Ae Akq Yg Tryz.f174=true:=by kernel_rfl
theorem Agy:BL Tryz.prog Ae AdN QN Tryz.f114=true:=by kernel_rfl
theorem Aih:BL Tryz.prog Ae AeQ TD Tryz.f46=true:=by kernel_rfl
theorem Agz:BL Tryz.prog Ae AcI QO Tryz.f167=true:=by kernel_rfl
theorem Xw:BL Tryz.prog Ae V5 K7 Tryz.f102=true:=by kernel_rfl
theorem AgO:BL Tryz.prog Ae Ad5 QY Tryz.f78=true:=by kernel_rfl
theorem AcL:BL Tryz.prog Ae AbO Pf Tryz.f77=true:=by kernel_rfl
theorem Aaf:BL Tryz.prog Ae XH LQ Tryz.f42=true:=by kernel_rfl
theorem Af9:BL Tryz.prog Ae AcE Rh Tryz.f70=true:=by kernel_rfl
theorem Aiz:BL Tryz.prog Ae Afa SN Tryz.f90=true:=by kernel_rfl
theorem Xx:BL Tryz.prog Ae Wp K4 Tryz.f81=true:=by kernel_rfl
theorem Wj:BL Tryz.prog Ae Un JN Tryz.f195=true:=by kernel_rfl
theorem Na:BL Tryz.prog Ae Mf E8 Tryz.f224=true:=by kernel_rfl
theorem Kq:BL Tryz.prog Ae Ki Eo Tryz.f194=true:=by kernel_rfl
theorem YR:BL Tryz.prog Ae X7 Ms Tryz.f145=true:=by kernel_rfl
theorem AgZ:BL Tryz.prog Ae Ad6 QX Tryz.f64=true:=by kernel_rfl
theorem Z0:BL Tryz.prog Ae Yd LP Tryz.f196=true:=by kernel_rfl
theorem Aav:BL Tryz.prog Ae X8 Me Tryz.f147=true:=by kernel_rfl
theorem Alu:BL Tryz.prog Ae AiH Vb Tryz.f149=true:=by kernel_rfl
theorem Wo:BL Tryz.prog Ae Ve Jv Tryz.f148=true:=by kernel_rfl
theorem G9:BL Tryz.prog Ae GY CY Tryz.f157=true:=by kernel_rfl
theorem GH:BL Tryz.prog Ae Gq Cy Tryz.f86=true:=by kernel_rfl
theorem Zn:BL Tryz.prog Ae XQ Mc Tryz.f68=true:=by kernel_rfl
theorem Aad:BL Tryz.prog Ae Xy Ml Tryz.f291=true:=by kernel_rfl
theorem AcJ:BL Tryz.prog Ae AbQ Ps Tryz.f235=true:=by kernel_rfl
theorem Adp:BL Tryz.prog Ae Ab3 PO Tryz.f242=true:=by kernel_rfl
theorem AoY:BL Tryz.prog Ae AnM Abn Tryz.f295=true:=by kernel_rfl
theorem Anf:BL Tryz.prog Ae Aj0 Ym Tryz.f296=true:=by kernel_rfl
theorem AiC:BL Tryz.prog Ae Afu Tx Tryz.f247=true:=by kernel_rfl
theorem AbF:BL Tryz.prog Ae YJ Oa Tryz.f243=true:=by kernel_rfl
theorem AgX:BL Tryz.prog Ae Ade Rb Tryz.f293=true:=by kernel_rfl
theorem He:BL Tryz.prog Ae G6 CZ Tryz.f292=true:=by kernel_rfl
theorem Aj5:BL Tryz.prog Ae AiE U0 Tryz.f245=true:=by kernel_rfl
theorem AgI:BL Tryz.prog Ae Ac0 QT Tryz.f244=true:=by kernel_rfl
theorem Zc:BL Tryz.prog Ae Ye Ls Tryz.f207=true:=by kernel_rfl
theorem Agc:BL Tryz.prog Ae Adu QA Tryz.f160=true:=by kernel_rfl
theorem AfM:BL Tryz.prog Ae Adz Q6 Tryz.f232=true:=by kernel_rfl
theorem Abb:BL Tryz.prog Ae ZY NA Tryz.f238=true:=by kernel_rfl
theorem P9:BL Tryz.prog Ae Pj F4 Tryz.f150=true:=by kernel_rfl
theorem NC:BL Tryz.prog Ae MW Fh Tryz.f69=true:=by kernel_rfl
theorem Afx:BL Tryz.prog Ae AdF Q5 Tryz.f280=true:=by kernel_rfl
theorem Gv:BL Tryz.prog Ae Gr CB Tryz.f279=true:=by kernel_rfl
theorem Alx:BL Tryz.prog Ae Aif Ur Tryz.f233=true:=by kernel_rfl
theorem AbS:BL Tryz.prog Ae Aac N7 Tryz.f236=true:=by kernel_rfl
theorem AgU:BL Tryz.prog Ae Adj Qz Tryz.f203=true:=by kernel_rfl
theorem Adn:BL Tryz.prog Ae AaW PN Tryz.f208=true:=by kernel_rfl
theorem P8:BL Tryz.prog Ae Pg F5 Tryz.f315=true:=by kernel_rfl
theorem Ac1:BL Tryz.prog Ae AaI OW Tryz.f337=true:=by kernel_rfl
theorem Ev:BL Tryz.prog Ae Ep Bf Tryz.f336=true:=by kernel_rfl
theorem AaQ:BL Tryz.prog Ae Aal Ny Tryz.f316=true:=by kernel_rfl
theorem Yi:BL Tryz.prog Ae V9 KR Tryz.f281=true:=by kernel_rfl
theorem Xr:BL Tryz.prog Ae V8 K9 Tryz.f237=true:=by kernel_rfl
theorem Y3:BL Tryz.prog Ae Xd Mx Tryz.f209=true:=by kernel_rfl
theorem Ws:BL Tryz.prog Ae Uw JI Tryz.f161=true:=by kernel_rfl
theorem AgP:BL Tryz.prog Ae Adr Q9 Tryz.f61=true:=by kernel_rfl
theorem Y9:BL Tryz.prog Ae Yt MH Tryz.f318=true:=by kernel_rfl
theorem AcW:BL Tryz.prog Ae AaV Pd Tryz.f283=true:=by kernel_rfl
theorem X6:BL Tryz.prog Ae Wl KQ Tryz.f317=true:=by kernel_rfl
theorem Abx:BL Tryz.prog Ae YN NS Tryz.f282=true:=by kernel_rfl
theorem Vr:BL Tryz.prog Ae Ui IU Tryz.f239=true:=by kernel_rfl
theorem AcG:BL Tryz.prog Ae Abp PK Tryz.f204=true:=by kernel_rfl
theorem Ad4:BL Tryz.prog Ae Abt PS Tryz.f82=true:=by kernel_rfl
theorem ZU:BL Tryz.prog Ae Yf LX Tryz.f20=true:=by kernel_rfl
theorem Abg:BL Tryz.prog Ae Aab NT Tryz.f339=true:=by kernel_rfl
theorem Afp:BL Tryz.prog Ae AdD Ra Tryz.f320=true:=by kernel_rfl
theorem UY:BL Tryz.prog Ae Uf I7 Tryz.f338=true:=by kernel_rfl
theorem X3:BL Tryz.prog Ae Wq KH Tryz.f319=true:=by kernel_rfl
theorem V7:BL Tryz.prog Ae Vi Jy Tryz.f284=true:=by kernel_rfl
theorem AdR:BL Tryz.prog Ae Abc PZ Tryz.f327=true:=by kernel_rfl
theorem Aix:BL Tryz.prog Ae AeL SL Tryz.f241=true:=by kernel_rfl
theorem Ab2:BL Tryz.prog Ae Aae NE Tryz.f328=true:=by kernel_rfl
theorem AaZ:BL Tryz.prog Ae ZA NU Tryz.f289=true:=by kernel_rfl
theorem Y5:BL Tryz.prog Ae Yr LF Tryz.f325=true:=by kernel_rfl
theorem Om:BL Tryz.prog Ae Ns FM Tryz.f326=true:=by kernel_rfl
theorem ZG:BL Tryz.prog Ae Yh Mv Tryz.f287=true:=by kernel_rfl
theorem XB:BL Tryz.prog Ae Wt KO Tryz.f288=true:=by kernel_rfl
theorem YZ:BL Tryz.prog Ae X4 LK Tryz.f65=true:=by kernel_rfl
theorem Uj:BL Tryz.prog Ae Tv HV Tryz.f340=true:=by kernel_rfl
theorem Kh:BL Tryz.prog Ae JR Ec Tryz.f193=true:=by kernel_rfl
theorem IQ:BL Tryz.prog Ae Iy Dz Tryz.f143=true:=by kernel_rfl
theorem Wh:BL Tryz.prog Ae U5 JP Tryz.f322=true:=by kernel_rfl
theorem Uk:BL Tryz.prog Ae TM H7 Tryz.f324=true:=by kernel_rfl
theorem AbB:BL Tryz.prog Ae YB Ob Tryz.f323=true:=by kernel_rfl
theorem Ads:BL Tryz.prog Ae Aa7 O3 Tryz.f286=true:=by kernel_rfl
theorem AaU:BL Tryz.prog Ae Y1 NM Tryz.f290=true:=by kernel_rfl
theorem AhC:BL Tryz.prog Ae Afv Ta Tryz.f240=true:=by kernel_rfl
theorem AcD:BL Tryz.prog Ae Aa8 O9 Tryz.f205=true:=by kernel_rfl
theorem Afj:BL Tryz.prog Ae AdJ Qy Tryz.f206=true:=by kernel_rfl
theorem AmC:BL Tryz.prog Ae Akr Xc Tryz.f159=true:=by kernel_rfl
theorem Afw:BL Tryz.prog Ae Aeb QD Tryz.f91=true:=by kernel_rfl
theorem AiY:BL Tryz.prog Ae Ahc TA Tryz.f32=true:=by kernel_rfl
theorem AeG:BL Tryz.prog Ae Ad7 QF Tryz.f88=true:=by kernel_rfl
theorem U3:BL Tryz.prog Ae Um I4 Tryz.f87=true:=by kernel_rfl
theorem WX:BL Tryz.prog Ae V3 K8 Tryz.f28=true:=by kernel_rfl
theorem AgH:BL Tryz.prog Ae AcO Q8 Tryz.f63=true:=by kernel_rfl
theorem Zt:BL Tryz.prog Ae Xq Mt Tryz.f144=true:=by kernel_rfl
theorem AdB:BL Tryz.prog Ae AaX O6 Tryz.f62=true:=by kernel_rfl
theorem Z6:BL Tryz.prog Ae XM LC Tryz.f44=true:=by kernel_rfl
theorem Ais:BL Tryz.prog Ae Agb Sy Tryz.f97=true:=by kernel_rfl
theorem Alv:BL Tryz.prog Ae Ahy U1 Tryz.f251=true:=by kernel_rfl
theorem AhX:BL Tryz.prog Ae AeM TV Tryz.f211=true:=by kernel_rfl
theorem Aaw:BL Tryz.prog Ae XU Lu Tryz.f164=true:=by kernel_rfl
theorem Yn:BL Tryz.prog Ae VX Kk Tryz.f98=true:=by kernel_rfl
theorem Aa0:BL Tryz.prog Ae Z4 NW Tryz.f99=true:=by kernel_rfl
theorem Aic:BL Tryz.prog Ae Afq TG Tryz.f212=true:=by kernel_rfl
theorem AcV:BL Tryz.prog Ae AaT PI Tryz.f165=true:=by kernel_rfl
theorem Ab6:BL Tryz.prog Ae YE NJ Tryz.f100=true:=by kernel_rfl
theorem Ac9:BL Tryz.prog Ae AbM Pm Tryz.f166=true:=by kernel_rfl
theorem AaP:BL Tryz.prog Ae ZR Nr Tryz.f101=true:=by kernel_rfl
theorem Ago:BL Tryz.prog Ae AdV QV Tryz.f41=true:=by kernel_rfl
theorem AiJ:BL Tryz.prog Ae Agj TK Tryz.f104=true:=by kernel_rfl
theorem Als:BL Tryz.prog Ae Ahv Vn Tryz.f252=true:=by kernel_rfl
theorem Ah6:BL Tryz.prog Ae Agg Sk Tryz.f213=true:=by kernel_rfl
theorem Zb:BL Tryz.prog Ae XA LY Tryz.f169=true:=by kernel_rfl
theorem Xz:BL Tryz.prog Ae Wu Kl Tryz.f105=true:=by kernel_rfl
theorem Abl:BL Tryz.prog Ae Z5 Oc Tryz.f106=true:=by kernel_rfl
theorem Ahw:BL Tryz.prog Ae Ahi TU Tryz.f214=true:=by kernel_rfl
theorem AcY:BL Tryz.prog Ae Abi OV Tryz.f170=true:=by kernel_rfl
theorem Abd:BL Tryz.prog Ae Ze NR Tryz.f107=true:=by kernel_rfl
theorem Adw:BL Tryz.prog Ae Abq Po Tryz.f171=true:=by kernel_rfl
theorem AbG:BL Tryz.prog Ae Aam NN Tryz.f108=true:=by kernel_rfl
theorem Afn:BL Tryz.prog Ae AcN Qv Tryz.f43=true:=by kernel_rfl
theorem Aho:BL Tryz.prog Ae Af7 Tt Tryz.f109=true:=by kernel_rfl
theorem AjT:BL Tryz.prog Ae AhT Uv Tryz.f253=true:=by kernel_rfl
theorem Aid:BL Tryz.prog Ae Afk Sw Tryz.f215=true:=by kernel_rfl
theorem YV:BL Tryz.prog Ae Yo L8 Tryz.f172=true:=by kernel_rfl
theorem XT:BL Tryz.prog Ae VZ KN Tryz.f110=true:=by kernel_rfl
theorem AaN:BL Tryz.prog Ae Aat Nt Tryz.f111=true:=by kernel_rfl
theorem Ah8:BL Tryz.prog Ae AfN TB Tryz.f116=true:=by kernel_rfl
theorem Ado:BL Tryz.prog Ae AaH PV Tryz.f47=true:=by kernel_rfl
theorem Abs:BL Tryz.prog Ae YI Np Tryz.f112=true:=by kernel_rfl
theorem Ad0:BL Tryz.prog Ae AaM Px Tryz.f173=true:=by kernel_rfl
theorem Abw:BL Tryz.prog Ae YS NG Tryz.f113=true:=by kernel_rfl
theorem Agk:BL Tryz.prog Ae AcQ Qw Tryz.f45=true:=by kernel_rfl
theorem QZ:BL Tryz.prog Ae P5 Gf Tryz.f6=true:=by kernel_rfl
theorem IB:WN (DD 71):=by unfold WN;intros;refine lk (g:=71) rfl Tryz.func79 AnV ?_;apply ABh _<;>assumption
theorem AoU:AqG (DD 215):=by unfold AqG;intros;refine lk (g:=215) rfl Tryz.func176 Ao2 ?_;apply ABj _<;>assumption
theorem ApN:Ari (DD 253):=by unfold Ari;intros;refine lk (g:=253) rfl Tryz.func177 AoP ?_;apply AA5 _<;>assumption
theorem Ap0:AqE (DD 212):=by unfold AqE;intros;refine lk (g:=212) rfl Tryz.func115 Afz ?_;apply Asy _ AoU ApN<;>assumption
theorem L6:EN (DD 250):=by unfold EN;intros;refine lk (g:=250) rfl Tryz.func151 Aas ?_;apply Ah5 _ IB<;>assumption
theorem Tp:VP (DD 217):=by unfold VP;intros;refine lk (g:=217) rfl Tryz.func197 AiI ?_;apply AvT _ IB<;>assumption
theorem Vk:PE (DD 152):=by unfold PE;intros;refine lk (g:=152) rfl Tryz.func152 Ala ?_;apply Awf _ IB Tp<;>assumption
theorem EU:BN (DD 208):=by unfold BN;intros;refine lk (g:=208) rfl Tryz.func72 XC ?_;apply Af5 _ IB<;>assumption
theorem RZ:Fp (DD 207):=by unfold Fp;intros;refine lk (g:=207) rfl Tryz.func71 Zw ?_;apply Ahz _ IB L6 Vk EU<;>assumption
theorem AjL:Aiq (DD 339):=by unfold Aiq;intros;refine lk (g:=339) rfl Tryz.func310 Aqk ?_;apply AAX _ IB<;>assumption
theorem Xe:Uc (DD 338):=by unfold Uc;intros;refine lk (g:=338) rfl Tryz.func311 AnQ ?_;apply Ay2 _ AjL<;>assumption
theorem AfQ:WK (DD 313):=by unfold WK;intros;refine lk (g:=313) rfl Tryz.func268 AhN ?_;apply Azv _ Xe AjL<;>assumption
theorem Adk:Ie (DD 310):=by unfold Ie;intros;refine lk (g:=310) rfl Tryz.func265 AbV ?_;apply Aj2 _ AfQ<;>assumption
theorem YQ:Jr (DD 308):=by unfold Jr;intros;refine lk (g:=308) rfl Tryz.func263 AiP ?_;apply AsB _<;>assumption
theorem OJ:SF (DD 166):=by unfold SF;intros;refine lk (g:=166) rfl Tryz.func76 Ak3 ?_;apply Ayo _<;>assumption
theorem WI:K3 (DD 331):=by unfold K3;intros;refine lk (g:=331) rfl Tryz.func304 Aff ?_;apply Aqe _ OJ<;>assumption
theorem Zr:MO (DD 311):=by unfold MO;intros;refine lk (g:=311) rfl Tryz.func266 AfF ?_;apply As5 _ YQ WI<;>assumption
theorem Qh:ND (DD 309):=by unfold ND;intros;refine lk (g:=309) rfl Tryz.func264 Aj9 ?_;apply Awh _<;>assumption
theorem Jd:Fa (DD 312):=by unfold Fa;intros;refine lk (g:=312) rfl Tryz.func267 AeT ?_;apply Apa _ IB Tp Qh<;>assumption
theorem AdC:Ij (DD 283):=by unfold Ij;intros;refine lk (g:=283) rfl Tryz.func219 AbL ?_;apply AlC _ Adk Zr Jd Qh AfQ<;>assumption
theorem Ail:MP (DD 251):=by unfold MP;intros;refine lk (g:=251) rfl Tryz.func175 Ae1 ?_;apply Apf _ RZ AdC<;>assumption
theorem FC:DF (DD 285):=by unfold DF;intros;refine lk (g:=285) rfl Tryz.func254 Ae0 ?_;apply ApP _ EU Jd<;>assumption
theorem WE:Ji (DD 301):=by unfold Ji;intros;refine lk (g:=301) rfl Tryz.func256 Adi ?_;apply Apk _ Zr<;>assumption
theorem AhV:MU (DD 258):=by unfold MU;intros;refine lk (g:=258) rfl Tryz.func299 AeS ?_;apply Aqi _ Vk FC OJ IB<;>assumption
theorem Ko:E5 (DD 286):=by unfold E5;intros;refine lk (g:=286) rfl Tryz.func249 Adm ?_;apply AmH _ FC WE AhV<;>assumption
theorem YO:Fg (DD 355):=by unfold Fg;intros;refine lk (g:=355) rfl Tryz.func332 Abj ?_;apply Akn _<;>assumption
theorem Z8:Ox (DD 356):=by unfold Ox;intros;refine lk (g:=356) rfl Tryz.func333 AbW ?_;apply Akb _ YO<;>assumption
theorem Agx:J8 (DD 328):=by unfold J8;intros;refine lk (g:=328) rfl Tryz.func300 XO ?_;apply Ahb _ YO Z8<;>assumption
theorem Aan:Ff (DD 300):=by unfold Ff;intros;refine lk (g:=300) rfl Tryz.func255 Xa ?_;apply Afc _ Ko Agx<;>assumption
theorem Rj:Fw (DD 256):=by unfold Fw;intros;refine lk (g:=256) rfl Tryz.func250 ZF ?_;apply AiD _<;>assumption
theorem Rz:FW (DD 260):=by unfold FW;intros;refine lk (g:=260) rfl Tryz.func210 Aah ?_;apply Ai0 _ EU Rj Ko<;>assumption
theorem WZ:FD (DD 222):=by unfold FD;intros;refine lk (g:=222) rfl Tryz.func163 Ww ?_;apply AdI _ EU Rz<;>assumption
theorem Ae5:Ua (DD 223):=by unfold Ua;intros;refine lk (g:=223) rfl Tryz.func162 Afm ?_;apply Aso _ OJ<;>assumption
theorem AfX:J2 (DD 329):=by unfold J2;intros;refine lk (g:=329) rfl Tryz.func302 Ac3 ?_;apply AnX _ Jd Rz Rj Ko Z8<;>assumption
theorem Adx:Ii (DD 330):=by unfold Ii;intros;refine lk (g:=330) rfl Tryz.func301 Abk ?_;apply Alw _ FC OJ<;>assumption
theorem Afs:J9 (DD 302):=by unfold J9;intros;refine lk (g:=302) rfl Tryz.func257 UR ?_;apply Al4 _ FC WZ Ae5 AfX Adx<;>assumption
theorem AfL:J3 (DD 280):=by unfold J3;intros;refine lk (g:=280) rfl Tryz.func216 AdH ?_;apply Ank _ FC Aan WE Afs<;>assumption
theorem AeF:J6 (DD 224):=by unfold J6;intros;refine lk (g:=224) rfl Tryz.func168 Ac2 ?_;apply AmA _ OJ<;>assumption
theorem LV:El (DD 168):=by unfold El;intros;refine lk (g:=168) rfl Tryz.func103 ZB ?_;apply Aiv _ AeF EU<;>assumption
theorem Zi:FV (DD 332):=by unfold FV;intros;refine lk (g:=332) rfl Tryz.func303 Xp ?_;apply Ags _ L6<;>assumption
theorem AkQ:Qp (DD 303):=by unfold Qp;intros;refine lk (g:=303) rfl Tryz.func258 VW ?_;apply Asi _ LV FC WI Zi<;>assumption
theorem UX:GR (DD 333):=by unfold GR;intros;refine lk (g:=333) rfl Tryz.func305 Ac6 ?_;apply Ana _ IB Jd<;>assumption
theorem Adb:Ig (DD 304):=by unfold Ig;intros;refine lk (g:=304) rfl Tryz.func259 Ab5 ?_;apply Alj _ Qh L6 FC UX OJ<;>assumption
theorem Rm:Fs (DD 337):=by unfold Fs;intros;refine lk (g:=337) rfl Tryz.func309 Aai ?_;apply Aia _ Jd<;>assumption
theorem Abo:Gt (DD 305):=by unfold Gt;intros;refine lk (g:=305) rfl Tryz.func261 YX ?_;apply AhQ _ FC Rm<;>assumption
theorem Y8:FZ (DD 306):=by unfold FZ;intros;refine lk (g:=306) rfl Tryz.func262 XV ?_;apply AeX _ UX Rm<;>assumption
theorem Ae2:JY (DD 210):=by unfold JY;intros;refine lk (g:=210) rfl Tryz.func74 Aar ?_;apply Amw _ IB<;>assumption
theorem WL:Jh (DD 334):=by unfold Jh;intros;refine lk (g:=334) rfl Tryz.func306 WA ?_;apply Ao3 _ Tp<;>assumption
theorem AcZ:Hl (DD 335):=by unfold Hl;intros;refine lk (g:=335) rfl Tryz.func308 Ue ?_;apply Aka _ WL Xe<;>assumption
theorem AnL:Vg (DD 336):=by unfold Vg;intros;refine lk (g:=336) rfl Tryz.func307 AbU ?_;apply AvD _ Xe<;>assumption
theorem AlN:OA (DD 307):=by unfold OA;intros;refine lk (g:=307) rfl Tryz.func260 AdT ?_;apply Ar2 _ Ae2 WL IB AcZ AnL<;>assumption
theorem Agq:Ke (DD 281):=by unfold Ke;intros;refine lk (g:=281) rfl Tryz.func217 Adg ?_;apply Anu _ Ko AkQ Adb Abo Y8 AlN YQ<;>assumption
theorem AhJ:Nb (DD 282):=by unfold Nb;intros;refine lk (g:=282) rfl Tryz.func218 Afi ?_;apply ApO _ Ae5 Qh IB<;>assumption
theorem Ao9:AcA (DD 252):=by unfold AcA;intros;refine lk (g:=252) rfl Tryz.func174 An3 ?_;apply Ays _ AfL Agq AhJ<;>assumption
theorem AhU:MQ (DD 213):=by unfold MQ;intros;refine lk (g:=213) rfl Tryz.func114 Agy ?_;apply ApF _ RZ Ail Ao9<;>assumption
theorem AlJ:Qd (DD 142):=by unfold Qd;intros;refine lk (g:=142) rfl Tryz.func46 Aih ?_;apply ArX _ IB Ap0 AhU<;>assumption
theorem AiS:Nh (DD 259):=by unfold Nh;intros;refine lk (g:=259) rfl Tryz.func167 Agz ?_;apply Apv _ Vk<;>assumption
theorem YW:FT (DD 220):=by unfold FT;intros;refine lk (g:=220) rfl Tryz.func102 Xw ?_;apply Afr _ AiS<;>assumption
theorem Alk:M6 (DD 95):=by unfold M6;intros;refine lk (g:=95) rfl Tryz.func78 AgO ?_;apply Ap6 _<;>assumption
theorem Ag6:J7 (DD 211):=by unfold J7;intros;refine lk (g:=211) rfl Tryz.func77 AcL ?_;apply AmL _ LV EU<;>assumption
theorem AbI:Gu (DD 162):=by unfold Gu;intros;refine lk (g:=162) rfl Tryz.func42 Aaf ?_;apply Ait _ AlJ YW LV Alk Ag6<;>assumption
theorem Gm:WN (DD 114):=by unfold WN;intros;refine lk (g:=114) rfl Tryz.func70 Af9 ?_;apply ArB _<;>assumption
theorem Akv:Aet (DD 117):=by unfold Aet;intros;refine lk (g:=117) rfl Tryz.func90 Aiz ?_;apply AvS _ Gm<;>assumption
theorem ER:BN (DD 232):=by unfold BN;intros;refine lk (g:=232) rfl Tryz.func81 Xx ?_;apply Af4 _ Gm<;>assumption
theorem ZW:OC (DD 266):=by unfold OC;intros;refine lk (g:=266) rfl Tryz.func195 Wj ?_;apply AiU _ Gm<;>assumption
theorem AdW:Tg DD (DD 404):=by unfold Tg;intros;refine lk (g:=404) rfl Tryz.func224 Na ?_;apply Am0 _<;>assumption
theorem O4:Jj DD (DD 267):=by unfold Jj;intros;refine lk (g:=267) rfl Tryz.func194 Kq ?_;apply AeB _ AdW<;>assumption
theorem Ir:H6 (DD 233):=by unfold H6;intros;refine lk (g:=233) rfl Tryz.func145 YR ?_;apply AkK _ ZW O4<;>assumption
theorem Ahn:YG (DD 235):=by unfold YG;intros;refine lk (g:=235) rfl Tryz.func64 AgZ ?_;apply ApX _ Ir<;>assumption
theorem RB:EN (DD 279):=by unfold EN;intros;refine lk (g:=279) rfl Tryz.func196 Z0 ?_;apply Aik _ Gm<;>assumption
theorem R8:M9 (DD 270):=by unfold M9;intros;refine lk (g:=270) rfl Tryz.func147 Aav ?_;apply AhA _ RB O4<;>assumption
theorem Aca:PE (DD 183):=by unfold PE;intros;refine lk (g:=183) rfl Tryz.func149 Alu ?_;apply Avb _ Gm Ir<;>assumption
theorem YH:Ot (DD 271):=by unfold Ot;intros;refine lk (g:=271) rfl Tryz.func148 Wo ?_;apply AhG _ Aca<;>assumption
theorem Yp:MJ DD (DD 406):=by unfold MJ;intros;refine lk (g:=406) rfl Tryz.func157 G9 ?_;apply AgT _<;>assumption
theorem Lp:Gi DD (DD 272):=by unfold Gi;intros;refine lk (g:=272) rfl Tryz.func86 GH ?_;apply ZN _ Yp<;>assumption
theorem Rn:Fp (DD 239):=by unfold Fp;intros;refine lk (g:=239) rfl Tryz.func68 Zn ?_;apply AhL _ ER Ahn R8 YH Lp Gm<;>assumption
theorem Aij:Yy (DD 350):=by unfold Yy;intros;refine lk (g:=350) rfl Tryz.func291 Aad ?_;apply Amg _<;>assumption
theorem Iq:Ka DD (DD 298):=by unfold Ka;intros;refine lk (g:=298) rfl Tryz.func235 AcJ ?_;apply AoK _<;>assumption
theorem Z7:MO (DD 318):=by unfold MO;intros;refine lk (g:=318) rfl Tryz.func242 Adp ?_;apply AoW _ Aij Iq<;>assumption
theorem Ajn:Aiq (DD 354):=by unfold Aiq;intros;refine lk (g:=354) rfl Tryz.func295 AoY ?_;apply AAC _ Gm<;>assumption
theorem Xm:Uc (DD 353):=by unfold Uc;intros;refine lk (g:=353) rfl Tryz.func296 Anf ?_;apply Ay3 _ Ajn<;>assumption
theorem Afl:WK (DD 322):=by unfold WK;intros;refine lk (g:=322) rfl Tryz.func247 AiC ?_;apply Ay0 _ Xm Ajn<;>assumption
theorem AdZ:Ie (DD 319):=by unfold Ie;intros;refine lk (g:=319) rfl Tryz.func243 AbF ?_;apply Akw _ Afl<;>assumption
theorem Alg:Aer (DD 351):=by unfold Aer;intros;refine lk (g:=351) rfl Tryz.func293 AgX ?_;apply Avi _<;>assumption
theorem Pn:Je DD (DD 352):=by unfold Je;intros;refine lk (g:=352) rfl Tryz.func292 He ?_;apply AeP _<;>assumption
theorem Acp:ND (DD 321):=by unfold ND;intros;refine lk (g:=321) rfl Tryz.func245 Aj5 ?_;apply AuI _ Alg Pn<;>assumption
theorem Jk:Fa (DD 320):=by unfold Fa;intros;refine lk (g:=320) rfl Tryz.func244 AgI ?_;apply Apy _ Gm Acp Ir<;>assumption
theorem Alr:Ako (DD 323):=Am2 (k:=246) rfl (fun b o c w=>Go.Eng.Ins.ACS b o c w) (fun b o c v w h=>Go.Eng.Ins.ACX b o c v w h) (fun b o c v w h=>Go.Eng.Ins.ACR b o c v w h)
theorem AkC:Ak0 (DD 324):=Ans (k:=248) rfl Go.Eng.Ins.ACP
theorem Ac4:Ij (DD 290):=by unfold Ij;intros;refine lk (g:=290) rfl Tryz.func207 Zc ?_;apply AkY _ Z7 AdZ Jk Acp Afl Alr AkC<;>assumption
theorem AiA:MP (DD 261):=by unfold MP;intros;refine lk (g:=261) rfl Tryz.func160 Agc ?_;apply Apc _ Rn Ac4<;>assumption
theorem F6:DF (DD 292):=by unfold DF;intros;refine lk (g:=292) rfl Tryz.func232 AfM ?_;apply ApJ _ ER Jk<;>assumption
theorem WT:Ji (DD 293):=by unfold Ji;intros;refine lk (g:=293) rfl Tryz.func238 Abb ?_;apply Amr _ Z7<;>assumption
theorem ArA:AAE (DD 325):=Ax9 (k:=278) rfl (fun b off n c zs w h1 h2 h3 h4=>Tryz.slices_Max_int b off n c zs w h1 h2 h3 h4)
theorem AmQ:Alz (DD 389):=by unfold Alz;intros;refine lk (g:=389) rfl Tryz.func150 P9 ?_;apply Ayb _<;>assumption
theorem LB:SF (DD 188):=by unfold SF;intros;refine lk (g:=188) rfl Tryz.func69 NC ?_;apply AoN _ AmQ<;>assumption
theorem Aj6:Aev (DD 326):=by unfold Aev;intros;refine lk (g:=326) rfl Tryz.func280 Afx ?_;apply Awc _ LB Gm<;>assumption
theorem Ug:IG DD (DD 327):=by unfold IG;intros;refine lk (g:=327) rfl Tryz.func279 Gv ?_;apply YK _ Pn<;>assumption
theorem AmV:Aj4 (DD 295):=by unfold Aj4;intros;refine lk (g:=295) rfl Tryz.func233 Alx ?_;apply Azt _ ArA Aj6 Ug<;>assumption
theorem Ant:AoH (DD 296):=AsN (k:=234) rfl (fun n c w=>Tryz.slices_Clone_int_nil n c w) (fun a c w=>Tryz.slices_Clone_int_zero a c w) (fun b off n c zs w h1 h2 h3=>Tryz.slices_Clone_int b off n c zs w h1 h2 h3)
theorem Ag2:VN (DD 297):=by unfold VN;intros;refine lk (g:=297) rfl Tryz.func236 AbS ?_;apply Apw _ LB<;>assumption
theorem Ahp:MU (DD 294):=by unfold MU;intros;refine lk (g:=294) rfl Tryz.func203 AgU ?_;apply Apx _ Aca F6 AmV Ant Ag2 Iq<;>assumption
theorem Kj:E5 (DD 274):=by unfold E5;intros;refine lk (g:=274) rfl Tryz.func208 Adn ?_;apply Al2 _ F6 WT Ahp<;>assumption
theorem YP:Fg (DD 357):=by unfold Fg;intros;refine lk (g:=357) rfl Tryz.func315 P8 ?_;apply Au4 _<;>assumption
theorem Agu:Rp (DD 371):=by unfold Rp;intros;refine lk (g:=371) rfl Tryz.func337 Ac1 ?_;apply Ap8 _ YP<;>assumption
theorem AcU:SH DD (DD 372):=by unfold SH;intros;refine lk (g:=372) rfl Tryz.func336 Ev ?_;apply Amj _<;>assumption
theorem Aj1:Ox (DD 358):=by unfold Ox;intros;refine lk (g:=358) rfl Tryz.func316 AaQ ?_;apply AkD _ Agu AcU<;>assumption
theorem AeC:J8 (DD 340):=by unfold J8;intros;refine lk (g:=340) rfl Tryz.func281 Yi ?_;apply AeE _ YP Aj1<;>assumption
theorem Qe:Ff (DD 314):=by unfold Ff;intros;refine lk (g:=314) rfl Tryz.func237 Xr ?_;apply Af6 _ Kj AeC<;>assumption
theorem RO:Fw (DD 273):=by unfold Fw;intros;refine lk (g:=273) rfl Tryz.func209 Y3 ?_;apply AiW _<;>assumption
theorem Xu:FD (DD 240):=by unfold FD;intros;refine lk (g:=240) rfl Tryz.func161 Ws ?_;apply Adf _ ER RO Kj<;>assumption
theorem Tc:Ua (DD 189):=by unfold Ua;intros;refine lk (g:=189) rfl Tryz.func61 AgP ?_;apply Aqn _ LB<;>assumption
theorem AbC:FW (DD 360):=by unfold FW;intros;refine lk (g:=360) rfl Tryz.func318 Y9 ?_;apply AiZ _ ER RO Kj<;>assumption
theorem AfE:J2 (DD 341):=by unfold J2;intros;refine lk (g:=341) rfl Tryz.func283 AcW ?_;apply Amx _ Jk AbC Qe<;>assumption
theorem AbH:Qn (DD 359):=by unfold Qn;intros;refine lk (g:=359) rfl Tryz.func317 X6 ?_;apply Aj7 _ LB<;>assumption
theorem AcP:Ii (DD 342):=by unfold Ii;intros;refine lk (g:=342) rfl Tryz.func282 Abx ?_;apply AkV _ F6 Tc AbH Iq<;>assumption
theorem Afy:J9 (DD 315):=by unfold J9;intros;refine lk (g:=315) rfl Tryz.func239 Vr ?_;apply AmN _ Xu Tc AfE AcP<;>assumption
theorem Aft:J3 (DD 287):=by unfold J3;intros;refine lk (g:=287) rfl Tryz.func204 AcG ?_;apply Al3 _ F6 Qe WT Afy<;>assumption
theorem Agh:J6 (DD 242):=by unfold J6;intros;refine lk (g:=242) rfl Tryz.func82 Ad4 ?_;apply AmE _ LB<;>assumption
theorem Mw:El (DD 190):=by unfold El;intros;refine lk (g:=190) rfl Tryz.func20 ZU ?_;apply Ahs _ Agh ER<;>assumption
theorem AfW:VG (DD 374):=by unfold VG;intros;refine lk (g:=374) rfl Tryz.func339 Abg ?_;apply AoO _ LB<;>assumption
theorem Ah3:K3 (DD 361):=by unfold K3;intros;refine lk (g:=361) rfl Tryz.func320 Afp ?_;apply ApK _ AfW Iq<;>assumption
theorem AdL:Sl (DD 373):=by unfold Sl;intros;refine lk (g:=373) rfl Tryz.func338 UY ?_;apply AgK _ RB<;>assumption
theorem ZL:FV (DD 362):=by unfold FV;intros;refine lk (g:=362) rfl Tryz.func319 X3 ?_;apply AeI _ AdL Iq<;>assumption
theorem Alt:Qp (DD 343):=by unfold Qp;intros;refine lk (g:=343) rfl Tryz.func284 V7 ?_;apply Ata _ Mw F6 Ah3 ZL<;>assumption
theorem Vt:GR (DD 369):=by unfold GR;intros;refine lk (g:=369) rfl Tryz.func327 AdR ?_;apply Amy _ Gm Jk<;>assumption
theorem Ol:Jr (DD 317):=by unfold Jr;intros;refine lk (g:=317) rfl Tryz.func241 Aix ?_;apply AsP _<;>assumption
theorem Ad3:Sv (DD 370):=by unfold Sv;intros;refine lk (g:=370) rfl Tryz.func328 Ab2 ?_;apply Akl _ Ol R8<;>assumption
theorem AcX:Ig (DD 348):=by unfold Ig;intros;refine lk (g:=348) rfl Tryz.func289 AaZ ?_;apply AlK _ F6 Vt LB Ol Tc Ad3<;>assumption
theorem Ru:Fs (DD 367):=by unfold Fs;intros;refine lk (g:=367) rfl Tryz.func325 Y5 ?_;apply AiG _ Jk<;>assumption
theorem Aql:Av5 (DD 419):=As4 (k:=341) rfl (fun w=>Go.Eng.Ins.ACd w) (fun n w h1 h2=>Go.Eng.Ins.ACe n w h1 h2)
theorem YT:YA (DD 368):=by unfold YA;intros;refine lk (g:=368) rfl Tryz.func326 Om ?_;apply Avj _ Aql<;>assumption
theorem Aa2:Gt (DD 345):=by unfold Gt;intros;refine lk (g:=345) rfl Tryz.func287 ZG ?_;apply AhH _ F6 Ru YT<;>assumption
theorem AaA:FZ (DD 346):=by unfold FZ;intros;refine lk (g:=346) rfl Tryz.func288 XB ?_;apply AfI _ Vt Ru<;>assumption
theorem Agf:JY (DD 236):=by unfold JY;intros;refine lk (g:=236) rfl Tryz.func65 YZ ?_;apply Al8 _ Gm<;>assumption
theorem AeH:VL (DD 375):=by unfold VL;intros;refine lk (g:=375) rfl Tryz.func340 Uj ?_;apply Ao6 _ Ir<;>assumption
theorem VY:Ky DD (DD 405):=by unfold Ky;intros;refine lk (g:=405) rfl Tryz.func193 Kh ?_;apply AdM _<;>assumption
theorem Lf:FX DD (DD 269):=by unfold FX;intros;refine lk (g:=269) rfl Tryz.func143 IQ ?_;apply XP _ VY<;>assumption
theorem WR:Jh (DD 364):=by unfold Jh;intros;refine lk (g:=364) rfl Tryz.func322 Wh ?_;apply Apl _ AeH Lf<;>assumption
theorem AdP:Hl (DD 365):=by unfold Hl;intros;refine lk (g:=365) rfl Tryz.func324 Uk ?_;apply AlE _ WR Xm<;>assumption
theorem Amu:Vg (DD 366):=by unfold Vg;intros;refine lk (g:=366) rfl Tryz.func323 AbB ?_;apply AwJ _ YT Xm<;>assumption
theorem Aaj:OA (DD 347):=by unfold OA;intros;refine lk (g:=347) rfl Tryz.func286 Ads ?_;apply Ash _ Agf WR Gm AdP Amu<;>assumption
theorem Ac7:SS (DD 349):=by unfold SS;intros;refine lk (g:=349) rfl Tryz.func290 AaU ?_;apply AlD _ Aaj<;>assumption
theorem Amd:Aln (DD 316):=by unfold Aln;intros;refine lk (g:=316) rfl Tryz.func240 AhC ?_;apply Azu _ Alt AcX Aa2 AaA Aaj Ac7 Ol<;>assumption
theorem Ae7:Ke (DD 288):=by unfold Ke;intros;refine lk (g:=288) rfl Tryz.func205 AcD ?_;apply AmX _ Kj Amd<;>assumption
theorem Ahu:Nb (DD 289):=by unfold Nb;intros;refine lk (g:=289) rfl Tryz.func206 Afj ?_;apply ApD _ Tc Ol Gm<;>assumption
theorem ApA:AcA (DD 262):=by unfold AcA;intros;refine lk (g:=262) rfl Tryz.func159 AmC ?_;apply Ayt _ Aft Ae7 Ahu<;>assumption
theorem AiT:MQ (DD 227):=by unfold MQ;intros;refine lk (g:=227) rfl Tryz.func91 Afw ?_;apply AoV _ Rn AiA ApA<;>assumption
theorem AkH:Qd (DD 173):=by unfold Qd;intros;refine lk (g:=173) rfl Tryz.func32 AiY ?_;apply Ar8 _ Akv AiT<;>assumption
theorem AiR:Nh (DD 299):=by unfold Nh;intros;refine lk (g:=299) rfl Tryz.func88 AeG ?_;apply Aqj _<;>assumption
theorem XG:MN (DD 278):=by unfold MN;intros;refine lk (g:=278) rfl Tryz.func87 U3 ?_;apply Aha _ AiR<;>assumption
theorem Zz:FT (DD 246):=by unfold FT;intros;refine lk (g:=246) rfl Tryz.func28 WX ?_;apply AgL _ XG Lp<;>assumption
theorem Ah0:M6 (DD 123):=by unfold M6;intros;refine lk (g:=123) rfl Tryz.func63 AgH ?_;apply AoL _<;>assumption
theorem Ad1:Sn (DD 268):=by unfold Sn;intros;refine lk (g:=268) rfl Tryz.func144 Zt ?_;apply Aoa _ Mw<;>assumption
theorem AfB:J7 (DD 234):=by unfold J7;intros;refine lk (g:=234) rfl Tryz.func62 AdB ?_;apply Am7 _ ER Ad1 Lf<;>assumption
theorem Aa4:Gu (DD 201):=by unfold Gu;intros;refine lk (g:=201) rfl Tryz.func44 Z6 ?_;apply AhS _ AkH Zz Mw Ah0 AfB<;>assumption
theorem Kb:Oo (DD 16):=by unfold Oo;intros;refine lk (g:=16) rfl Tryz.func97 Ais ?_;apply Ave _<;>assumption
theorem Anq:AkG (DD 206):=by unfold AkG;intros;refine lk (g:=206) rfl Tryz.func251 Alv ?_;apply AyD _ Kb<;>assumption
theorem AkM:Aes (DD 139):=by unfold Aes;intros;refine lk (g:=139) rfl Tryz.func211 AhX ?_;apply Awg _ Anq<;>assumption
theorem Ady:Qm (DD 62):=by unfold Qm;intros;refine lk (g:=62) rfl Tryz.func164 Aaw ?_;apply AlL _ Kb AkM<;>assumption
theorem Abm:OG (DD 17):=by unfold OG;intros;refine lk (g:=17) rfl Tryz.func98 Yn ?_;apply AhK _ Ady<;>assumption
theorem AfU:SA (DD 18):=by unfold SA;intros;refine lk (g:=18) rfl Tryz.func99 Aa0 ?_;apply An9 _ Kb<;>assumption
theorem AjU:Aeq (DD 140):=by unfold Aeq;intros;refine lk (g:=140) rfl Tryz.func212 Aic ?_;apply AvG _ Kb<;>assumption
theorem WB:RJ (DD 63):=by unfold RJ;intros;refine lk (g:=63) rfl Tryz.func165 AcV ?_;apply Ap9 _ AjU Kb<;>assumption
theorem AeO:TN (DD 19):=by unfold TN;intros;refine lk (g:=19) rfl Tryz.func100 Ab6 ?_;apply AnN _ WB<;>assumption
theorem AhD:VH (DD 64):=by unfold VH;intros;refine lk (g:=64) rfl Tryz.func166 Ac9 ?_;apply Aqa _ WB<;>assumption
theorem AfC:TT (DD 20):=by unfold TT;intros;refine lk (g:=20) rfl Tryz.func101 AaP ?_;apply Anv _ AhD<;>assumption
theorem AnE:Y6 (DD 7):=by unfold Y6;intros;refine lk (g:=7) rfl Tryz.func41 Ago ?_;apply ArS _ Kb Abm AfU AeO AfC<;>assumption
theorem Kc:OH (DD 31):=by unfold OH;intros;refine lk (g:=31) rfl Tryz.func104 AiJ ?_;apply Awl _<;>assumption
theorem AnB:Aky (DD 226):=by unfold Aky;intros;refine lk (g:=226) rfl Tryz.func252 Als ?_;apply Ayk _ Kc<;>assumption
theorem AkA:Aem (DD 170):=by unfold Aem;intros;refine lk (g:=170) rfl Tryz.func213 Ah6 ?_;apply AvW _ AnB<;>assumption
theorem Ad8:Qr (DD 98):=by unfold Qr;intros;refine lk (g:=98) rfl Tryz.func169 Zb ?_;apply Akc _ Kc AkA<;>assumption
theorem AaC:Oz (DD 32):=by unfold Oz;intros;refine lk (g:=32) rfl Tryz.func105 Xz ?_;apply Ahq _ Ad8<;>assumption
theorem AfP:Tm (DD 33):=by unfold Tm;intros;refine lk (g:=33) rfl Tryz.func106 Abl ?_;apply AmY _ Kc<;>assumption
theorem Aj8:Aek (DD 171):=by unfold Aek;intros;refine lk (g:=171) rfl Tryz.func214 Ahw ?_;apply AvI _ Kc<;>assumption
theorem WO:RX (DD 99):=by unfold RX;intros;refine lk (g:=99) rfl Tryz.func170 AcY ?_;apply Aqg _ Aj8 Kc<;>assumption
theorem AfT:Tq (DD 34):=by unfold Tq;intros;refine lk (g:=34) rfl Tryz.func107 Abd ?_;apply AnO _ WO<;>assumption
theorem Afo:VK (DD 100):=by unfold VK;intros;refine lk (g:=100) rfl Tryz.func171 Adw ?_;apply AoM _ WO<;>assumption
theorem AfY:TP (DD 35):=by unfold TP;intros;refine lk (g:=35) rfl Tryz.func108 AbG ?_;apply Anb _ Afo<;>assumption
theorem Anc:Zx (DD 8):=by unfold Zx;intros;refine lk (g:=8) rfl Tryz.func43 Afn ?_;apply As9 _ Kc AaC AfP AfT AfY<;>assumption
theorem JX:Fg (DD 47):=by unfold Fg;intros;refine lk (g:=47) rfl Tryz.func109 Aho ?_;apply AvU _<;>assumption
theorem Ane:Aki (DD 249):=by unfold Aki;intros;refine lk (g:=249) rfl Tryz.func253 AjT ?_;apply Azh _ JX<;>assumption
theorem Akk:Aex (DD 204):=by unfold Aex;intros;refine lk (g:=204) rfl Tryz.func215 Aid ?_;apply AwI _ Ane<;>assumption
theorem Abh:Qc (DD 134):=by unfold Qc;intros;refine lk (g:=134) rfl Tryz.func172 YV ?_;apply Akz _ JX Akk<;>assumption
theorem AbP:Oq (DD 48):=by unfold Oq;intros;refine lk (g:=48) rfl Tryz.func110 XT ?_;apply Ah2 _ Abh<;>assumption
theorem AeK:Tj (DD 49):=by unfold Tj;intros;refine lk (g:=49) rfl Tryz.func111 AaN ?_;apply Ame _ JX<;>assumption
theorem Ak8:Aew (DD 205):=by unfold Aew;intros;refine lk (g:=205) rfl Tryz.func116 Ah8 ?_;apply AwN _ JX<;>assumption
theorem UF:Rs (DD 135):=by unfold Rs;intros;refine lk (g:=135) rfl Tryz.func47 Ado ?_;apply Ap2 _ Ak8 JX<;>assumption
theorem Ahd:Sj (DD 50):=by unfold Sj;intros;refine lk (g:=50) rfl Tryz.func112 Abs ?_;apply AmJ _ UF<;>assumption
theorem Ag8:Vy (DD 136):=by unfold Vy;intros;refine lk (g:=136) rfl Tryz.func173 Ad0 ?_;apply AoD _ UF<;>assumption
theorem AeW:TF (DD 51):=by unfold TF;intros;refine lk (g:=51) rfl Tryz.func113 Abw ?_;apply AmS _ Ag8<;>assumption
theorem AlG:ZM (DD 11):=by unfold ZM;intros;refine lk (g:=11) rfl Tryz.func45 Agk ?_;apply ArK _ JX AbP AeK Ahd AeW<;>assumption
theorem Rx:JS (DD 511):=by unfold JS;intros;refine lk (g:=511) rfl Tryz.func6 QZ ?_;apply V6 _ AbI Aa4 AnE Anc AlG<;>assumption
theorem den (av:List V) (h:Aru [Aeh] av):DD 511 av [] (B true) []:=by
 obtain⟨v0,r0,h0,hr0,rfl⟩:=h
 obtain⟨x0,rfl,l0,w0⟩:=AuK h0
 have z:r0=[]:=hr0
 subst z
 apply Rx<;>assumption
end Go.Eng.T
