/- Own work: part 48 of the proof of FnExactFaultOf. -/
import Derived.Test.YtdoefikagfghnaaGreatP47
import Derived.Test.YtdoefikagfghnaaGreatProg
import Derived.KernelRfl
set_option linter.unusedSimpArgs false
set_option linter.unusedVariables false
namespace Go.Eng.T
open Go.Proofs
set_option maxRecDepth 100000
def AFV:List (Option Nat):=[none,none,none,none,none,none,none,some 9,some 11,none,none,some 13,none,none,none,none,some 63,some 64,some 65,some 66,some 67,none,none,none,none,none,none,none,none,none,none,some 73,some 74,some 75,some 76,some 77,none,none,none,none,none,none,none,none,none,none,none,some 82,some 83,some 84,some 85,some 86,none,none,none,none,none,none,none,none,none,none,some 159,some 160,some 161,none,some 171,none,none,none,none,some 170,none,none,none,none,none,none,none,none,none,none,none,none,none,none,none,some 172,none,some 10,none,none,none,none,none,some 169,none,none,some 179,some 180,some 181,none,none,none,none,none,none,none,none,none,none,none,none,none,some 110,none,none,some 92,none,none,none,none,none,some 105,none,none,none,none,none,none,none,some 182,none,some 12,some 189,some 190,some 191,none,none,some 238,some 239,some 68,some 174,none,some 201,some 166,none,none,none,none,none,none,some 234,none,none,some 260,none,none,some 177,some 219,none,some 69,some 70,some 71,some 72,none,some 167,none,some 176,none,some 247,some 248,none,some 93,none,some 96,some 117,none,none,none,none,none,none,some 108,some 27,none,none,none,some 118,some 205,some 184,none,none,none,none,none,some 185,some 208,some 249,none,some 78,some 79,some 80,some 81,some 255,some 256,some 137,some 162,some 163,some 164,some 165,some 168,some 244,some 243,none,some 241,none,some 278,none,some 173,some 175,some 178,some 375,some 348,some 246,none,some 146,some 196,none,some 198,none,none,some 207,some 209,some 111,some 112,some 113,some 115,some 114,some 116,some 270,none,some 251,none,none,some 183,some 32,some 187,some 186,some 147,some 240,some 281,some 280,some 282,some 242,none,some 407,none,some 378,some 245,some 406,some 258,some 257,some 250,none,none,some 266,some 253,some 211,some 210,some 188,some 213,some 119,some 303,some 302,none,none,none,some 120,some 254,some 311,some 312,some 313,some 314,some 279,some 337,some 341,some 285,some 286,some 287,some 288,some 283,some 304,some 316,some 274,some 305,some 306,some 308,some 307,some 121,some 338,some 339,some 340,some 342,some 343,some 345,some 346,some 344,some 347,some 349,some 350,some 351,some 352,some 353,some 315,some 317,some 318,some 319,some 320,some 321,some 322,some 323,some 325,some 324,some 326,some 334,some 336,some 335,some 374,some 377,some 376,some 380,some 379,some 381,some 382,some 384,some 383,some 385,some 387,some 386,some 354,some 356,some 355,some 357,none,some 360,some 361,some 359,some 362,some 363,some 364,some 366,some 365,some 369,some 368,some 404,some 405,some 122,some 388,some 389,some 390,some 392,some 391,none,some 394,some 396,some 395,some 397,some 398,some 399,some 400,some 409,some 408,some 410,some 411,some 412,none,none,none,none,none,none,none,none,none,none,none,none,none,some 214,none,none,none,some 212,none,none,none,none,none,none,none,none,none,some 252,some 284,some 267,some 215,none,none,none,none,none,none,none,none,none,none,none,none,some 413,none,none,none,none,none,none,none,none,none,none,none,none,none,none,none,none,none,none,none,none,none,none,none,none,none,none,none,none,none,none,none,none,none,none,none,none,none,none,none,none,none,none,none,none,none,none,none,none,none,none,none,none,none,none,none,none,none,none,none,none,none,none,none,none,none,none,none,none,none,none,none,none,none,none,none,none,none,none,none,none,none,none,none,none,none,none,none,none,none,none,none,none,none,none,none,none,none,none,none,none,some 3,none,none,none,none,none,none,none,none,none,none,none,none,none,none,none,none,none,none,none,none,none,none,none,none,none]
def Af:Nat→Option FuncId:=fun g=>AFV.getD g none
theorem AuF:Tryz.prog.follows .mixedOrders=true:=by kernel_rfl
theorem hFl:AFV.all (fun o=>match o with | some f=>okF Tryz.prog f | none=>true)=true:=by kernel_rfl
theorem hF:∀g f,Af g=some f→okF Tryz.prog f=true:=by
 intro g f h
 have:=List.all_eq_true.1 hFl (some f) (by
  unfold Af at h
  rw[List.getD_eq_getElem?_getD]at h
  cases hg:AFV[g]? with
  | none=>simp[hg]at h
  | some o=>simp[hg]at h;subst h;exact List.mem_of_getElem? hg)
 exact this
abbrev G0:Gl:=⟨fun _=>False,fun _=>none⟩
abbrev DD:Dn:=Den Tryz.prog Af G0
theorem lk {g:Nat} {f:FuncId} {fn:Func} {st:List Tmp} {sf:Bh} (hg:Af g=some f) (hfn:Tryz.prog.funcs[f]? =some fn) (hm:Bl Tryz.prog Af st sf fn=true) {a:List V} {gi:List O} {r:V} {o:List O}
 (h:Body DD sf a gi r o):DD g a gi r o:=
 AAZ AuF (fun _ _ _ _ _ h=>h) hF (fun id hid=>by rw[hg]at hid;cases hid;exact hfn) hm h
theorem AsN:Bl Tryz.prog Af Aqw Abd Tryz.f170=true:=by kernel_rfl
theorem AcZ:Bl Tryz.prog Af Aaz OC Tryz.f240=true:=by kernel_rfl
theorem Anh:Bl Tryz.prog Af Ajl VG Tryz.f278=true:=by kernel_rfl
theorem ApR:Bl Tryz.prog Af Amu Xo Tryz.f234=true:=by kernel_rfl
theorem Z9:Bl Tryz.prog Af Za MW Tryz.f163=true:=by kernel_rfl
theorem AbM:Bl Tryz.prog Af AaW OA Tryz.f162=true:=by kernel_rfl
theorem Ajx:Bl Tryz.prog Af AgO Tm Tryz.f164=true:=by kernel_rfl
theorem AbD:Bl Tryz.prog Af Aaa NU Tryz.f165=true:=by kernel_rfl
theorem AdU:Bl Tryz.prog Af Abz Pt Tryz.f166=true:=by kernel_rfl
theorem ApW:Bl Tryz.prog Af AmL Xv Tryz.f167=true:=by kernel_rfl
theorem AkD:Bl Tryz.prog Af AgM TU Tryz.f169=true:=by kernel_rfl
theorem AgS:Bl Tryz.prog Af Aen RB Tryz.f246=true:=by kernel_rfl
theorem Ac4:Bl Tryz.prog Af AaV NI Tryz.f176=true:=by kernel_rfl
theorem AhC:Bl Tryz.prog Af Ad0 Rt Tryz.f168=true:=by kernel_rfl
theorem AjD:Bl Tryz.prog Af AfX Tq Tryz.f68=true:=by kernel_rfl
theorem Aiq:Bl Tryz.prog Af Af4 Tw Tryz.f171=true:=by kernel_rfl
theorem AhT:Bl Tryz.prog Af Aes RD Tryz.f260=true:=by kernel_rfl
theorem Ae5:Bl Tryz.prog Af AbB PK Tryz.f201=true:=by kernel_rfl
theorem Amn:Bl Tryz.prog Af Aiu VN Tryz.f177=true:=by kernel_rfl
theorem AoB:Bl Tryz.prog Af Amh Yb Tryz.f219=true:=by kernel_rfl
theorem AfZ:Bl Tryz.prog Af AdZ Rx Tryz.f172=true:=by kernel_rfl
theorem AjV:Bl Tryz.prog Af Ahj Uv Tryz.f279=true:=by kernel_rfl
theorem AiN:Bl Tryz.prog Af Ag6 TS Tryz.f242=true:=by kernel_rfl
theorem Aue:Bl Tryz.prog Af Arh Ad9 Tryz.f241=true:=by kernel_rfl
theorem Af3:Bl Tryz.prog Af Afn RI Tryz.f173=true:=by kernel_rfl
theorem AdT:Bl Tryz.prog Af Adq Qt Tryz.f69=true:=by kernel_rfl
theorem AuJ:Bl Tryz.prog Af ArY AeB Tryz.f282=true:=by kernel_rfl
theorem AjW:Bl Tryz.prog Af AhK Un Tryz.f244=true:=by kernel_rfl
theorem AuV:Bl Tryz.prog Af ArA Aey Tryz.f386=true:=by kernel_rfl
theorem Ar4:Bl Tryz.prog Af Ao2 AaI Tryz.f387=true:=by kernel_rfl
theorem Amy:Bl Tryz.prog Af Alm Wv Tryz.f353=true:=by kernel_rfl
theorem Afb:Bl Tryz.prog Af Ace PD Tryz.f350=true:=by kernel_rfl
theorem Am1:Bl Tryz.prog Af Ai6 Wy Tryz.f347=true:=by kernel_rfl
theorem Aks:Bl Tryz.prog Af AgE TD Tryz.f380=true:=by kernel_rfl
theorem Alk:Bl Tryz.prog Af Agy Ud Tryz.f351=true:=by kernel_rfl
theorem ApO:Bl Tryz.prog Af Amc Xa Tryz.f349=true:=by kernel_rfl
theorem Ajm:Bl Tryz.prog Af AhD TW Tryz.f352=true:=by kernel_rfl
theorem AdQ:Bl Tryz.prog Af Abi PW Tryz.f314=true:=by kernel_rfl
theorem AkF:Bl Tryz.prog Af AhL Uu Tryz.f281=true:=by kernel_rfl
theorem AiR:Bl Tryz.prog Af AfV TY Tryz.f337=true:=by kernel_rfl
theorem AhE:Bl Tryz.prog Af AeJ Rh Tryz.f339=true:=by kernel_rfl
theorem AkC:Bl Tryz.prog Af Aho Tt Tryz.f378=true:=by kernel_rfl
theorem Ag7:Bl Tryz.prog Af Aep Sr Tryz.f341=true:=by kernel_rfl
theorem Afe:Bl Tryz.prog Af AcY PO Tryz.f404=true:=by kernel_rfl
theorem AeV:Bl Tryz.prog Af Ac6 PY Tryz.f405=true:=by kernel_rfl
theorem Aaj:Bl Tryz.prog Af Ze Mc Tryz.f374=true:=by kernel_rfl
theorem Aat:Bl Tryz.prog Af Zg MN Tryz.f338=true:=by kernel_rfl
theorem AcQ:Bl Tryz.prog Af AaX NN Tryz.f407=true:=by kernel_rfl
theorem Abm:Bl Tryz.prog Af Aa7 NS Tryz.f406=true:=by kernel_rfl
theorem YX:Bl Tryz.prog Af Xc K6 Tryz.f375=true:=by kernel_rfl
theorem AjG:Bl Tryz.prog Af Ag9 Uo Tryz.f348=true:=by kernel_rfl
theorem AgG:Bl Tryz.prog Af AdC Sl Tryz.f377=true:=by kernel_rfl
theorem Ad1:Bl Tryz.prog Af Ac8 Qd Tryz.f376=true:=by kernel_rfl
theorem Xz:Bl Tryz.prog Af WS Kk Tryz.f340=true:=by kernel_rfl
theorem AgN:Bl Tryz.prog Af AdV Rl Tryz.f311=true:=by kernel_rfl
theorem Aay:Bl Tryz.prog Af Zn Mh Tryz.f379=true:=by kernel_rfl
theorem Zh:Bl Tryz.prog Af Yl Ls Tryz.f342=true:=by kernel_rfl
theorem Aga:Bl Tryz.prog Af Afp RA Tryz.f381=true:=by kernel_rfl
theorem Ae3:Bl Tryz.prog Af Abl Pn Tryz.f343=true:=by kernel_rfl
theorem Ada:Bl Tryz.prog Af Aa3 Oj Tryz.f385=true:=by kernel_rfl
theorem Aco:Bl Tryz.prog Af Aa8 Nw Tryz.f345=true:=by kernel_rfl
theorem Aam:Bl Tryz.prog Af Y9 ML Tryz.f346=true:=by kernel_rfl
theorem Zb:Bl Tryz.prog Af Xe K5 Tryz.f382=true:=by kernel_rfl
theorem WR:Bl Tryz.prog Af Wx JU Tryz.f384=true:=by kernel_rfl
theorem AdA:Bl Tryz.prog Af Abr PX Tryz.f383=true:=by kernel_rfl
theorem Ahh:Bl Tryz.prog Af Aek Sd Tryz.f344=true:=by kernel_rfl
theorem AhX:Bl Tryz.prog Af AdB RL Tryz.f312=true:=by kernel_rfl
theorem Aiw:Bl Tryz.prog Af AhJ Tn Tryz.f313=true:=by kernel_rfl
theorem Ar3:Bl Tryz.prog Af Ap1 AaP Tryz.f280=true:=by kernel_rfl
theorem Aj7:Bl Tryz.prog Af Agf TP Tryz.f243=true:=by kernel_rfl
theorem Anv:Bl Tryz.prog Af Ajv Vk Tryz.f174=true:=by kernel_rfl
theorem AkM:Bl Tryz.prog Af Ahb Uk Tryz.f245=true:=by kernel_rfl
theorem AaN:Bl Tryz.prog Af Zl Ni Tryz.f175=true:=by kernel_rfl
theorem Abw:Bl Tryz.prog Af Abe Oq Tryz.f70=true:=by kernel_rfl
theorem Afd:Bl Tryz.prog Af Abx Qx Tryz.f71=true:=by kernel_rfl
theorem Adt:Bl Tryz.prog Af AaC Nr Tryz.f178=true:=by kernel_rfl
theorem AiX:Bl Tryz.prog Af AgZ Tx Tryz.f72=true:=by kernel_rfl
theorem AiL:Bl Tryz.prog Af AgX Tp Tryz.f10=true:=by kernel_rfl
theorem Alq:Bl Tryz.prog Af AhQ TJ Tryz.f105=true:=by kernel_rfl
theorem Alc:Bl Tryz.prog Af Agl TT Tryz.f110=true:=by kernel_rfl
theorem ZY:Bl Tryz.prog Af Zo Mx Tryz.f207=true:=by kernel_rfl
theorem SB:Bl Tryz.prog Af RZ Ho Tryz.f214=true:=by kernel_rfl
theorem Qp:Bl Tryz.prog Af OO F3 Tryz.f118=true:=by kernel_rfl
theorem Agd:Bl Tryz.prog Af AeI R5 Tryz.f251=true:=by kernel_rfl
theorem AbA:Bl Tryz.prog Af Abc N7 Tryz.f184=true:=by kernel_rfl
theorem AbR:Bl Tryz.prog Af ZT Ol Tryz.f211=true:=by kernel_rfl
theorem LZ:Bl Tryz.prog Af Le EK Tryz.f267=true:=by kernel_rfl
theorem Kw:Bl Tryz.prog Af J9 Ef Tryz.f210=true:=by kernel_rfl
theorem Ahl:Bl Tryz.prog Af Ae7 RO Tryz.f111=true:=by kernel_rfl
theorem Zm:Bl Tryz.prog Af XO Lh Tryz.f266=true:=by kernel_rfl
theorem Pf:Bl Tryz.prog Af Nt FQ Tryz.f284=true:=by kernel_rfl
theorem M6:Bl Tryz.prog Af LY E8 Tryz.f253=true:=by kernel_rfl
theorem Adl:Bl Tryz.prog Af AaQ Ov Tryz.f209=true:=by kernel_rfl
theorem Aiy:Bl Tryz.prog Af AgQ Ux Tryz.f112=true:=by kernel_rfl
theorem Acj:Bl Tryz.prog Af Aa6 NA Tryz.f113=true:=by kernel_rfl
theorem Adm:Bl Tryz.prog Af AaO NG Tryz.f254=true:=by kernel_rfl
theorem AbG:Bl Tryz.prog Af Aac ND Tryz.f188=true:=by kernel_rfl
theorem Aos:Bl Tryz.prog Af AmN Ya Tryz.f108=true:=by kernel_rfl
theorem Y7:Bl Tryz.prog Af XT Lj Tryz.f213=true:=by kernel_rfl
theorem Jk:Bl Tryz.prog Af Jd Dv Tryz.f215=true:=by kernel_rfl
theorem IB:Bl Tryz.prog Af Im C8 Tryz.f119=true:=by kernel_rfl
theorem Acb:Bl Tryz.prog Af Aad Oi Tryz.f116=true:=by kernel_rfl
theorem AdY:Bl Tryz.prog Af AcS Qa Tryz.f115=true:=by kernel_rfl
theorem GL:Bl Tryz.prog Af Gw Ce Tryz.f212=true:=by kernel_rfl
theorem F6:Bl Tryz.prog Af FW BN Tryz.f114=true:=by kernel_rfl
theorem Afm:Bl Tryz.prog Af Ac2 PU Tryz.f117=true:=by kernel_rfl
theorem Akq:Bl Tryz.prog Af Ahr Ue Tryz.f27=true:=by kernel_rfl
theorem Apg:Bl Tryz.prog Af Aly WZ Tryz.f198=true:=by kernel_rfl
theorem AeF:Bl Tryz.prog Af Abj QB Tryz.f96=true:=by kernel_rfl
theorem Amw:Bl Tryz.prog Af Aj2 V5 Tryz.f185=true:=by kernel_rfl
theorem Aeh:Bl Tryz.prog Af Ade PE Tryz.f182=true:=by kernel_rfl
theorem Ajs:Bl Tryz.prog Af AgV Uq Tryz.f283=true:=by kernel_rfl
theorem Aj1:Bl Tryz.prog Af Ag3 TI Tryz.f250=true:=by kernel_rfl
theorem AgD:Bl Tryz.prog Af Ad4 RJ Tryz.f183=true:=by kernel_rfl
theorem Aeb:Bl Tryz.prog Af Ach Qv Tryz.f78=true:=by kernel_rfl
theorem Al3:Bl Tryz.prog Af AjM VD Tryz.f92=true:=by kernel_rfl
theorem Acu:Bl Tryz.prog Af Aao Nq Tryz.f364=true:=by kernel_rfl
theorem Ahc:Bl Tryz.prog Af AeS SA Tryz.f307=true:=by kernel_rfl
theorem Ahd:Bl Tryz.prog Af AeR Sy Tryz.f320=true:=by kernel_rfl
theorem Avw:Bl Tryz.prog Af ArR Afj Tryz.f368=true:=by kernel_rfl
theorem Asr:Bl Tryz.prog Af Ao8 AaE Tryz.f369=true:=by kernel_rfl
theorem AlT:Bl Tryz.prog Af Ak6 VS Tryz.f325=true:=by kernel_rfl
theorem Ae4:Bl Tryz.prog Af AbE P5 Tryz.f321=true:=by kernel_rfl
theorem Ai5:Bl Tryz.prog Af AgJ TH Tryz.f366=true:=by kernel_rfl
theorem Jj:Bl Tryz.prog Af Jb Dy Tryz.f365=true:=by kernel_rfl
theorem AoX:Bl Tryz.prog Af AlU XQ Tryz.f323=true:=by kernel_rfl
theorem AjA:Bl Tryz.prog Af Agw Uh Tryz.f322=true:=by kernel_rfl
theorem AbZ:Bl Tryz.prog Af Aab NV Tryz.f288=true:=by kernel_rfl
theorem AiQ:Bl Tryz.prog Af AgB TL Tryz.f258=true:=by kernel_rfl
theorem AiD:Bl Tryz.prog Af Agm Ui Tryz.f304=true:=by kernel_rfl
theorem Aff:Bl Tryz.prog Af Adj Qz Tryz.f316=true:=by kernel_rfl
theorem AkK:Bl Tryz.prog Af Agj Us Tryz.f336=true:=by kernel_rfl
theorem Iz:Bl Tryz.prog Af Io CZ Tryz.f335=true:=by kernel_rfl
theorem Aqc:Bl Tryz.prog Af Am9 XE Tryz.f305=true:=by kernel_rfl
theorem AdN:Bl Tryz.prog Af AbQ Qf Tryz.f308=true:=by kernel_rfl
theorem Ajh:Bl Tryz.prog Af Ahq Ul Tryz.f274=true:=by kernel_rfl
theorem Ago:Bl Tryz.prog Af AdL RN Tryz.f302=true:=by kernel_rfl
theorem SF:Bl Tryz.prog Af RF Hu Tryz.f122=true:=by kernel_rfl
theorem Aht:Bl Tryz.prog Af Aec Ry Tryz.f409=true:=by kernel_rfl
theorem Fg:Bl Tryz.prog Af Fa Bq Tryz.f408=true:=by kernel_rfl
theorem AdI:Bl Tryz.prog Af Ac5 PN Tryz.f388=true:=by kernel_rfl
theorem Aa5:Bl Tryz.prog Af YW M4 Tryz.f354=true:=by kernel_rfl
theorem Aak:Bl Tryz.prog Af Y4 M8 Tryz.f315=true:=by kernel_rfl
theorem Acd:Bl Tryz.prog Af Aax NW Tryz.f303=true:=by kernel_rfl
theorem Y1:Bl Tryz.prog Af Yp Lb Tryz.f270=true:=by kernel_rfl
theorem Alh:Bl Tryz.prog Af AfY Ut Tryz.f205=true:=by kernel_rfl
theorem AcT:Bl Tryz.prog Af ZW Og Tryz.f390=true:=by kernel_rfl
theorem Agq:Bl Tryz.prog Af Afg Sg Tryz.f356=true:=by kernel_rfl
theorem AaU:Bl Tryz.prog Af Zi Mv Tryz.f389=true:=by kernel_rfl
theorem AdE:Bl Tryz.prog Af Ado Qj Tryz.f355=true:=by kernel_rfl
theorem Xj:Bl Tryz.prog Af WV Kj Tryz.f317=true:=by kernel_rfl
theorem Ahm:Bl Tryz.prog Af Afh Ri Tryz.f285=true:=by kernel_rfl
theorem AeD:Bl Tryz.prog Af Ab5 PG Tryz.f411=true:=by kernel_rfl
theorem Alj:Bl Tryz.prog Af Ag0 Uw Tryz.f392=true:=by kernel_rfl
theorem XH:Bl Tryz.prog Af WN Kq Tryz.f410=true:=by kernel_rfl
theorem AaZ:Bl Tryz.prog Af Zj MO Tryz.f391=true:=by kernel_rfl
theorem Zp:Bl Tryz.prog Af Xp KZ Tryz.f357=true:=by kernel_rfl
theorem Agk:Bl Tryz.prog Af AdK R8 Tryz.f399=true:=by kernel_rfl
theorem AlN:Bl Tryz.prog Af AkR VK Tryz.f319=true:=by kernel_rfl
theorem AeW:Bl Tryz.prog Af Ads Pv Tryz.f400=true:=by kernel_rfl
theorem AeM:Bl Tryz.prog Af Adh Pm Tryz.f362=true:=by kernel_rfl
theorem Ab0:Bl Tryz.prog Af Z0 NP Tryz.f397=true:=by kernel_rfl
theorem QI:Bl Tryz.prog Af Qm GA Tryz.f398=true:=by kernel_rfl
theorem AcD:Bl Tryz.prog Af Aba Oz Tryz.f360=true:=by kernel_rfl
theorem Aaw:Bl Tryz.prog Af Y2 Na Tryz.f361=true:=by kernel_rfl
theorem WU:Bl Tryz.prog Af WB Jq Tryz.f412=true:=by kernel_rfl
theorem Zf:Bl Tryz.prog Af X3 Ld Tryz.f394=true:=by kernel_rfl
theorem WO:Bl Tryz.prog Af Vy JH Tryz.f396=true:=by kernel_rfl
theorem Aez:Bl Tryz.prog Af Abs Pz Tryz.f395=true:=by kernel_rfl
theorem AhV:Bl Tryz.prog Af Aev Rk Tryz.f359=true:=by kernel_rfl
theorem Aee:Bl Tryz.prog Af Ab1 Qc Tryz.f363=true:=by kernel_rfl
theorem Ans:Bl Tryz.prog Af Akt Wd Tryz.f318=true:=by kernel_rfl
theorem Ahn:Bl Tryz.prog Af Aex Si Tryz.f286=true:=by kernel_rfl
theorem AkU:Bl Tryz.prog Af Agz T9 Tryz.f287=true:=by kernel_rfl
theorem AsU:Bl Tryz.prog Af ApK Aav Tryz.f257=true:=by kernel_rfl
theorem AiY:Bl Tryz.prog Af AhF TB Tryz.f196=true:=by kernel_rfl
theorem AmV:Bl Tryz.prog Af Ako Vu Tryz.f93=true:=by kernel_rfl
theorem AjH:Bl Tryz.prog Af AhO TA Tryz.f121=true:=by kernel_rfl
theorem XA:Bl Tryz.prog Af WQ Ku Tryz.f120=true:=by kernel_rfl
theorem Aa1:Bl Tryz.prog Af Zq Ma Tryz.f32=true:=by kernel_rfl
theorem AcU:Bl Tryz.prog Af AaK NF Tryz.f79=true:=by kernel_rfl
theorem AdW:Bl Tryz.prog Af Abv PS Tryz.f80=true:=by kernel_rfl
theorem AeZ:Bl Tryz.prog Af AbY Qq Tryz.f187=true:=by kernel_rfl
theorem HY:Bl Tryz.prog Af Hq Cz Tryz.f252=true:=by kernel_rfl
theorem GQ:Bl Tryz.prog Af GN Cq Tryz.f186=true:=by kernel_rfl
theorem Aju:Bl Tryz.prog Af Agv TG Tryz.f81=true:=by kernel_rfl
theorem AjU:Bl Tryz.prog Af AhP Um Tryz.f12=true:=by kernel_rfl
theorem Amb:Bl Tryz.prog Af AiC Vp Tryz.f63=true:=by kernel_rfl
theorem AoO:Bl Tryz.prog Af AlG Xq Tryz.f137=true:=by kernel_rfl
theorem AlK:Bl Tryz.prog Af Akc VE Tryz.f238=true:=by kernel_rfl
theorem Abu:Bl Tryz.prog Af Aa2 Nu Tryz.f159=true:=by kernel_rfl
theorem AaH:Bl Tryz.prog Af Y5 M5 Tryz.f64=true:=by kernel_rfl
theorem AeL:Bl Tryz.prog Af Adr Ql Tryz.f65=true:=by kernel_rfl
theorem Al4:Bl Tryz.prog Af AkA VY Tryz.f239=true:=by kernel_rfl
theorem AgC:Bl Tryz.prog Af Aef RX Tryz.f160=true:=by kernel_rfl
theorem AdM:Bl Tryz.prog Af Acy QA Tryz.f66=true:=by kernel_rfl
theorem Agt:Bl Tryz.prog Af AdD RP Tryz.f161=true:=by kernel_rfl
theorem Ad2:Bl Tryz.prog Af AcW Ps Tryz.f67=true:=by kernel_rfl
theorem Akb:Bl Tryz.prog Af Ahs TM Tryz.f9=true:=by kernel_rfl
theorem Am5:Bl Tryz.prog Af Ajb VA Tryz.f73=true:=by kernel_rfl
theorem Apt:Bl Tryz.prog Af Am7 Xk Tryz.f146=true:=by kernel_rfl
theorem Al7:Bl Tryz.prog Af Aiv Vv Tryz.f247=true:=by kernel_rfl
theorem Acs:Bl Tryz.prog Af Aag NK Tryz.f179=true:=by kernel_rfl
theorem ZV:Bl Tryz.prog Af Zd MX Tryz.f74=true:=by kernel_rfl
theorem AdP:Bl Tryz.prog Af Abk PI Tryz.f75=true:=by kernel_rfl
theorem AlY:Bl Tryz.prog Af AjQ Vj Tryz.f248=true:=by kernel_rfl
theorem AgF:Bl Tryz.prog Af Ae9 RS Tryz.f180=true:=by kernel_rfl
theorem Afi:Bl Tryz.prog Af Abn Pp Tryz.f76=true:=by kernel_rfl
theorem Af9:Bl Tryz.prog Af AeX RV Tryz.f181=true:=by kernel_rfl
theorem Aew:Bl Tryz.prog Af Abt P9 Tryz.f77=true:=by kernel_rfl
theorem Ak2:Bl Tryz.prog Af Ahk Ua Tryz.f11=true:=by kernel_rfl
theorem Ant:Bl Tryz.prog Af Aj3 Wl Tryz.f82=true:=by kernel_rfl
theorem Apq:Bl Tryz.prog Af AlC Xt Tryz.f147=true:=by kernel_rfl
theorem AlR:Bl Tryz.prog Af Ald V4 Tryz.f255=true:=by kernel_rfl
theorem Adv:Bl Tryz.prog Af Z5 NR Tryz.f189=true:=by kernel_rfl
theorem Aai:Bl Tryz.prog Af Y3 MI Tryz.f83=true:=by kernel_rfl
theorem AeP:Bl Tryz.prog Af Aby Px Tryz.f84=true:=by kernel_rfl
theorem AmK:Bl Tryz.prog Af Ajj Vi Tryz.f256=true:=by kernel_rfl
theorem AhS:Bl Tryz.prog Af AeK R7 Tryz.f190=true:=by kernel_rfl
theorem AdF:Bl Tryz.prog Af Acn Qg Tryz.f85=true:=by kernel_rfl
theorem AhB:Bl Tryz.prog Af AeH R4 Tryz.f191=true:=by kernel_rfl
theorem Ad5:Bl Tryz.prog Af AbW QC Tryz.f86=true:=by kernel_rfl
theorem AkS:Bl Tryz.prog Af Ahf Uc Tryz.f13=true:=by kernel_rfl
theorem WX:Bl Tryz.prog Af Vz Jm Tryz.f3=true:=by kernel_rfl
theorem FL:SG (DD 71):=by unfold SG;intros;refine lk (g:=71) rfl Tryz.func170 AsN ?_;apply AFD _<;>assumption
theorem J7:EW (DD 250):=by unfold EW;intros;refine lk (g:=250) rfl Tryz.func240 AcZ ?_;apply AlF _ FL<;>assumption
theorem Wi:Yr (DD 217):=by unfold Yr;intros;refine lk (g:=217) rfl Tryz.func278 Anh ?_;apply ACc _ FL<;>assumption
theorem Yo:RQ (DD 152):=by unfold RQ;intros;refine lk (g:=152) rfl Tryz.func234 ApR ?_;apply AB1 _ FL Wi<;>assumption
theorem EO:BK (DD 208):=by unfold BK;intros;refine lk (g:=208) rfl Tryz.func163 Z9 ?_;apply Aj5 _ FL<;>assumption
theorem NY:ET (DD 207):=by unfold ET;intros;refine lk (g:=207) rfl Tryz.func162 AbM ?_;apply Anc _ FL J7 Yo EO<;>assumption
theorem AmT:MC (DD 209):=by unfold MC;intros;refine lk (g:=209) rfl Tryz.func164 Ajx ?_;apply AvH _ FL<;>assumption
theorem Yq:I6 (DD 210):=by unfold I6;intros;refine lk (g:=210) rfl Tryz.func165 AbD ?_;apply AqX _ FL<;>assumption
theorem Qh:FR (DD 145):=by unfold FR;intros;refine lk (g:=145) rfl Tryz.func166 AdU ?_;apply AoM _ FL<;>assumption
theorem Lx:R6 (DD 166):=by unfold R6;intros;refine lk (g:=166) rfl Tryz.func167 ApW ?_;apply AEg _<;>assumption
theorem Acr:Kz (DD 95):=by unfold Kz;intros;refine lk (g:=95) rfl Tryz.func169 AkD ?_;apply AuR _<;>assumption
theorem Ai3:Lu (DD 224):=by unfold Lu;intros;refine lk (g:=224) rfl Tryz.func246 AgS ?_;apply As0 _ Lx<;>assumption
theorem Ny:EX (DD 168):=by unfold EX;intros;refine lk (g:=168) rfl Tryz.func176 Ac4 ?_;apply AmY _ Ai3 EO<;>assumption
theorem X9:Ja (DD 211):=by unfold Ja;intros;refine lk (g:=211) rfl Tryz.func168 AhC ?_;apply Ark _ Ny EO<;>assumption
theorem AmC:Pd (DD 141):=by unfold Pd;intros;refine lk (g:=141) rfl Tryz.func68 AjD ?_;apply AvL _ NY EO AmT Yq Qh Lx Acr X9 FL<;>assumption
theorem W9:Sv (DD 66):=by unfold Sv;intros;refine lk (g:=66) rfl Tryz.func171 Aiq ?_;apply Ayi _<;>assumption
theorem Aja:YR (DD 155):=by unfold YR;intros;refine lk (g:=155) rfl Tryz.func260 AhT ?_;apply AsM _ Lx<;>assumption
theorem Af2:FU (DD 144):=by unfold FU;intros;refine lk (g:=144) rfl Tryz.func201 Ae5 ?_;apply AoG _ Aja<;>assumption
theorem Ain:ZH (DD 158):=by unfold ZH;intros;refine lk (g:=158) rfl Tryz.func177 Amn ?_;apply ABr _ Af2<;>assumption
theorem Asm:Apd (DD 159):=by unfold Apd;intros;refine lk (g:=159) rfl Tryz.func219 AoB ?_;apply ADj _<;>assumption
theorem AlQ:LB (DD 87):=by unfold LB;intros;refine lk (g:=87) rfl Tryz.func172 AfZ ?_;apply AqR _ Ain Asm<;>assumption
theorem Anw:O5 (DD 284):=by unfold O5;intros;refine lk (g:=284) rfl Tryz.func279 AjV ?_;apply AuL _ FL<;>assumption
theorem Alx:OW (DD 254):=by unfold OW;intros;refine lk (g:=254) rfl Tryz.func242 AiN ?_;apply Avx _ Qh FL Anw<;>assumption
theorem AkZ:Ath (DD 215):=by unfold Ath;intros;refine lk (g:=215) rfl Tryz.func241 Aue ?_;apply AFB _<;>assumption
theorem Ajd:LJ (DD 219):=by unfold LJ;intros;refine lk (g:=219) rfl Tryz.func173 Af3 ?_;apply AqT _ Qh FL W9 Alx AkZ<;>assumption
theorem AgA:JD (DD 161):=by unfold JD;intros;refine lk (g:=161) rfl Tryz.func69 AdT ?_;apply AoA _ W9 AlQ Ajd<;>assumption
theorem Avl:AvR (DD 253):=by unfold AvR;intros;refine lk (g:=253) rfl Tryz.func282 AuJ ?_;apply AFf _<;>assumption
theorem AuY:AvY (DD 212):=by unfold AvY;intros;refine lk (g:=212) rfl Tryz.func244 AjW ?_;apply Ayy _ AkZ Avl<;>assumption
theorem Aok:AmP (DD 339):=by unfold AmP;intros;refine lk (g:=339) rfl Tryz.func386 AuV ?_;apply AF0 _ FL<;>assumption
theorem AaG:WE (DD 338):=by unfold WE;intros;refine lk (g:=338) rfl Tryz.func387 Ar4 ?_;apply AEu _ Aok<;>assumption
theorem AkX:ZM (DD 313):=by unfold ZM;intros;refine lk (g:=313) rfl Tryz.func353 Amy ?_;apply ADd _ AaG Aok<;>assumption
theorem Ahw:JS (DD 310):=by unfold JS;intros;refine lk (g:=310) rfl Tryz.func350 Afb ?_;apply Apl _ AkX<;>assumption
theorem AcF:KV (DD 308):=by unfold KV;intros;refine lk (g:=308) rfl Tryz.func347 Am1 ?_;apply Axa _<;>assumption
theorem Zz:L8 (DD 331):=by unfold L8;intros;refine lk (g:=331) rfl Tryz.func380 Aks ?_;apply AtH _ Lx<;>assumption
theorem AbJ:OG (DD 311):=by unfold OG;intros;refine lk (g:=311) rfl Tryz.func351 Alk ?_;apply Aw7 _ AcF Zz<;>assumption
theorem SI:Qn (DD 309):=by unfold Qn;intros;refine lk (g:=309) rfl Tryz.func349 ApO ?_;apply ABd _<;>assumption
theorem KG:FV (DD 312):=by unfold FV;intros;refine lk (g:=312) rfl Tryz.func352 Ajm ?_;apply Auf _ FL Wi SI<;>assumption
theorem AgT:Ju (DD 283):=by unfold Ju;intros;refine lk (g:=283) rfl Tryz.func314 AdQ ?_;apply Aoz _ Ahw AbJ KG SI AkX<;>assumption
theorem AmF:O9 (DD 251):=by unfold O9;intros;refine lk (g:=251) rfl Tryz.func281 AkF ?_;apply Aub _ NY AgT<;>assumption
theorem Gf:Eb (DD 285):=by unfold Eb;intros;refine lk (g:=285) rfl Tryz.func337 AiR ?_;apply AuM _ EO KG<;>assumption
theorem ZJ:KI (DD 301):=by unfold KI;intros;refine lk (g:=301) rfl Tryz.func339 AhE ?_;apply Avt _ AbJ<;>assumption
theorem AlD:OZ (DD 258):=by unfold OZ;intros;refine lk (g:=258) rfl Tryz.func378 AkC ?_;apply AuQ _ Yo Gf Lx FL<;>assumption
theorem MU:FN (DD 286):=by unfold FN;intros;refine lk (g:=286) rfl Tryz.func341 Ag7 ?_;apply AsW _ Gf ZJ AlD<;>assumption
theorem Ab8:F4 (DD 355):=by unfold F4;intros;refine lk (g:=355) rfl Tryz.func404 Afe ?_;apply Aqn _<;>assumption
theorem Ac7:QT (DD 356):=by unfold QT;intros;refine lk (g:=356) rfl Tryz.func405 AeV ?_;apply Apj _ Ab8<;>assumption
theorem AiH:LX (DD 328):=by unfold LX;intros;refine lk (g:=328) rfl Tryz.func374 Aaj ?_;apply Ai0 _ Ab8 Ac7<;>assumption
theorem Ac0:FX (DD 300):=by unfold FX;intros;refine lk (g:=300) rfl Tryz.func338 Aat ?_;apply AkE _ MU AiH<;>assumption
theorem UF:Gb (DD 256):=by unfold Gb;intros;refine lk (g:=256) rfl Tryz.func407 AcQ ?_;apply Amv _<;>assumption
theorem UD:G9 (DD 260):=by unfold G9;intros;refine lk (g:=260) rfl Tryz.func406 Abm ?_;apply Anx _ EO UF MU<;>assumption
theorem Z4:Gc (DD 222):=by unfold Gc;intros;refine lk (g:=222) rfl Tryz.func375 YX ?_;apply AhU _ EO UD<;>assumption
theorem AiK:WC (DD 223):=by unfold WC;intros;refine lk (g:=223) rfl Tryz.func348 AjG ?_;apply AxI _ Lx<;>assumption
theorem AkP:LA (DD 329):=by unfold LA;intros;refine lk (g:=329) rfl Tryz.func377 AgG ?_;apply AsJ _ KG UD UF MU Ac7<;>assumption
theorem Agh:JJ (DD 330):=by unfold JJ;intros;refine lk (g:=330) rfl Tryz.func376 Ad1 ?_;apply Ap7 _ Gf Lx<;>assumption
theorem Ajo:LD (DD 302):=by unfold LD;intros;refine lk (g:=302) rfl Tryz.func340 Xz ?_;apply AqY _ Gf Z4 AiK AkP Agh<;>assumption
theorem Aka:LM (DD 280):=by unfold LM;intros;refine lk (g:=280) rfl Tryz.func311 AgN ?_;apply Asf _ Gf Ac0 ZJ Ajo<;>assumption
theorem AcC:GX (DD 332):=by unfold GX;intros;refine lk (g:=332) rfl Tryz.func379 Aay ?_;apply Alg _ J7<;>assumption
theorem AoY:SY (DD 303):=by unfold SY;intros;refine lk (g:=303) rfl Tryz.func342 Zh ?_;apply AxG _ Ny Gf Zz AcC<;>assumption
theorem X8:I9 (DD 333):=by unfold I9;intros;refine lk (g:=333) rfl Tryz.func381 Aga ?_;apply Art _ FL KG<;>assumption
theorem AgW:JV (DD 304):=by unfold JV;intros;refine lk (g:=304) rfl Tryz.func343 Ae3 ?_;apply Aqr _ SI J7 Gf X8 Lx<;>assumption
theorem UC:Gm (DD 337):=by unfold Gm;intros;refine lk (g:=337) rfl Tryz.func385 Ada ?_;apply AmO _ KG<;>assumption
theorem Aej:Iq (DD 305):=by unfold Iq;intros;refine lk (g:=305) rfl Tryz.func345 Aco ?_;apply Anp _ Gf UC<;>assumption
theorem Acg:GV (DD 306):=by unfold GV;intros;refine lk (g:=306) rfl Tryz.func346 Aam ?_;apply AkJ _ X8 UC<;>assumption
theorem Zv:KE (DD 334):=by unfold KE;intros;refine lk (g:=334) rfl Tryz.func382 Zb ?_;apply Avy _ Wi<;>assumption
theorem AgR:JI (DD 335):=by unfold JI;intros;refine lk (g:=335) rfl Tryz.func384 WR ?_;apply Aqa _ Zv AaG<;>assumption
theorem Ar8:XV (DD 336):=by unfold XV;intros;refine lk (g:=336) rfl Tryz.func383 AdA ?_;apply ABe _ AaG<;>assumption
theorem Apw:QS (DD 307):=by unfold QS;intros;refine lk (g:=307) rfl Tryz.func344 Ahh ?_;apply Aw2 _ Yq Zv FL AgR Ar8<;>assumption
theorem Akf:LG (DD 281):=by unfold LG;intros;refine lk (g:=281) rfl Tryz.func312 AhX ?_;apply As6 _ MU AoY AgW Aej Acg Apw AcF<;>assumption
theorem AmA:OY (DD 282):=by unfold OY;intros;refine lk (g:=282) rfl Tryz.func313 Aiw ?_;apply AtO _ AiK SI FL<;>assumption
theorem Au9:AfO (DD 252):=by unfold AfO;intros;refine lk (g:=252) rfl Tryz.func280 Ar3 ?_;apply AD7 _ Aka Akf AmA<;>assumption
theorem AlA:OJ (DD 213):=by unfold OJ;intros;refine lk (g:=213) rfl Tryz.func243 Aj7 ?_;apply Au6 _ NY AmF Au9<;>assumption
theorem AoL:Te (DD 142):=by unfold Te;intros;refine lk (g:=142) rfl Tryz.func174 Anv ?_;apply Axj _ FL AuY AlA<;>assumption
theorem AmJ:O8 (DD 259):=by unfold O8;intros;refine lk (g:=259) rfl Tryz.func245 AkM ?_;apply AuH _ Yo<;>assumption
theorem AbX:Hg (DD 220):=by unfold Hg;intros;refine lk (g:=220) rfl Tryz.func175 AaN ?_;apply Ala _ AmJ<;>assumption
theorem Aet:Ip (DD 162):=by unfold Ip;intros;refine lk (g:=162) rfl Tryz.func70 Abw ?_;apply Aml _ AoL AbX Ny Acr X9<;>assumption
theorem Agg:JM (DD 163):=by unfold JM;intros;refine lk (g:=163) rfl Tryz.func71 Afd ?_;apply Ao4 _ Ain<;>assumption
theorem AeE:F9 (DD 221):=by unfold F9;intros;refine lk (g:=221) rfl Tryz.func178 Adt ?_;apply Anb _ J7<;>assumption
theorem Ane:O6 (DD 164):=by unfold O6;intros;refine lk (g:=164) rfl Tryz.func72 AiX ?_;apply AtS _ AeE FL<;>assumption
theorem AoZ:O1 (DD 89):=by unfold O1;intros;refine lk (g:=89) rfl Tryz.func10 AiL ?_;apply AtQ _ AmC AgA Aet Agg Ane<;>assumption
theorem ZP:Kz (DD 123):=by unfold Kz;intros;refine lk (g:=123) rfl Tryz.func105 Alq ?_;apply Avs _<;>assumption
theorem EI:SG (DD 114):=by unfold SG;intros;refine lk (g:=114) rfl Tryz.func110 Alc ?_;apply Axy _<;>assumption
theorem FK:BK (DD 232):=by unfold BK;intros;refine lk (g:=232) rfl Tryz.func207 ZY ?_;apply Alf _ EI<;>assumption
theorem AqP:AoD (DD 389):=by unfold AoD;intros;refine lk (g:=389) rfl Tryz.func214 SB ?_;apply ADo _<;>assumption
theorem J3:R6 (DD 188):=by unfold R6;intros;refine lk (g:=188) rfl Tryz.func118 Qp ?_;apply AuO _ AqP<;>assumption
theorem Ai2:Lu (DD 242):=by unfold Lu;intros;refine lk (g:=242) rfl Tryz.func251 Agd ?_;apply AsY _ J3<;>assumption
theorem NQ:EX (DD 190):=by unfold EX;intros;refine lk (g:=190) rfl Tryz.func184 AbA ?_;apply AlB _ Ai2 FK<;>assumption
theorem Ahg:VJ (DD 268):=by unfold VJ;intros;refine lk (g:=268) rfl Tryz.func211 AbR ?_;apply As2 _ NQ<;>assumption
theorem YV:Ml DD (DD 405):=by unfold Ml;intros;refine lk (g:=405) rfl Tryz.func267 LZ ?_;apply AgP _<;>assumption
theorem MJ:G7 DD (DD 269):=by unfold G7;intros;refine lk (g:=269) rfl Tryz.func210 Kw ?_;apply AaD _ YV<;>assumption
theorem XY:Ja (DD 234):=by unfold Ja;intros;refine lk (g:=234) rfl Tryz.func111 Ahl ?_;apply AsE _ FK Ahg MJ<;>assumption
theorem Abq:QL (DD 266):=by unfold QL;intros;refine lk (g:=266) rfl Tryz.func266 Zm ?_;apply Amf _ EI<;>assumption
theorem Ahu:VO DD (DD 404):=by unfold VO;intros;refine lk (g:=404) rfl Tryz.func284 Pf ?_;apply Arc _<;>assumption
theorem Rn:KF DD (DD 267):=by unfold KF;intros;refine lk (g:=267) rfl Tryz.func253 M6 ?_;apply AkL _ Ahu<;>assumption
theorem JY:Jv (DD 233):=by unfold Jv;intros;refine lk (g:=233) rfl Tryz.func209 Adl ?_;apply Ap9 _ Abq Rn<;>assumption
theorem Zt:MC (DD 235):=by unfold MC;intros;refine lk (g:=235) rfl Tryz.func112 Aiy ?_;apply AtN _ JY<;>assumption
theorem Xy:I6 (DD 236):=by unfold I6;intros;refine lk (g:=236) rfl Tryz.func113 Acj ?_;apply As7 _ EI<;>assumption
theorem UE:EW (DD 279):=by unfold EW;intros;refine lk (g:=279) rfl Tryz.func254 Adm ?_;apply Ama _ EI<;>assumption
theorem Ot:F9 (DD 270):=by unfold F9;intros;refine lk (g:=270) rfl Tryz.func188 AbG ?_;apply AlS _ UE Rn<;>assumption
theorem Afx:RQ (DD 183):=by unfold RQ;intros;refine lk (g:=183) rfl Tryz.func108 Aos ?_;apply ABX _ EI JY<;>assumption
theorem Ab7:QY (DD 271):=by unfold QY;intros;refine lk (g:=271) rfl Tryz.func213 Y7 ?_;apply Anj _ Afx<;>assumption
theorem Aaq:OH DD (DD 406):=by unfold OH;intros;refine lk (g:=406) rfl Tryz.func215 Jk ?_;apply Als _<;>assumption
theorem Nn:H9 DD (DD 272):=by unfold H9;intros;refine lk (g:=272) rfl Tryz.func119 IB ?_;apply AcB _ Aaq<;>assumption
theorem Om:ET (DD 239):=by unfold ET;intros;refine lk (g:=239) rfl Tryz.func116 Acb ?_;apply AlO _ FK Zt Ot Ab7 Nn EI<;>assumption
theorem Akl:Yy (DD 237):=by unfold Yy;intros;refine lk (g:=237) rfl Tryz.func115 AdY ?_;apply At8 _ Om<;>assumption
theorem U6:II DD (DD 393):=by unfold II;intros;refine lk (g:=393) rfl Tryz.func212 GL ?_;apply YZ _<;>assumption
theorem Rs:GK DD (DD 238):=by unfold GK;intros;refine lk (g:=238) rfl Tryz.func114 F6 ?_;apply Vt _ U6<;>assumption
theorem Po:FR (DD 176):=by unfold FR;intros;refine lk (g:=176) rfl Tryz.func117 Afm ?_;apply Aqq _ EI<;>assumption
theorem AmX:Pd (DD 184):=by unfold Pd;intros;refine lk (g:=184) rfl Tryz.func27 Akq ?_;apply Au5 _ ZP XY Zt Xy Akl Rs Po J3 EI<;>assumption
theorem Aha:FU (DD 229):=by unfold FU;intros;refine lk (g:=229) rfl Tryz.func198 Apg ?_;apply ADg _ J3<;>assumption
theorem Agr:FU (DD 175):=by unfold FU;intros;refine lk (g:=175) rfl Tryz.func96 AeF ?_;apply Apx _ Aha<;>assumption
theorem Aio:ZH (DD 196):=by unfold ZH;intros;refine lk (g:=196) rfl Tryz.func185 Amw ?_;apply ABf _ Agr<;>assumption
theorem At9:AAo (DD 197):=AwT (k:=208) rfl (fun p c w=>Tryz.slices_Sort_int_none p c w) (fun b o c zs w h1 h2 h3=>Tryz.slices_Sort_int b o c zs w h1 h2 h3)
theorem AlI:CompactS (DD 198):=Aox (k:=249) rfl (fun p c w=>Tryz.slices_Compact_int_empty p c w) (fun b o c zs w h1 h2 h3=>Tryz.slices_Compact_int b o c zs w h1 h2 h3)
theorem Ak1:LB (DD 131):=by unfold LB;intros;refine lk (g:=131) rfl Tryz.func182 Aeh ?_;apply AqL _ Aio At9 AlI<;>assumption
theorem AmB:O5 (DD 291):=by unfold O5;intros;refine lk (g:=291) rfl Tryz.func283 Ajs ?_;apply Aux _ EI<;>assumption
theorem Ami:OW (DD 263):=by unfold OW;intros;refine lk (g:=263) rfl Tryz.func250 Aj1 ?_;apply AtU _ Po EI AmB<;>assumption
theorem Aku:LJ (DD 245):=by unfold LJ;intros;refine lk (g:=245) rfl Tryz.func183 AgD ?_;apply Arm _ Po EI Ami<;>assumption
theorem AgK:JD (DD 200):=by unfold JD;intros;refine lk (g:=200) rfl Tryz.func78 Aeb ?_;apply Ap2 _ Ak1 Aku<;>assumption
theorem ApP:Aid (DD 117):=by unfold Aid;intros;refine lk (g:=117) rfl Tryz.func92 Al3 ?_;apply ABa _ EI<;>assumption
theorem AlZ:Acx (DD 350):=by unfold Acx;intros;refine lk (g:=350) rfl Tryz.func364 Acu ?_;apply Aro _<;>assumption
theorem JW:LP DD (DD 298):=by unfold LP;intros;refine lk (g:=298) rfl Tryz.func307 Ahc ?_;apply AtG _<;>assumption
theorem AcP:OG (DD 318):=by unfold OG;intros;refine lk (g:=318) rfl Tryz.func320 Ahd ?_;apply AtJ _ AlZ JW<;>assumption
theorem An5:AmP (DD 354):=by unfold AmP;intros;refine lk (g:=354) rfl Tryz.func368 Avw ?_;apply AFS _ EI<;>assumption
theorem AaA:WE (DD 353):=by unfold WE;intros;refine lk (g:=353) rfl Tryz.func369 Asr ?_;apply ADy _ An5<;>assumption
theorem AjS:ZM (DD 322):=by unfold ZM;intros;refine lk (g:=322) rfl Tryz.func325 AlT ?_;apply ADL _ AaA An5<;>assumption
theorem Ahy:JS (DD 319):=by unfold JS;intros;refine lk (g:=319) rfl Tryz.func321 Ae4 ?_;apply Ap6 _ AjS<;>assumption
theorem Aot:Ah6 (DD 351):=by unfold Ah6;intros;refine lk (g:=351) rfl Tryz.func366 Ai5 ?_;apply ABN _<;>assumption
theorem Sc:KP DD (DD 352):=by unfold KP;intros;refine lk (g:=352) rfl Tryz.func365 Jj ?_;apply AjN _<;>assumption
theorem AfG:Qn (DD 321):=by unfold Qn;intros;refine lk (g:=321) rfl Tryz.func323 AoX ?_;apply AAV _ Aot Sc<;>assumption
theorem KS:FV (DD 320):=by unfold FV;intros;refine lk (g:=320) rfl Tryz.func322 AjA ?_;apply Avu _ EI AfG JY<;>assumption
theorem AoT:Aqz (DD 323):=Aq9 (k:=324) rfl (fun b o c w=>Go.Eng.Ins.AHK b o c w) (fun b o c v w h=>Go.Eng.Ins.AHL b o c v w h) (fun b o c v w h=>Go.Eng.Ins.AHI b o c v w h)
theorem Apy:AoR (DD 324):=Ara (k:=326) rfl Go.Eng.Ins.AHM
theorem Agi:Ju (DD 290):=by unfold Ju;intros;refine lk (g:=290) rfl Tryz.func288 AbZ ?_;apply ApF _ AcP Ahy KS AfG AjS AoT Apy<;>assumption
theorem Am4:O9 (DD 261):=by unfold O9;intros;refine lk (g:=261) rfl Tryz.func258 AiQ ?_;apply AuA _ Om Agi<;>assumption
theorem Ht:Eb (DD 292):=by unfold Eb;intros;refine lk (g:=292) rfl Tryz.func304 AiD ?_;apply Avr _ FK KS<;>assumption
theorem ZE:KI (DD 293):=by unfold KI;intros;refine lk (g:=293) rfl Tryz.func316 Aff ?_;apply Arf _ AcP<;>assumption
theorem Ax9:AFq (DD 325):=AC1 (k:=334) rfl (fun b off n c zs w h1 h2 h3 h4=>Tryz.slices_Max_int b off n c zs w h1 h2 h3 h4)
theorem Aqb:Aif (DD 326):=by unfold Aif;intros;refine lk (g:=326) rfl Tryz.func336 AkK ?_;apply ABE _ J3 EI<;>assumption
theorem WW:J6 DD (DD 327):=by unfold J6;intros;refine lk (g:=327) rfl Tryz.func335 Iz ?_;apply Aci _ Sc<;>assumption
theorem ArG:Apc (DD 295):=by unfold Apc;intros;refine lk (g:=295) rfl Tryz.func305 Aqc ?_;apply ADF _ Ax9 Aqb WW<;>assumption
theorem Asw:At5 (DD 296):=Ayd (k:=306) rfl (fun n c w=>Tryz.slices_Clone_int_nil n c w) (fun a c w=>Tryz.slices_Clone_int_zero a c w) (fun b off n c zs w h1 h2 h3=>Tryz.slices_Clone_int b off n c zs w h1 h2 h3)
theorem AjK:Yt (DD 297):=by unfold Yt;intros;refine lk (g:=297) rfl Tryz.func308 AdN ?_;apply AvM _ J3<;>assumption
theorem AmS:OZ (DD 294):=by unfold OZ;intros;refine lk (g:=294) rfl Tryz.func274 Ajh ?_;apply AvO _ Afx Ht ArG Asw AjK JW<;>assumption
theorem M7:FN (DD 274):=by unfold FN;intros;refine lk (g:=274) rfl Tryz.func302 Ago ?_;apply AsP _ Ht ZE AmS<;>assumption
theorem Acz:F4 (DD 357):=by unfold F4;intros;refine lk (g:=357) rfl Tryz.func122 SF ?_;apply AAq _<;>assumption
theorem Ait:U9 (DD 371):=by unfold U9;intros;refine lk (g:=371) rfl Tryz.func409 Aht ?_;apply Avm _ Acz<;>assumption
theorem Af0:WA DD (DD 372):=by unfold WA;intros;refine lk (g:=372) rfl Tryz.func408 Fg ?_;apply Atg _<;>assumption
theorem Api:QT (DD 358):=by unfold QT;intros;refine lk (g:=358) rfl Tryz.func388 AdI ?_;apply AoC _ Ait Af0<;>assumption
theorem AiB:LX (DD 340):=by unfold LX;intros;refine lk (g:=340) rfl Tryz.func354 Aa5 ?_;apply AkN _ Acz Api<;>assumption
theorem SV:FX (DD 314):=by unfold FX;intros;refine lk (g:=314) rfl Tryz.func315 Aak ?_;apply Ajk _ M7 AiB<;>assumption
theorem U4:Gb (DD 273):=by unfold Gb;intros;refine lk (g:=273) rfl Tryz.func303 Acd ?_;apply AmG _<;>assumption
theorem Z6:Gc (DD 240):=by unfold Gc;intros;refine lk (g:=240) rfl Tryz.func270 Y1 ?_;apply Ahi _ FK U4 M7<;>assumption
theorem V3:WC (DD 189):=by unfold WC;intros;refine lk (g:=189) rfl Tryz.func205 Alh ?_;apply AuX _ J3<;>assumption
theorem AdX:G9 (DD 360):=by unfold G9;intros;refine lk (g:=360) rfl Tryz.func390 AcT ?_;apply Amm _ FK U4 M7<;>assumption
theorem AjZ:LA (DD 341):=by unfold LA;intros;refine lk (g:=341) rfl Tryz.func356 Agq ?_;apply ArD _ KS AdX SV<;>assumption
theorem AeG:SS (DD 359):=by unfold SS;intros;refine lk (g:=359) rfl Tryz.func389 AaU ?_;apply Aqs _ J3<;>assumption
theorem AhN:JJ (DD 342):=by unfold JJ;intros;refine lk (g:=342) rfl Tryz.func355 AdE ?_;apply Apo _ Ht V3 AeG JW<;>assumption
theorem Ajt:LD (DD 315):=by unfold LD;intros;refine lk (g:=315) rfl Tryz.func317 Xj ?_;apply Asg _ Z6 V3 AjZ AhN<;>assumption
theorem AiW:LM (DD 287):=by unfold LM;intros;refine lk (g:=287) rfl Tryz.func285 Ahm ?_;apply Asl _ Ht SV ZE Ajt<;>assumption
theorem Akd:YS (DD 374):=by unfold YS;intros;refine lk (g:=374) rfl Tryz.func411 AeD ?_;apply Aum _ J3<;>assumption
theorem Al1:L8 (DD 361):=by unfold L8;intros;refine lk (g:=361) rfl Tryz.func392 Alj ?_;apply Aus _ Akd JW<;>assumption
theorem Ahx:Wh (DD 373):=by unfold Wh;intros;refine lk (g:=373) rfl Tryz.func410 XH ?_;apply Aix _ UE<;>assumption
theorem Adf:GX (DD 362):=by unfold GX;intros;refine lk (g:=362) rfl Tryz.func391 AaZ ?_;apply Ak8 _ Ahx JW<;>assumption
theorem Aqk:SY (DD 343):=by unfold SY;intros;refine lk (g:=343) rfl Tryz.func357 Zp ?_;apply Ayp _ NQ Ht Al1 Adf<;>assumption
theorem Xg:I9 (DD 369):=by unfold I9;intros;refine lk (g:=369) rfl Tryz.func399 Agk ?_;apply AsV _ EI KS<;>assumption
theorem QJ:KV (DD 317):=by unfold KV;intros;refine lk (g:=317) rfl Tryz.func319 AlN ?_;apply Aw8 _<;>assumption
theorem AhM:VH (DD 370):=by unfold VH;intros;refine lk (g:=370) rfl Tryz.func400 AeW ?_;apply AoQ _ QJ Ot<;>assumption
theorem Af7:JV (DD 348):=by unfold JV;intros;refine lk (g:=348) rfl Tryz.func362 AeM ?_;apply Apk _ Ht Xg J3 QJ V3 AhM<;>assumption
theorem Va:Gm (DD 367):=by unfold Gm;intros;refine lk (g:=367) rfl Tryz.func397 Ab0 ?_;apply Anm _ KS<;>assumption
theorem AuK:ABb (DD 419):=Aw3 (k:=413) rfl (fun w=>Go.Eng.Ins.AGW w) (fun n w h1 h2=>Go.Eng.Ins.AG0 n w h1 h2)
theorem Adk:AcG (DD 368):=by unfold AcG;intros;refine lk (g:=368) rfl Tryz.func398 QI ?_;apply ABS _ AuK<;>assumption
theorem AdR:Iq (DD 345):=by unfold Iq;intros;refine lk (g:=345) rfl Tryz.func360 AcD ?_;apply Amz _ Ht Va Adk<;>assumption
theorem Ab3:GV (DD 346):=by unfold GV;intros;refine lk (g:=346) rfl Tryz.func361 Aaw ?_;apply Ajf _ Xg Va<;>assumption
theorem Ajw:YI (DD 375):=by unfold YI;intros;refine lk (g:=375) rfl Tryz.func412 WU ?_;apply AtF _ JY<;>assumption
theorem ZL:KE (DD 364):=by unfold KE;intros;refine lk (g:=364) rfl Tryz.func394 Zf ?_;apply Auz _ Ajw MJ<;>assumption
theorem AhI:JI (DD 365):=by unfold JI;intros;refine lk (g:=365) rfl Tryz.func396 WO ?_;apply Ap8 _ ZL AaA<;>assumption
theorem Aq8:XV (DD 366):=by unfold XV;intros;refine lk (g:=366) rfl Tryz.func395 Aez ?_;apply AAd _ Adk AaA<;>assumption
theorem Ac1:QS (DD 347):=by unfold QS;intros;refine lk (g:=347) rfl Tryz.func359 AhV ?_;apply Ayz _ Xy ZL EI AhI Aq8<;>assumption
theorem Ag4:Wz (DD 349):=by unfold Wz;intros;refine lk (g:=349) rfl Tryz.func363 Aee ?_;apply Aqu _ Ac1<;>assumption
theorem Ash:Aqh (DD 316):=by unfold Aqh;intros;refine lk (g:=316) rfl Tryz.func318 Ans ?_;apply AC4 _ Aqk Af7 AdR Ab3 Ac1 Ag4 QJ<;>assumption
theorem Aln:LG (DD 288):=by unfold LG;intros;refine lk (g:=288) rfl Tryz.func286 Ahn ?_;apply Aq5 _ M7 Ash<;>assumption
theorem Amk:OY (DD 289):=by unfold OY;intros;refine lk (g:=289) rfl Tryz.func287 AkU ?_;apply Au8 _ V3 QJ EI<;>assumption
theorem Avk:AfO (DD 262):=by unfold AfO;intros;refine lk (g:=262) rfl Tryz.func257 AsU ?_;apply AEo _ AiW Aln Amk<;>assumption
theorem Ang:OJ (DD 227):=by unfold OJ;intros;refine lk (g:=227) rfl Tryz.func196 AiY ?_;apply Avg _ Om Am4 Avk<;>assumption
theorem Aqg:Te (DD 173):=by unfold Te;intros;refine lk (g:=173) rfl Tryz.func93 AmV ?_;apply AxZ _ ApP Ang<;>assumption
theorem Amq:O8 (DD 299):=by unfold O8;intros;refine lk (g:=299) rfl Tryz.func121 AjH ?_;apply Ave _<;>assumption
theorem AaB:OI (DD 278):=by unfold OI;intros;refine lk (g:=278) rfl Tryz.func120 XA ?_;apply Akw _ Amq<;>assumption
theorem AbU:Hg (DD 246):=by unfold Hg;intros;refine lk (g:=246) rfl Tryz.func32 Aa1 ?_;apply Ajr _ AaB Nn<;>assumption
theorem Ae8:Ip (DD 201):=by unfold Ip;intros;refine lk (g:=201) rfl Tryz.func79 AcU ?_;apply Anq _ Aqg AbU NQ ZP XY<;>assumption
theorem Agx:JM (DD 202):=by unfold JM;intros;refine lk (g:=202) rfl Tryz.func80 AdW ?_;apply ApB _ Aio<;>assumption
theorem Akg:YG (DD 247):=by unfold YG;intros;refine lk (g:=247) rfl Tryz.func187 AeZ ?_;apply Aul _ Ot EI<;>assumption
theorem WM:JZ DD (DD 403):=by unfold JZ;intros;refine lk (g:=403) rfl Tryz.func252 HY ?_;apply AcM _<;>assumption
theorem TQ:H7 DD (DD 248):=by unfold H7;intros;refine lk (g:=248) rfl Tryz.func186 GQ ?_;apply XU _ WM<;>assumption
theorem Amt:O6 (DD 203):=by unfold O6;intros;refine lk (g:=203) rfl Tryz.func81 Aju ?_;apply Au2 _ Akg TQ<;>assumption
theorem Anl:O1 (DD 133):=by unfold O1;intros;refine lk (g:=133) rfl Tryz.func12 AjU ?_;apply AuG _ AmX AgK Ae8 Agx Amt<;>assumption
theorem LK:QH (DD 16):=by unfold QH;intros;refine lk (g:=16) rfl Tryz.func63 Amb ?_;apply AAx _<;>assumption
theorem ArM:AoI (DD 206):=by unfold AoI;intros;refine lk (g:=206) rfl Tryz.func137 AoO ?_;apply ADO _ LK<;>assumption
theorem ApI:AhY (DD 139):=by unfold AhY;intros;refine lk (g:=139) rfl Tryz.func238 AlK ?_;apply AAB _ ArM<;>assumption
theorem Ag8:Tj (DD 62):=by unfold Tj;intros;refine lk (g:=62) rfl Tryz.func159 Abu ?_;apply Aqj _ LK ApI<;>assumption
theorem Ael:QZ (DD 17):=by unfold QZ;intros;refine lk (g:=17) rfl Tryz.func64 AaH ?_;apply Al9 _ Ag8<;>assumption
theorem Ai4:V8 (DD 18):=by unfold V8;intros;refine lk (g:=18) rfl Tryz.func65 AeL ?_;apply Arz _ LK<;>assumption
theorem ApH:Aig (DD 140):=by unfold Aig;intros;refine lk (g:=140) rfl Tryz.func239 Al4 ?_;apply AAC _ LK<;>assumption
theorem ZC:UW (DD 63):=by unfold UW;intros;refine lk (g:=63) rfl Tryz.func160 AgC ?_;apply AuW _ ApH LK<;>assumption
theorem Ak7:V9 (DD 19):=by unfold V9;intros;refine lk (g:=19) rfl Tryz.func66 AdM ?_;apply Arx _ ZC<;>assumption
theorem AmI:YQ (DD 64):=by unfold YQ;intros;refine lk (g:=64) rfl Tryz.func161 Agt ?_;apply Aup _ ZC<;>assumption
theorem Ale:Vr (DD 20):=by unfold Vr;intros;refine lk (g:=20) rfl Tryz.func67 Ad2 ?_;apply ArI _ AmI<;>assumption
theorem ArP:AbL (DD 7):=by unfold AbL;intros;refine lk (g:=7) rfl Tryz.func9 Akb ?_;apply Ayc _ LK Ael Ai4 Ak7 Ale<;>assumption
theorem LU:QX (DD 31):=by unfold QX;intros;refine lk (g:=31) rfl Tryz.func73 Am5 ?_;apply AAU _<;>assumption
theorem AqS:ApL (DD 226):=by unfold ApL;intros;refine lk (g:=226) rfl Tryz.func146 Apt ?_;apply ADH _ LU<;>assumption
theorem Apz:Ah4 (DD 170):=by unfold Ah4;intros;refine lk (g:=170) rfl Tryz.func247 Al7 ?_;apply AAh _ AqS<;>assumption
theorem AhH:Tk (DD 98):=by unfold Tk;intros;refine lk (g:=98) rfl Tryz.func179 Acs ?_;apply ApN _ LU Apz<;>assumption
theorem Aeg:QG (DD 32):=by unfold QG;intros;refine lk (g:=32) rfl Tryz.func74 ZV ?_;apply Ame _ AhH<;>assumption
theorem Aj6:Vs (DD 33):=by unfold Vs;intros;refine lk (g:=33) rfl Tryz.func75 AdP ?_;apply AqQ _ LU<;>assumption
theorem Ao9:Ah1 (DD 171):=by unfold Ah1;intros;refine lk (g:=171) rfl Tryz.func248 AlY ?_;apply AB0 _ LU<;>assumption
theorem ZK:Vf (DD 99):=by unfold Vf;intros;refine lk (g:=99) rfl Tryz.func180 AgF ?_;apply Avb _ Ao9 LU<;>assumption
theorem AjB:VW (DD 34):=by unfold VW;intros;refine lk (g:=34) rfl Tryz.func76 Afi ?_;apply ArK _ ZK<;>assumption
theorem Akr:Yx (DD 100):=by unfold Yx;intros;refine lk (g:=100) rfl Tryz.func181 Af9 ?_;apply At0 _ ZK<;>assumption
theorem Ai1:Wp (DD 35):=by unfold Wp;intros;refine lk (g:=35) rfl Tryz.func77 Aew ?_;apply ArO _ Akr<;>assumption
theorem ArE:AbH (DD 8):=by unfold AbH;intros;refine lk (g:=8) rfl Tryz.func11 Ak2 ?_;apply Ayq _ LU Aeg Aj6 AjB Ai1<;>assumption
theorem LV:F4 (DD 47):=by unfold F4;intros;refine lk (g:=47) rfl Tryz.func82 Ant ?_;apply AzM _<;>assumption
theorem ArB:AoH (DD 249):=by unfold AoH;intros;refine lk (g:=249) rfl Tryz.func147 Apq ?_;apply ADb _ LV<;>assumption
theorem ApT:AhZ (DD 204):=by unfold AhZ;intros;refine lk (g:=204) rfl Tryz.func255 AlR ?_;apply AA3 _ ArB<;>assumption
theorem Ad7:SQ (DD 134):=by unfold SQ;intros;refine lk (g:=134) rfl Tryz.func189 Adv ?_;apply App _ LV ApT<;>assumption
theorem Afc:QM (DD 48):=by unfold QM;intros;refine lk (g:=48) rfl Tryz.func83 Aai ?_;apply Ani _ Ad7<;>assumption
theorem AjT:Vl (DD 49):=by unfold Vl;intros;refine lk (g:=49) rfl Tryz.func84 AeP ?_;apply Aq0 _ LV<;>assumption
theorem Ao0:Aih (DD 205):=by unfold Aih;intros;refine lk (g:=205) rfl Tryz.func256 AmK ?_;apply ABl _ LV<;>assumption
theorem Xn:Ve (DD 135):=by unfold Ve;intros;refine lk (g:=135) rfl Tryz.func190 AhS ?_;apply Avp _ Ao0 LV<;>assumption
theorem AjF:VX (DD 50):=by unfold VX;intros;refine lk (g:=50) rfl Tryz.func85 AdF ?_;apply Arr _ Xn<;>assumption
theorem AkY:YP (DD 136):=by unfold YP;intros;refine lk (g:=136) rfl Tryz.func191 AhB ?_;apply Avv _ Xn<;>assumption
theorem Ajq:VF (DD 51):=by unfold VF;intros;refine lk (g:=51) rfl Tryz.func86 Ad5 ?_;apply ArX _ AkY<;>assumption
theorem AoV:AbK (DD 11):=by unfold AbK;intros;refine lk (g:=11) rfl Tryz.func13 AkS ?_;apply AxO _ LV Afc AjT AjF Ajq<;>assumption
theorem Ym:P7 (DD 520):=by unfold P7;intros;refine lk (g:=520) rfl Tryz.func3 WX ?_;apply Adz _ AoZ Anl ArP ArE AoV<;>assumption
theorem den (av:List V) (h:Awn [Ah8] av):DD 520 av [] (B true) []:=by
 obtain⟨v0,r0,h0,hr0,rfl⟩:=h
 obtain⟨x0,rfl,l0,w0⟩:=ABV h0
 have z:r0=[]:=hr0
 subst z
 apply Ym<;>assumption
end Go.Eng.T
