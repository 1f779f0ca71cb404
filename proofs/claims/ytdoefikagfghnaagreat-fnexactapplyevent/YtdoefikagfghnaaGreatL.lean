/- Own work: part 49 of the proof of FnExactApplyEvent. -/
import Derived.Test.YtdoefikagfghnaaGreatP48
import Derived.Test.YtdoefikagfghnaaGreatProg
import Derived.KernelRfl
set_option linter.unusedSimpArgs false
set_option linter.unusedVariables false
namespace Go.Eng.T
open Go.Proofs
set_option maxRecDepth 100000
def AFV:List (Option Nat):=[none,none,none,none,none,none,none,some 9,some 11,none,none,some 13,some 55,some 57,none,none,some 63,some 64,some 65,some 66,some 67,none,some 145,none,none,none,none,some 52,none,none,none,some 73,some 74,some 75,some 76,some 77,none,none,some 91,none,none,some 39,none,none,none,none,none,some 82,some 83,some 84,some 85,some 86,some 148,some 149,some 150,some 151,some 152,some 154,some 155,some 156,some 157,some 158,some 159,some 160,some 161,some 235,some 171,some 200,none,none,none,some 170,some 97,none,some 138,some 139,some 140,some 141,some 142,some 143,some 144,none,some 228,none,none,none,none,none,none,none,none,none,none,none,none,some 169,some 309,none,some 179,some 180,some 181,some 194,some 195,some 95,none,none,some 16,some 29,some 18,some 20,some 22,some 24,some 31,some 26,some 110,none,none,some 92,none,none,none,none,none,some 105,some 262,none,none,some 98,none,none,none,none,none,none,some 189,some 190,some 191,some 236,some 237,some 238,some 239,none,some 174,some 199,some 201,some 166,some 227,some 229,some 230,some 231,some 232,some 233,some 234,none,none,some 260,some 275,none,none,some 219,none,none,none,none,none,none,some 167,some 276,some 176,none,some 247,some 248,some 109,some 93,some 94,some 96,some 117,some 100,some 99,some 101,some 102,some 104,some 106,some 108,none,none,none,none,some 118,some 205,some 184,none,none,some 202,some 203,none,none,some 208,none,none,none,none,none,none,some 255,some 256,some 137,some 162,some 163,none,some 165,none,some 244,some 243,some 259,some 241,some 277,some 278,none,none,none,none,some 375,some 348,some 246,none,some 146,some 196,some 197,some 198,some 204,some 206,some 207,some 209,none,some 112,some 113,none,none,some 116,some 270,none,some 251,none,none,none,none,none,none,some 147,some 240,some 281,some 280,some 282,some 242,some 310,some 407,none,some 378,none,some 406,some 258,some 257,some 250,some 261,some 263,some 266,some 253,none,some 210,some 188,some 213,some 119,some 303,some 302,none,none,none,none,some 254,some 311,some 312,some 313,some 314,some 279,some 337,some 341,some 285,some 286,some 287,some 288,some 283,some 304,some 316,some 274,some 305,some 306,some 308,some 307,none,some 338,some 339,some 340,some 342,some 343,some 345,some 346,some 344,some 347,some 349,some 350,some 351,some 352,some 353,some 315,some 317,some 318,some 319,some 320,some 321,some 322,some 323,some 325,some 324,some 326,some 334,some 336,some 335,some 374,some 377,some 376,some 380,some 379,some 381,some 382,some 384,some 383,some 385,some 387,some 386,some 354,some 356,some 355,some 357,none,some 360,some 361,some 359,some 362,some 363,some 364,some 366,some 365,some 369,some 368,some 404,some 405,some 122,some 388,some 389,some 390,some 392,some 391,none,some 394,some 396,some 395,some 397,some 398,some 399,some 400,some 409,some 408,some 410,some 411,some 412,none,none,none,none,none,none,none,none,none,none,some 51,some 53,some 54,some 214,none,none,none,none,none,none,none,none,none,none,none,none,none,none,some 284,some 267,some 215,none,none,none,none,none,none,none,none,none,none,none,none,some 413,none,none,none,none,none,none,none,none,none,none,none,none,none,none,none,none,none,none,none,none,none,some 153,none,none,none,none,none,none,none,none,none,none,none,none,none,none,none,none,none,none,none,none,none,none,none,none,none,none,none,none,none,none,none,none,none,none,none,none,none,none,none,none,none,none,none,none,none,none,none,none,none,none,none,none,none,none,none,none,none,none,none,none,none,none,none,none,none,none,none,none,none,none,none,none,none,none,none,none,none,none,none,none,none,none,none,none,none,none,none,none,none,none,none,none,none,none,none,none,none,none,none,none,some 7,some 56,none,none]
def Af:Nat→Option FuncId:=fun g=>AFV.getD g none
theorem AuF:Tryz.prog.follows .mixedOrders=true:=by kernel_rfl
theorem hFl:AFV.all (fun o=>match o with | some f=>okF Tryz.prog f | none=>true)=true:=by kernel_rfl
theorem hF:∀g f,Af g=some f→okF Tryz.prog f=true:=by
 intro g f h
 have:=List.all_eq_true.1 hFl (some f) (by
  unfold Af at h
  rw[List.getD_eq_getElem?_getD]at h
  cases hg:AFV[g]? with
  | none=>simp[hg]at h
  | some o=>simp[hg]at h;subst h;exact List.mem_of_getElem? hg)
 exact this
abbrev G0:Gl:=⟨fun _=>False,fun _=>none⟩
abbrev DD:Dn:=Den Tryz.prog Af G0
theorem lk {g:Nat} {f:FuncId} {fn:Func} {st:List Tmp} {sf:Bh} (hg:Af g=some f) (hfn:Tryz.prog.funcs[f]? =some fn) (hm:Bl Tryz.prog Af st sf fn=true) {a:List V} {gi:List O} {r:V} {o:List O}
 (h:Body DD sf a gi r o):DD g a gi r o:=
 AAZ AuF (fun _ _ _ _ _ h=>h) hF (fun id hid=>by rw[hg]at hid;cases hid;exact hfn) hm h
theorem Ade:Bl Tryz.prog Af AbX NF Tryz.f235=true:=by kernel_rfl
theorem Aiq:Bl Tryz.prog Af Af4 Tw Tryz.f171=true:=by kernel_rfl
theorem AMy:Bl Tryz.prog Af AMo ALJ Tryz.f200=true:=by kernel_rfl
theorem AMY:Bl Tryz.prog Af ZT ALW Tryz.f145=true:=by kernel_rfl
theorem AsN:Bl Tryz.prog Af Aqw Abd Tryz.f170=true:=by kernel_rfl
theorem Aue:Bl Tryz.prog Af Arh Ad9 Tryz.f241=true:=by kernel_rfl
theorem AuJ:Bl Tryz.prog Af ArY AeB Tryz.f282=true:=by kernel_rfl
theorem AjW:Bl Tryz.prog Af AhK Un Tryz.f244=true:=by kernel_rfl
theorem AcZ:Bl Tryz.prog Af Aaz OC Tryz.f240=true:=by kernel_rfl
theorem Anh:Bl Tryz.prog Af Ajl VG Tryz.f278=true:=by kernel_rfl
theorem ApR:Bl Tryz.prog Af Amu Xo Tryz.f234=true:=by kernel_rfl
theorem Z9:Bl Tryz.prog Af Za MW Tryz.f163=true:=by kernel_rfl
theorem AbM:Bl Tryz.prog Af AaW OA Tryz.f162=true:=by kernel_rfl
theorem AuV:Bl Tryz.prog Af ArA Aey Tryz.f386=true:=by kernel_rfl
theorem Ar4:Bl Tryz.prog Af Ao2 AaI Tryz.f387=true:=by kernel_rfl
theorem Amy:Bl Tryz.prog Af Alm Wv Tryz.f353=true:=by kernel_rfl
theorem Afb:Bl Tryz.prog Af Ace PD Tryz.f350=true:=by kernel_rfl
theorem Am1:Bl Tryz.prog Af Ai6 Wy Tryz.f347=true:=by kernel_rfl
theorem ApW:Bl Tryz.prog Af AmL Xv Tryz.f167=true:=by kernel_rfl
theorem Aks:Bl Tryz.prog Af AgE TD Tryz.f380=true:=by kernel_rfl
theorem Alk:Bl Tryz.prog Af Agy Ud Tryz.f351=true:=by kernel_rfl
theorem ApO:Bl Tryz.prog Af Amc Xa Tryz.f349=true:=by kernel_rfl
theorem Ajm:Bl Tryz.prog Af AhD TW Tryz.f352=true:=by kernel_rfl
theorem AdQ:Bl Tryz.prog Af Abi PW Tryz.f314=true:=by kernel_rfl
theorem AkF:Bl Tryz.prog Af AhL Uu Tryz.f281=true:=by kernel_rfl
theorem AiR:Bl Tryz.prog Af AfV TY Tryz.f337=true:=by kernel_rfl
theorem AhE:Bl Tryz.prog Af AeJ Rh Tryz.f339=true:=by kernel_rfl
theorem AkC:Bl Tryz.prog Af Aho Tt Tryz.f378=true:=by kernel_rfl
theorem Ag7:Bl Tryz.prog Af Aep Sr Tryz.f341=true:=by kernel_rfl
theorem Afe:Bl Tryz.prog Af AcY PO Tryz.f404=true:=by kernel_rfl
theorem AeV:Bl Tryz.prog Af Ac6 PY Tryz.f405=true:=by kernel_rfl
theorem Aaj:Bl Tryz.prog Af Ze Mc Tryz.f374=true:=by kernel_rfl
theorem Aat:Bl Tryz.prog Af Zg MN Tryz.f338=true:=by kernel_rfl
theorem AcQ:Bl Tryz.prog Af AaX NN Tryz.f407=true:=by kernel_rfl
theorem Abm:Bl Tryz.prog Af Aa7 NS Tryz.f406=true:=by kernel_rfl
theorem YX:Bl Tryz.prog Af Xc K6 Tryz.f375=true:=by kernel_rfl
theorem AjG:Bl Tryz.prog Af Ag9 Uo Tryz.f348=true:=by kernel_rfl
theorem AgG:Bl Tryz.prog Af AdC Sl Tryz.f377=true:=by kernel_rfl
theorem Ad1:Bl Tryz.prog Af Ac8 Qd Tryz.f376=true:=by kernel_rfl
theorem Xz:Bl Tryz.prog Af WS Kk Tryz.f340=true:=by kernel_rfl
theorem AgN:Bl Tryz.prog Af AdV Rl Tryz.f311=true:=by kernel_rfl
theorem AgS:Bl Tryz.prog Af Aen RB Tryz.f246=true:=by kernel_rfl
theorem Ac4:Bl Tryz.prog Af AaV NI Tryz.f176=true:=by kernel_rfl
theorem Aay:Bl Tryz.prog Af Zn Mh Tryz.f379=true:=by kernel_rfl
theorem Zh:Bl Tryz.prog Af Yl Ls Tryz.f342=true:=by kernel_rfl
theorem Aga:Bl Tryz.prog Af Afp RA Tryz.f381=true:=by kernel_rfl
theorem Ae3:Bl Tryz.prog Af Abl Pn Tryz.f343=true:=by kernel_rfl
theorem Ada:Bl Tryz.prog Af Aa3 Oj Tryz.f385=true:=by kernel_rfl
theorem Aco:Bl Tryz.prog Af Aa8 Nw Tryz.f345=true:=by kernel_rfl
theorem Aam:Bl Tryz.prog Af Y9 ML Tryz.f346=true:=by kernel_rfl
theorem AbD:Bl Tryz.prog Af Aaa NU Tryz.f165=true:=by kernel_rfl
theorem Zb:Bl Tryz.prog Af Xe K5 Tryz.f382=true:=by kernel_rfl
theorem WR:Bl Tryz.prog Af Wx JU Tryz.f384=true:=by kernel_rfl
theorem AdA:Bl Tryz.prog Af Abr PX Tryz.f383=true:=by kernel_rfl
theorem Ahh:Bl Tryz.prog Af Aek Sd Tryz.f344=true:=by kernel_rfl
theorem AhX:Bl Tryz.prog Af AdB RL Tryz.f312=true:=by kernel_rfl
theorem Aiw:Bl Tryz.prog Af AhJ Tn Tryz.f313=true:=by kernel_rfl
theorem Ar3:Bl Tryz.prog Af Ap1 AaP Tryz.f280=true:=by kernel_rfl
theorem Aj7:Bl Tryz.prog Af Agf TP Tryz.f243=true:=by kernel_rfl
theorem Anv:Bl Tryz.prog Af Ajv Vk Tryz.f174=true:=by kernel_rfl
theorem AdU:Bl Tryz.prog Af Abz Pt Tryz.f166=true:=by kernel_rfl
theorem AjV:Bl Tryz.prog Af Ahj Uv Tryz.f279=true:=by kernel_rfl
theorem AiN:Bl Tryz.prog Af Ag6 TS Tryz.f242=true:=by kernel_rfl
theorem ANG:Bl Tryz.prog Af ANr AMb Tryz.f259=true:=by kernel_rfl
theorem AM6:Bl Tryz.prog Af YG ALU Tryz.f199=true:=by kernel_rfl
theorem AhT:Bl Tryz.prog Af Aes RD Tryz.f260=true:=by kernel_rfl
theorem Ae5:Bl Tryz.prog Af AbB PK Tryz.f201=true:=by kernel_rfl
theorem AMN:Bl Tryz.prog Af AME LB Tryz.f97=true:=by kernel_rfl
theorem AoB:Bl Tryz.prog Af Amh Yb Tryz.f219=true:=by kernel_rfl
theorem AMk:Bl Tryz.prog Af AMc H7 Tryz.f227=true:=by kernel_rfl
theorem AMC:Bl Tryz.prog Af AMq ALD Tryz.f138=true:=by kernel_rfl
theorem AMS:Bl Tryz.prog Af AMB Lv Tryz.f275=true:=by kernel_rfl
theorem AMA:Bl Tryz.prog Af AMu ALI Tryz.f228=true:=by kernel_rfl
theorem WX:Bl Tryz.prog Af AMp ALK Tryz.f229=true:=by kernel_rfl
theorem AMw:Bl Tryz.prog Af AMm ALF Tryz.f230=true:=by kernel_rfl
theorem AMn:Bl Tryz.prog Af AMd ALx Tryz.f276=true:=by kernel_rfl
theorem Ra:Bl Tryz.prog Af AL7 ALo Tryz.f231=true:=by kernel_rfl
theorem VJ:Bl Tryz.prog Af AMr ALM Tryz.f139=true:=by kernel_rfl
theorem AkD:Bl Tryz.prog Af AgM TU Tryz.f169=true:=by kernel_rfl
theorem AMQ:Bl Tryz.prog Af AMz ALT Tryz.f309=true:=by kernel_rfl
theorem AeE:Bl Tryz.prog Af ANh AL4 Tryz.f310=true:=by kernel_rfl
theorem WM:Bl Tryz.prog Af TQ JZ Tryz.f277=true:=by kernel_rfl
theorem P8:Bl Tryz.prog Af AL3 ALl Tryz.f232=true:=by kernel_rfl
theorem Vz:Bl Tryz.prog Af AMf HY Tryz.f140=true:=by kernel_rfl
theorem Tp:Bl Tryz.prog Af AMg ALz Tryz.f233=true:=by kernel_rfl
theorem AMl:Bl Tryz.prog Af AMi Hy Tryz.f141=true:=by kernel_rfl
theorem AaC:Bl Tryz.prog Af AMM MJ Tryz.f142=true:=by kernel_rfl
theorem VN:Bl Tryz.prog Af Vt ALH Tryz.f143=true:=by kernel_rfl
theorem Zl:Bl Tryz.prog Af AMx ALS Tryz.f144=true:=by kernel_rfl
theorem AMt:Bl Tryz.prog Af AMe ALA Tryz.f52=true:=by kernel_rfl
theorem AIu:Bl Tryz.prog Af AHv AhO Tryz.f109=true:=by kernel_rfl
theorem AqE:Bl Tryz.prog Af Aml VP Tryz.f195=true:=by kernel_rfl
theorem Ark:Bl Tryz.prog Af Ao4 Yy Tryz.f194=true:=by kernel_rfl
theorem AEN:Bl Tryz.prog Af AtQ Aa1 Tryz.f95=true:=by kernel_rfl
theorem AHZ:Bl Tryz.prog Af AvL Aeo Tryz.f91=true:=by kernel_rfl
theorem Alc:Bl Tryz.prog Af Agl TT Tryz.f110=true:=by kernel_rfl
theorem Al3:Bl Tryz.prog Af AjM VD Tryz.f92=true:=by kernel_rfl
theorem ZY:Bl Tryz.prog Af Zo Mx Tryz.f207=true:=by kernel_rfl
theorem Zm:Bl Tryz.prog Af XO Lh Tryz.f266=true:=by kernel_rfl
theorem Pf:Bl Tryz.prog Af Nt FQ Tryz.f284=true:=by kernel_rfl
theorem M6:Bl Tryz.prog Af LY E8 Tryz.f253=true:=by kernel_rfl
theorem Adl:Bl Tryz.prog Af AaQ Ov Tryz.f209=true:=by kernel_rfl
theorem Aiy:Bl Tryz.prog Af AgQ Ux Tryz.f112=true:=by kernel_rfl
theorem Adm:Bl Tryz.prog Af AaO NG Tryz.f254=true:=by kernel_rfl
theorem AbG:Bl Tryz.prog Af Aac ND Tryz.f188=true:=by kernel_rfl
theorem Aos:Bl Tryz.prog Af AmN Ya Tryz.f108=true:=by kernel_rfl
theorem Y7:Bl Tryz.prog Af XT Lj Tryz.f213=true:=by kernel_rfl
theorem Jk:Bl Tryz.prog Af Jd Dv Tryz.f215=true:=by kernel_rfl
theorem IB:Bl Tryz.prog Af Im C8 Tryz.f119=true:=by kernel_rfl
theorem Acb:Bl Tryz.prog Af Aad Oi Tryz.f116=true:=by kernel_rfl
theorem Acu:Bl Tryz.prog Af Aao Nq Tryz.f364=true:=by kernel_rfl
theorem Ahc:Bl Tryz.prog Af AeS SA Tryz.f307=true:=by kernel_rfl
theorem Ahd:Bl Tryz.prog Af AeR Sy Tryz.f320=true:=by kernel_rfl
theorem Avw:Bl Tryz.prog Af ArR Afj Tryz.f368=true:=by kernel_rfl
theorem Asr:Bl Tryz.prog Af Ao8 AaE Tryz.f369=true:=by kernel_rfl
theorem AlT:Bl Tryz.prog Af Ak6 VS Tryz.f325=true:=by kernel_rfl
theorem Ae4:Bl Tryz.prog Af AbE P5 Tryz.f321=true:=by kernel_rfl
theorem Ai5:Bl Tryz.prog Af AgJ TH Tryz.f366=true:=by kernel_rfl
theorem Jj:Bl Tryz.prog Af Jb Dy Tryz.f365=true:=by kernel_rfl
theorem AoX:Bl Tryz.prog Af AlU XQ Tryz.f323=true:=by kernel_rfl
theorem AjA:Bl Tryz.prog Af Agw Uh Tryz.f322=true:=by kernel_rfl
theorem AbZ:Bl Tryz.prog Af Aab NV Tryz.f288=true:=by kernel_rfl
theorem AiQ:Bl Tryz.prog Af AgB TL Tryz.f258=true:=by kernel_rfl
theorem AiD:Bl Tryz.prog Af Agm Ui Tryz.f304=true:=by kernel_rfl
theorem Aff:Bl Tryz.prog Af Adj Qz Tryz.f316=true:=by kernel_rfl
theorem SB:Bl Tryz.prog Af RZ Ho Tryz.f214=true:=by kernel_rfl
theorem Qp:Bl Tryz.prog Af OO F3 Tryz.f118=true:=by kernel_rfl
theorem AkK:Bl Tryz.prog Af Agj Us Tryz.f336=true:=by kernel_rfl
theorem Iz:Bl Tryz.prog Af Io CZ Tryz.f335=true:=by kernel_rfl
theorem Aqc:Bl Tryz.prog Af Am9 XE Tryz.f305=true:=by kernel_rfl
theorem AdN:Bl Tryz.prog Af AbQ Qf Tryz.f308=true:=by kernel_rfl
theorem Ajh:Bl Tryz.prog Af Ahq Ul Tryz.f274=true:=by kernel_rfl
theorem Ago:Bl Tryz.prog Af AdL RN Tryz.f302=true:=by kernel_rfl
theorem SF:Bl Tryz.prog Af RF Hu Tryz.f122=true:=by kernel_rfl
theorem Aht:Bl Tryz.prog Af Aec Ry Tryz.f409=true:=by kernel_rfl
theorem Fg:Bl Tryz.prog Af AK6 Bq Tryz.f408=true:=by kernel_rfl
theorem AdI:Bl Tryz.prog Af Ac5 PN Tryz.f388=true:=by kernel_rfl
theorem Aa5:Bl Tryz.prog Af YW M4 Tryz.f354=true:=by kernel_rfl
theorem Aak:Bl Tryz.prog Af Y4 M8 Tryz.f315=true:=by kernel_rfl
theorem Acd:Bl Tryz.prog Af Aax NW Tryz.f303=true:=by kernel_rfl
theorem Y1:Bl Tryz.prog Af Yp Lb Tryz.f270=true:=by kernel_rfl
theorem Alh:Bl Tryz.prog Af AfY Ut Tryz.f205=true:=by kernel_rfl
theorem AcT:Bl Tryz.prog Af ZW ALu Tryz.f390=true:=by kernel_rfl
theorem Agq:Bl Tryz.prog Af AMD Sg Tryz.f356=true:=by kernel_rfl
theorem AaU:Bl Tryz.prog Af Zi Mv Tryz.f389=true:=by kernel_rfl
theorem AdE:Bl Tryz.prog Af Ado Qj Tryz.f355=true:=by kernel_rfl
theorem Xj:Bl Tryz.prog Af WV Kj Tryz.f317=true:=by kernel_rfl
theorem Ahm:Bl Tryz.prog Af Afh Ri Tryz.f285=true:=by kernel_rfl
theorem Agd:Bl Tryz.prog Af AeI R5 Tryz.f251=true:=by kernel_rfl
theorem AbA:Bl Tryz.prog Af Abc N7 Tryz.f184=true:=by kernel_rfl
theorem AeD:Bl Tryz.prog Af Ab5 PG Tryz.f411=true:=by kernel_rfl
theorem Alj:Bl Tryz.prog Af Ag0 Uw Tryz.f392=true:=by kernel_rfl
theorem XH:Bl Tryz.prog Af WN Kq Tryz.f410=true:=by kernel_rfl
theorem AMh:Bl Tryz.prog Af Zj MO Tryz.f391=true:=by kernel_rfl
theorem Zp:Bl Tryz.prog Af Xp KZ Tryz.f357=true:=by kernel_rfl
theorem AMK:Bl Tryz.prog Af AdK R8 Tryz.f399=true:=by kernel_rfl
theorem AlN:Bl Tryz.prog Af AkR VK Tryz.f319=true:=by kernel_rfl
theorem AeW:Bl Tryz.prog Af Ads Pv Tryz.f400=true:=by kernel_rfl
theorem AeM:Bl Tryz.prog Af Adh Pm Tryz.f362=true:=by kernel_rfl
theorem Ab0:Bl Tryz.prog Af Z0 NP Tryz.f397=true:=by kernel_rfl
theorem QI:Bl Tryz.prog Af Qm GA Tryz.f398=true:=by kernel_rfl
theorem AcD:Bl Tryz.prog Af Aba Oz Tryz.f360=true:=by kernel_rfl
theorem Aaw:Bl Tryz.prog Af Y2 Na Tryz.f361=true:=by kernel_rfl
theorem Acj:Bl Tryz.prog Af Aa6 ALy Tryz.f113=true:=by kernel_rfl
theorem WU:Bl Tryz.prog Af WB Jq Tryz.f412=true:=by kernel_rfl
theorem ALr:Bl Tryz.prog Af Le EK Tryz.f267=true:=by kernel_rfl
theorem Kw:Bl Tryz.prog Af J9 AK2 Tryz.f210=true:=by kernel_rfl
theorem Zf:Bl Tryz.prog Af X3 ALn Tryz.f394=true:=by kernel_rfl
theorem WO:Bl Tryz.prog Af Vy JH Tryz.f396=true:=by kernel_rfl
theorem Aez:Bl Tryz.prog Af Abs Pz Tryz.f395=true:=by kernel_rfl
theorem AhV:Bl Tryz.prog Af Aev Rk Tryz.f359=true:=by kernel_rfl
theorem Aee:Bl Tryz.prog Af Ab1 Qc Tryz.f363=true:=by kernel_rfl
theorem Ans:Bl Tryz.prog Af Akt Wd Tryz.f318=true:=by kernel_rfl
theorem Ahn:Bl Tryz.prog Af Aex Si Tryz.f286=true:=by kernel_rfl
theorem AkU:Bl Tryz.prog Af Agz T9 Tryz.f287=true:=by kernel_rfl
theorem AsU:Bl Tryz.prog Af ApK Aav Tryz.f257=true:=by kernel_rfl
theorem AiY:Bl Tryz.prog Af AhF TB Tryz.f196=true:=by kernel_rfl
theorem AmV:Bl Tryz.prog Af Ako Vu Tryz.f93=true:=by kernel_rfl
theorem Afm:Bl Tryz.prog Af Ac2 PU Tryz.f117=true:=by kernel_rfl
theorem Ajs:Bl Tryz.prog Af AgV Uq Tryz.f283=true:=by kernel_rfl
theorem Aj1:Bl Tryz.prog Af Ag3 TI Tryz.f250=true:=by kernel_rfl
theorem AJR:Bl Tryz.prog Af AJE AuG Tryz.f197=true:=by kernel_rfl
theorem AIN:Bl Tryz.prog Af AIf AjH Tryz.f94=true:=by kernel_rfl
theorem Apg:Bl Tryz.prog Af Aly WZ Tryz.f198=true:=by kernel_rfl
theorem AeF:Bl Tryz.prog Af Abj QB Tryz.f96=true:=by kernel_rfl
theorem AIB:Bl Tryz.prog Af AHO Agx Tryz.f16=true:=by kernel_rfl
theorem AoA:Bl Tryz.prog Af Amq Ue Tryz.f204=true:=by kernel_rfl
theorem Au2:Bl Tryz.prog Af AqO Yh Tryz.f100=true:=by kernel_rfl
theorem AHW:Bl Tryz.prog Af AD4 AbU Tryz.f29=true:=by kernel_rfl
theorem AIs:Bl Tryz.prog Af AHS Ag1 Tryz.f202=true:=by kernel_rfl
theorem AIa:Bl Tryz.prog Af AHT Ain Tryz.f203=true:=by kernel_rfl
theorem AGz:Bl Tryz.prog Af ABT AcU Tryz.f98=true:=by kernel_rfl
theorem AGI:Bl Tryz.prog Af ABf AbN Tryz.f99=true:=by kernel_rfl
theorem AHR:Bl Tryz.prog Af AFc Aeb Tryz.f101=true:=by kernel_rfl
theorem AnZ:Bl Tryz.prog Af AmJ Um Tryz.f102=true:=by kernel_rfl
theorem AHX:Bl Tryz.prog Af Awf Adq Tryz.f18=true:=by kernel_rfl
theorem Alq:Bl Tryz.prog Af AhQ TJ Tryz.f105=true:=by kernel_rfl
theorem AIc:Bl Tryz.prog Af AH3 AgZ Tryz.f262=true:=by kernel_rfl
theorem AJC:Bl Tryz.prog Af AJb Amt Tryz.f263=true:=by kernel_rfl
theorem AHV:Bl Tryz.prog Af ACN Ach Tryz.f206=true:=by kernel_rfl
theorem AlI:Bl Tryz.prog Af Alu Tx Tryz.f104=true:=by kernel_rfl
theorem AyV:Bl Tryz.prog Af Au5 Abe Tryz.f20=true:=by kernel_rfl
theorem Avf:Bl Tryz.prog Af Ao3 ZH Tryz.f106=true:=by kernel_rfl
theorem ABr:Bl Tryz.prog Af AtS AaK Tryz.f22=true:=by kernel_rfl
theorem AIR:Bl Tryz.prog Af AIn AjD Tryz.f24=true:=by kernel_rfl
theorem AGN:Bl Tryz.prog Af AAR AbY Tryz.f31=true:=by kernel_rfl
theorem AIx:Bl Tryz.prog Af AGu Ahb Tryz.f26=true:=by kernel_rfl
theorem AF4:Bl Tryz.prog Af Au4 Abw Tryz.f39=true:=by kernel_rfl
theorem Amb:Bl Tryz.prog Af AiC Vp Tryz.f63=true:=by kernel_rfl
theorem AoO:Bl Tryz.prog Af AlG Xq Tryz.f137=true:=by kernel_rfl
theorem AlK:Bl Tryz.prog Af Akc VE Tryz.f238=true:=by kernel_rfl
theorem Abu:Bl Tryz.prog Af Aa2 Nu Tryz.f159=true:=by kernel_rfl
theorem AaH:Bl Tryz.prog Af Y5 M5 Tryz.f64=true:=by kernel_rfl
theorem AeL:Bl Tryz.prog Af Adr Ql Tryz.f65=true:=by kernel_rfl
theorem Al4:Bl Tryz.prog Af AM4 VY Tryz.f239=true:=by kernel_rfl
theorem AgC:Bl Tryz.prog Af Aef RX Tryz.f160=true:=by kernel_rfl
theorem AdM:Bl Tryz.prog Af Acy ALG Tryz.f66=true:=by kernel_rfl
theorem Agt:Bl Tryz.prog Af AdD RP Tryz.f161=true:=by kernel_rfl
theorem Ad2:Bl Tryz.prog Af AcW Ps Tryz.f67=true:=by kernel_rfl
theorem Akb:Bl Tryz.prog Af Ahs TM Tryz.f9=true:=by kernel_rfl
theorem AIH:Bl Tryz.prog Af AIz Aju Tryz.f51=true:=by kernel_rfl
theorem Am5:Bl Tryz.prog Af Ajb VA Tryz.f73=true:=by kernel_rfl
theorem Apt:Bl Tryz.prog Af Am7 AL5 Tryz.f146=true:=by kernel_rfl
theorem Al7:Bl Tryz.prog Af Aiv Vv Tryz.f247=true:=by kernel_rfl
theorem Acs:Bl Tryz.prog Af Aag AMG Tryz.f179=true:=by kernel_rfl
theorem ZV:Bl Tryz.prog Af Zd MX Tryz.f74=true:=by kernel_rfl
theorem AdP:Bl Tryz.prog Af Abk PI Tryz.f75=true:=by kernel_rfl
theorem AlY:Bl Tryz.prog Af AjQ Vj Tryz.f248=true:=by kernel_rfl
theorem AgF:Bl Tryz.prog Af Ae9 RS Tryz.f180=true:=by kernel_rfl
theorem Afi:Bl Tryz.prog Af Abn Pp Tryz.f76=true:=by kernel_rfl
theorem Af9:Bl Tryz.prog Af AeX RV Tryz.f181=true:=by kernel_rfl
theorem Aew:Bl Tryz.prog Af Abt P9 Tryz.f77=true:=by kernel_rfl
theorem Ak2:Bl Tryz.prog Af Ahk Ua Tryz.f11=true:=by kernel_rfl
theorem AI1:Bl Tryz.prog Af AIt Ajy Tryz.f53=true:=by kernel_rfl
theorem Ant:Bl Tryz.prog Af Aj3 Wl Tryz.f82=true:=by kernel_rfl
theorem Apq:Bl Tryz.prog Af AlC Xt Tryz.f147=true:=by kernel_rfl
theorem AlR:Bl Tryz.prog Af Ald V4 Tryz.f255=true:=by kernel_rfl
theorem Adv:Bl Tryz.prog Af Z5 NR Tryz.f189=true:=by kernel_rfl
theorem Aai:Bl Tryz.prog Af Y3 MI Tryz.f83=true:=by kernel_rfl
theorem AeP:Bl Tryz.prog Af Aby Px Tryz.f84=true:=by kernel_rfl
theorem AmK:Bl Tryz.prog Af Ajj Vi Tryz.f256=true:=by kernel_rfl
theorem AhS:Bl Tryz.prog Af AeK R7 Tryz.f190=true:=by kernel_rfl
theorem AdF:Bl Tryz.prog Af Acn Qg Tryz.f85=true:=by kernel_rfl
theorem AhB:Bl Tryz.prog Af AeH R4 Tryz.f191=true:=by kernel_rfl
theorem Ad5:Bl Tryz.prog Af AbW QC Tryz.f86=true:=by kernel_rfl
theorem AkS:Bl Tryz.prog Af Ahf Uc Tryz.f13=true:=by kernel_rfl
theorem AIZ:Bl Tryz.prog Af AIl Ajd Tryz.f54=true:=by kernel_rfl
theorem AIv:Bl Tryz.prog Af AHl Ahl Tryz.f148=true:=by kernel_rfl
theorem AIe:Bl Tryz.prog Af AGS Ahr Tryz.f236=true:=by kernel_rfl
theorem AlQ:Bl Tryz.prog Af Ala TG Tryz.f149=true:=by kernel_rfl
theorem AtZ:Bl Tryz.prog Af ApB V5 Tryz.f150=true:=by kernel_rfl
theorem AsE:Bl Tryz.prog Af Aoj WQ Tryz.f151=true:=by kernel_rfl
theorem AuH:Bl Tryz.prog Af Aox AaB Tryz.f152=true:=by kernel_rfl
theorem AH1:Bl Tryz.prog Af Ay4 Ad0 Tryz.f55=true:=by kernel_rfl
theorem AIY:Bl Tryz.prog Af AIp Ajr Tryz.f153=true:=by kernel_rfl
theorem AHn:Bl Tryz.prog Af AFa Adz Tryz.f56=true:=by kernel_rfl
theorem AIw:Bl Tryz.prog Af AH7 AgO Tryz.f154=true:=by kernel_rfl
theorem AIo:Bl Tryz.prog Af AH2 AgX Tryz.f237=true:=by kernel_rfl
theorem AmC:Bl Tryz.prog Af Ak1 TA Tryz.f155=true:=by kernel_rfl
theorem As2:Bl Tryz.prog Af AoZ XA Tryz.f156=true:=by kernel_rfl
theorem AvH:Bl Tryz.prog Af ApQ YZ Tryz.f157=true:=by kernel_rfl
theorem ArU:Bl Tryz.prog Af ApS X9 Tryz.f158=true:=by kernel_rfl
theorem AH9:Bl Tryz.prog Af AyD AbR Tryz.f57=true:=by kernel_rfl
theorem Ajx:Bl Tryz.prog Af Aio PS Tryz.f7=true:=by kernel_rfl
theorem XU:Ml (DD 65):=by unfold Ml;intros;refine lk (g:=65) rfl Tryz.func235 Ade ?_;apply ANW _<;>assumption
theorem W9:Sv (DD 66):=by unfold Sv;intros;refine lk (g:=66) rfl Tryz.func171 Aiq ?_;apply Ayi _<;>assumption
theorem AMa:Nr (DD 67):=by unfold Nr;intros;refine lk (g:=67) rfl Tryz.func200 AMy ?_;apply ANF _<;>assumption
theorem Cu:Ef (DD 22):=by unfold Ef;intros;refine lk (g:=22) rfl Tryz.func145 AMY ?_;apply ANR _ XU W9 AMa<;>assumption
theorem FL:SG (DD 71):=by unfold SG;intros;refine lk (g:=71) rfl Tryz.func170 AsN ?_;apply AFD _<;>assumption
theorem AkZ:Ath (DD 215):=by unfold Ath;intros;refine lk (g:=215) rfl Tryz.func241 Aue ?_;apply AFB _<;>assumption
theorem Avl:AvR (DD 253):=by unfold AvR;intros;refine lk (g:=253) rfl Tryz.func282 AuJ ?_;apply AFf _<;>assumption
theorem AuY:AvY (DD 212):=by unfold AvY;intros;refine lk (g:=212) rfl Tryz.func244 AjW ?_;apply Ayy _ AkZ Avl<;>assumption
theorem J7:EW (DD 250):=by unfold EW;intros;refine lk (g:=250) rfl Tryz.func240 AcZ ?_;apply AlF _ FL<;>assumption
theorem Wi:Yr (DD 217):=by unfold Yr;intros;refine lk (g:=217) rfl Tryz.func278 Anh ?_;apply ACc _ FL<;>assumption
theorem Yo:RQ (DD 152):=by unfold RQ;intros;refine lk (g:=152) rfl Tryz.func234 ApR ?_;apply AB1 _ FL Wi<;>assumption
theorem EO:BK (DD 208):=by unfold BK;intros;refine lk (g:=208) rfl Tryz.func163 Z9 ?_;apply Aj5 _ FL<;>assumption
theorem NY:ET (DD 207):=by unfold ET;intros;refine lk (g:=207) rfl Tryz.func162 AbM ?_;apply Anc _ FL J7 Yo EO<;>assumption
theorem Aok:AmP (DD 339):=by unfold AmP;intros;refine lk (g:=339) rfl Tryz.func386 AuV ?_;apply AF0 _ FL<;>assumption
theorem AaG:WE (DD 338):=by unfold WE;intros;refine lk (g:=338) rfl Tryz.func387 Ar4 ?_;apply AEu _ Aok<;>assumption
theorem AkX:ZM (DD 313):=by unfold ZM;intros;refine lk (g:=313) rfl Tryz.func353 Amy ?_;apply ADd _ AaG Aok<;>assumption
theorem Ahw:JS (DD 310):=by unfold JS;intros;refine lk (g:=310) rfl Tryz.func350 Afb ?_;apply Apl _ AkX<;>assumption
theorem AcF:KV (DD 308):=by unfold KV;intros;refine lk (g:=308) rfl Tryz.func347 Am1 ?_;apply Axa _<;>assumption
theorem Lx:R6 (DD 166):=by unfold R6;intros;refine lk (g:=166) rfl Tryz.func167 ApW ?_;apply AEg _<;>assumption
theorem Zz:L8 (DD 331):=by unfold L8;intros;refine lk (g:=331) rfl Tryz.func380 Aks ?_;apply AtH _ Lx<;>assumption
theorem AbJ:OG (DD 311):=by unfold OG;intros;refine lk (g:=311) rfl Tryz.func351 Alk ?_;apply Aw7 _ AcF Zz<;>assumption
theorem SI:Qn (DD 309):=by unfold Qn;intros;refine lk (g:=309) rfl Tryz.func349 ApO ?_;apply ABd _<;>assumption
theorem KG:FV (DD 312):=by unfold FV;intros;refine lk (g:=312) rfl Tryz.func352 Ajm ?_;apply Auf _ FL Wi SI<;>assumption
theorem AgT:Ju (DD 283):=by unfold Ju;intros;refine lk (g:=283) rfl Tryz.func314 AdQ ?_;apply Aoz _ Ahw AbJ KG SI AkX<;>assumption
theorem AmF:O9 (DD 251):=by unfold O9;intros;refine lk (g:=251) rfl Tryz.func281 AkF ?_;apply Aub _ NY AgT<;>assumption
theorem Gf:Eb (DD 285):=by unfold Eb;intros;refine lk (g:=285) rfl Tryz.func337 AiR ?_;apply AuM _ EO KG<;>assumption
theorem ZJ:KI (DD 301):=by unfold KI;intros;refine lk (g:=301) rfl Tryz.func339 AhE ?_;apply Avt _ AbJ<;>assumption
theorem AlD:OZ (DD 258):=by unfold OZ;intros;refine lk (g:=258) rfl Tryz.func378 AkC ?_;apply AuQ _ Yo Gf Lx FL<;>assumption
theorem MU:FN (DD 286):=by unfold FN;intros;refine lk (g:=286) rfl Tryz.func341 Ag7 ?_;apply AsW _ Gf ZJ AlD<;>assumption
theorem Ab8:F4 (DD 355):=by unfold F4;intros;refine lk (g:=355) rfl Tryz.func404 Afe ?_;apply Aqn _<;>assumption
theorem Ac7:QT (DD 356):=by unfold QT;intros;refine lk (g:=356) rfl Tryz.func405 AeV ?_;apply Apj _ Ab8<;>assumption
theorem AiH:LX (DD 328):=by unfold LX;intros;refine lk (g:=328) rfl Tryz.func374 Aaj ?_;apply Ai0 _ Ab8 Ac7<;>assumption
theorem Ac0:FX (DD 300):=by unfold FX;intros;refine lk (g:=300) rfl Tryz.func338 Aat ?_;apply AkE _ MU AiH<;>assumption
theorem UF:Gb (DD 256):=by unfold Gb;intros;refine lk (g:=256) rfl Tryz.func407 AcQ ?_;apply Amv _<;>assumption
theorem UD:G9 (DD 260):=by unfold G9;intros;refine lk (g:=260) rfl Tryz.func406 Abm ?_;apply Anx _ EO UF MU<;>assumption
theorem Z4:Gc (DD 222):=by unfold Gc;intros;refine lk (g:=222) rfl Tryz.func375 YX ?_;apply AhU _ EO UD<;>assumption
theorem AiK:WC (DD 223):=by unfold WC;intros;refine lk (g:=223) rfl Tryz.func348 AjG ?_;apply AxI _ Lx<;>assumption
theorem AkP:LA (DD 329):=by unfold LA;intros;refine lk (g:=329) rfl Tryz.func377 AgG ?_;apply AsJ _ KG UD UF MU Ac7<;>assumption
theorem Agh:JJ (DD 330):=by unfold JJ;intros;refine lk (g:=330) rfl Tryz.func376 Ad1 ?_;apply Ap7 _ Gf Lx<;>assumption
theorem Ajo:LD (DD 302):=by unfold LD;intros;refine lk (g:=302) rfl Tryz.func340 Xz ?_;apply AqY _ Gf Z4 AiK AkP Agh<;>assumption
theorem Aka:LM (DD 280):=by unfold LM;intros;refine lk (g:=280) rfl Tryz.func311 AgN ?_;apply Asf _ Gf Ac0 ZJ Ajo<;>assumption
theorem Ai3:Lu (DD 224):=by unfold Lu;intros;refine lk (g:=224) rfl Tryz.func246 AgS ?_;apply As0 _ Lx<;>assumption
theorem Ny:EX (DD 168):=by unfold EX;intros;refine lk (g:=168) rfl Tryz.func176 Ac4 ?_;apply AmY _ Ai3 EO<;>assumption
theorem AcC:GX (DD 332):=by unfold GX;intros;refine lk (g:=332) rfl Tryz.func379 Aay ?_;apply Alg _ J7<;>assumption
theorem AoY:SY (DD 303):=by unfold SY;intros;refine lk (g:=303) rfl Tryz.func342 Zh ?_;apply AxG _ Ny Gf Zz AcC<;>assumption
theorem X8:I9 (DD 333):=by unfold I9;intros;refine lk (g:=333) rfl Tryz.func381 Aga ?_;apply Art _ FL KG<;>assumption
theorem AgW:JV (DD 304):=by unfold JV;intros;refine lk (g:=304) rfl Tryz.func343 Ae3 ?_;apply Aqr _ SI J7 Gf X8 Lx<;>assumption
theorem UC:Gm (DD 337):=by unfold Gm;intros;refine lk (g:=337) rfl Tryz.func385 Ada ?_;apply AmO _ KG<;>assumption
theorem Aej:Iq (DD 305):=by unfold Iq;intros;refine lk (g:=305) rfl Tryz.func345 Aco ?_;apply Anp _ Gf UC<;>assumption
theorem Acg:GV (DD 306):=by unfold GV;intros;refine lk (g:=306) rfl Tryz.func346 Aam ?_;apply AkJ _ X8 UC<;>assumption
theorem Yq:I6 (DD 210):=by unfold I6;intros;refine lk (g:=210) rfl Tryz.func165 AbD ?_;apply AqX _ FL<;>assumption
theorem Zv:KE (DD 334):=by unfold KE;intros;refine lk (g:=334) rfl Tryz.func382 Zb ?_;apply Avy _ Wi<;>assumption
theorem AgR:JI (DD 335):=by unfold JI;intros;refine lk (g:=335) rfl Tryz.func384 WR ?_;apply Aqa _ Zv AaG<;>assumption
theorem Ar8:XV (DD 336):=by unfold XV;intros;refine lk (g:=336) rfl Tryz.func383 AdA ?_;apply ABe _ AaG<;>assumption
theorem Apw:QS (DD 307):=by unfold QS;intros;refine lk (g:=307) rfl Tryz.func344 Ahh ?_;apply Aw2 _ Yq Zv FL AgR Ar8<;>assumption
theorem Akf:LG (DD 281):=by unfold LG;intros;refine lk (g:=281) rfl Tryz.func312 AhX ?_;apply As6 _ MU AoY AgW Aej Acg Apw AcF<;>assumption
theorem AmA:OY (DD 282):=by unfold OY;intros;refine lk (g:=282) rfl Tryz.func313 Aiw ?_;apply AtO _ AiK SI FL<;>assumption
theorem Au9:AfO (DD 252):=by unfold AfO;intros;refine lk (g:=252) rfl Tryz.func280 Ar3 ?_;apply AD7 _ Aka Akf AmA<;>assumption
theorem AlA:OJ (DD 213):=by unfold OJ;intros;refine lk (g:=213) rfl Tryz.func243 Aj7 ?_;apply Au6 _ NY AmF Au9<;>assumption
theorem AoL:Te (DD 142):=by unfold Te;intros;refine lk (g:=142) rfl Tryz.func174 Anv ?_;apply Axj _ FL AuY AlA<;>assumption
theorem Qh:FR (DD 145):=by unfold FR;intros;refine lk (g:=145) rfl Tryz.func166 AdU ?_;apply AoM _ FL<;>assumption
theorem Anw:O5 (DD 284):=by unfold O5;intros;refine lk (g:=284) rfl Tryz.func279 AjV ?_;apply AuL _ FL<;>assumption
theorem Alx:OW (DD 254):=by unfold OW;intros;refine lk (g:=254) rfl Tryz.func242 AiN ?_;apply Avx _ Qh FL Anw<;>assumption
theorem Abv:Aft (DD 214):=by unfold Aft;intros;refine lk (g:=214) rfl Tryz.func259 ANG ?_;apply AmX _ Alx<;>assumption
theorem ANg:TF (DD 143):=by unfold TF;intros;refine lk (g:=143) rfl Tryz.func199 AM6 ?_;apply Aiu _ FL Abv Lx<;>assumption
theorem Aja:YR (DD 155):=by unfold YR;intros;refine lk (g:=155) rfl Tryz.func260 AhT ?_;apply AsM _ Lx<;>assumption
theorem Af2:FU (DD 144):=by unfold FU;intros;refine lk (g:=144) rfl Tryz.func201 Ae5 ?_;apply AoG _ Aja<;>assumption
theorem AcM:QJ (DD 72):=by unfold QJ;intros;refine lk (g:=72) rfl Tryz.func97 AMN ?_;apply ANB _ Cu FL AoL ANg AMa Af2<;>assumption
theorem Asm:Apd (DD 159):=by unfold Apd;intros;refine lk (g:=159) rfl Tryz.func219 AoB ?_;apply ADj _<;>assumption
theorem ALX:Je (DD 146):=by unfold Je;intros;refine lk (g:=146) rfl Tryz.func227 AMk ?_;apply ANc _ Cu Qh Abv Asm AkZ<;>assumption
theorem AM2:OP (DD 74):=by unfold OP;intros;refine lk (g:=74) rfl Tryz.func138 AMC ?_;apply AeZ _ Cu Qh ALX<;>assumption
theorem AMW:QA (DD 156):=by unfold QA;intros;refine lk (g:=156) rfl Tryz.func275 AMS ?_;apply AgK _ FL<;>assumption
theorem AM5:OB (DD 82):=by unfold OB;intros;refine lk (g:=82) rfl Tryz.func228 AMA ?_;apply ANp _ Aja AMW<;>assumption
theorem AMU:Oh (DD 147):=by unfold Oh;intros;refine lk (g:=147) rfl Tryz.func229 WX ?_;apply Aet _ W9 Qh<;>assumption
theorem XY:Og (DD 148):=by unfold Og;intros;refine lk (g:=148) rfl Tryz.func230 AMw ?_;apply Aeh _ W9 Qh<;>assumption
theorem Ih:GL (DD 167):=by unfold GL;intros;refine lk (g:=167) rfl Tryz.func276 AMn ?_;apply ANu _<;>assumption
theorem Sn:IQ (DD 149):=by unfold IQ;intros;refine lk (g:=149) rfl Tryz.func231 Ra ?_;apply AMH _ Cu Ih Ny<;>assumption
theorem AM3:Ox (DD 75):=by unfold Ox;intros;refine lk (g:=75) rfl Tryz.func139 VJ ?_;apply ANw _ Cu AM5 AMU ALX XY Sn<;>assumption
theorem Acr:Kz (DD 95):=by unfold Kz;intros;refine lk (g:=95) rfl Tryz.func169 AkD ?_;apply AuR _<;>assumption
theorem Adp:Q9 (DD 96):=by unfold Q9;intros;refine lk (g:=96) rfl Tryz.func309 AMQ ?_;apply AgA _ Ny Ih<;>assumption
theorem ANA:Afg (DD 255):=by unfold Afg;intros;refine lk (g:=255) rfl Tryz.func310 AeE ?_;apply AN3 _ Ny<;>assumption
theorem AMJ:O1 (DD 216):=by unfold O1;intros;refine lk (g:=216) rfl Tryz.func277 WM ?_;apply ANs _ EO Lx FL Adp ANA<;>assumption
theorem AL8:G6 (DD 150):=by unfold G6;intros;refine lk (g:=150) rfl Tryz.func232 P8 ?_;apply AMv _ AMJ Ih<;>assumption
theorem AMP:LZ (DD 76):=by unfold LZ;intros;refine lk (g:=76) rfl Tryz.func140 Vz ?_;apply ANf _ Cu Acr AL8<;>assumption
theorem AMF:Ms (DD 151):=by unfold Ms;intros;refine lk (g:=151) rfl Tryz.func233 Tp ?_;apply Adt _ EO FL Lx Asm<;>assumption
theorem AML:Mg (DD 77):=by unfold Mg;intros;refine lk (g:=77) rfl Tryz.func141 AMl ?_;apply ANk _ Cu AMF<;>assumption
theorem ANq:Uk (DD 78):=by unfold Uk;intros;refine lk (g:=78) rfl Tryz.func142 AaC ?_;apply ANO _ Cu FL Yo<;>assumption
theorem AM1:NA (DD 79):=by unfold NA;intros;refine lk (g:=79) rfl Tryz.func143 VN ?_;apply ANt _ Cu FL<;>assumption
theorem AcS:Qv (DD 80):=by unfold Qv;intros;refine lk (g:=80) rfl Tryz.func144 Zl ?_;apply ANH _ Cu FL<;>assumption
theorem AMI:LV (DD 27):=by unfold LV;intros;refine lk (g:=27) rfl Tryz.func52 AMt ?_;apply ANi _ Cu AcM AM2 AM3 AMP AML ANq AM1 AcS<;>assumption
theorem AEB:ACi (DD 172):=by unfold ACi;intros;refine lk (g:=172) rfl Tryz.func109 AIu ?_;apply AKb _<;>assumption
theorem AHU:Ml (DD 102):=by unfold Ml;intros;refine lk (g:=102) rfl Tryz.func195 AqE ?_;apply AIP _ AEB<;>assumption
theorem AdY:Sv (DD 101):=by unfold Sv;intros;refine lk (g:=101) rfl Tryz.func194 Ark ?_;apply AJj _<;>assumption
theorem AmT:Nr (DD 103):=by unfold Nr;intros;refine lk (g:=103) rfl Tryz.func95 AEN ?_;apply AJB _<;>assumption
theorem JO:Ef (DD 38):=by unfold Ef;intros;refine lk (g:=38) rfl Tryz.func91 AHZ ?_;apply AJX _ AHU AdY AmT<;>assumption
theorem EI:SG (DD 114):=by unfold SG;intros;refine lk (g:=114) rfl Tryz.func110 Alc ?_;apply Axy _<;>assumption
theorem ApP:Aid (DD 117):=by unfold Aid;intros;refine lk (g:=117) rfl Tryz.func92 Al3 ?_;apply ABa _ EI<;>assumption
theorem FK:BK (DD 232):=by unfold BK;intros;refine lk (g:=232) rfl Tryz.func207 ZY ?_;apply Alf _ EI<;>assumption
theorem Abq:QL (DD 266):=by unfold QL;intros;refine lk (g:=266) rfl Tryz.func266 Zm ?_;apply Amf _ EI<;>assumption
theorem Ahu:VO DD (DD 404):=by unfold VO;intros;refine lk (g:=404) rfl Tryz.func284 Pf ?_;apply Arc _<;>assumption
theorem Rn:KF DD (DD 267):=by unfold KF;intros;refine lk (g:=267) rfl Tryz.func253 M6 ?_;apply AkL _ Ahu<;>assumption
theorem JY:Jv (DD 233):=by unfold Jv;intros;refine lk (g:=233) rfl Tryz.func209 Adl ?_;apply Ap9 _ Abq Rn<;>assumption
theorem Zt:MC (DD 235):=by unfold MC;intros;refine lk (g:=235) rfl Tryz.func112 Aiy ?_;apply AtN _ JY<;>assumption
theorem UE:EW (DD 279):=by unfold EW;intros;refine lk (g:=279) rfl Tryz.func254 Adm ?_;apply Ama _ EI<;>assumption
theorem Ot:F9 (DD 270):=by unfold F9;intros;refine lk (g:=270) rfl Tryz.func188 AbG ?_;apply AlS _ UE Rn<;>assumption
theorem Afx:RQ (DD 183):=by unfold RQ;intros;refine lk (g:=183) rfl Tryz.func108 Aos ?_;apply ABX _ EI JY<;>assumption
theorem Ab7:QY (DD 271):=by unfold QY;intros;refine lk (g:=271) rfl Tryz.func213 Y7 ?_;apply Anj _ Afx<;>assumption
theorem Aaq:OH DD (DD 406):=by unfold OH;intros;refine lk (g:=406) rfl Tryz.func215 Jk ?_;apply Als _<;>assumption
theorem Nn:H9 DD (DD 272):=by unfold H9;intros;refine lk (g:=272) rfl Tryz.func119 IB ?_;apply AcB _ Aaq<;>assumption
theorem Om:ET (DD 239):=by unfold ET;intros;refine lk (g:=239) rfl Tryz.func116 Acb ?_;apply AlO _ FK Zt Ot Ab7 Nn EI<;>assumption
theorem AlZ:Acx (DD 350):=by unfold Acx;intros;refine lk (g:=350) rfl Tryz.func364 Acu ?_;apply Aro _<;>assumption
theorem JW:LP DD (DD 298):=by unfold LP;intros;refine lk (g:=298) rfl Tryz.func307 Ahc ?_;apply AtG _<;>assumption
theorem AcP:OG (DD 318):=by unfold OG;intros;refine lk (g:=318) rfl Tryz.func320 Ahd ?_;apply AtJ _ AlZ JW<;>assumption
theorem An5:AmP (DD 354):=by unfold AmP;intros;refine lk (g:=354) rfl Tryz.func368 Avw ?_;apply AFS _ EI<;>assumption
theorem AaA:WE (DD 353):=by unfold WE;intros;refine lk (g:=353) rfl Tryz.func369 Asr ?_;apply ADy _ An5<;>assumption
theorem AjS:ZM (DD 322):=by unfold ZM;intros;refine lk (g:=322) rfl Tryz.func325 AlT ?_;apply ADL _ AaA An5<;>assumption
theorem Ahy:JS (DD 319):=by unfold JS;intros;refine lk (g:=319) rfl Tryz.func321 Ae4 ?_;apply Ap6 _ AjS<;>assumption
theorem Aot:Ah6 (DD 351):=by unfold Ah6;intros;refine lk (g:=351) rfl Tryz.func366 Ai5 ?_;apply ABN _<;>assumption
theorem Sc:KP DD (DD 352):=by unfold KP;intros;refine lk (g:=352) rfl Tryz.func365 Jj ?_;apply AjN _<;>assumption
theorem AfG:Qn (DD 321):=by unfold Qn;intros;refine lk (g:=321) rfl Tryz.func323 AoX ?_;apply AAV _ Aot Sc<;>assumption
theorem KS:FV (DD 320):=by unfold FV;intros;refine lk (g:=320) rfl Tryz.func322 AjA ?_;apply Avu _ EI AfG JY<;>assumption
theorem AoT:Aqz (DD 323):=Aq9 (k:=324) rfl (fun b o c w=>Go.Eng.Ins.AHK b o c w) (fun b o c v w h=>Go.Eng.Ins.AHL b o c v w h) (fun b o c v w h=>Go.Eng.Ins.AHI b o c v w h)
theorem Apy:AoR (DD 324):=Ara (k:=326) rfl Go.Eng.Ins.AHM
theorem Agi:Ju (DD 290):=by unfold Ju;intros;refine lk (g:=290) rfl Tryz.func288 AbZ ?_;apply ApF _ AcP Ahy KS AfG AjS AoT Apy<;>assumption
theorem Am4:O9 (DD 261):=by unfold O9;intros;refine lk (g:=261) rfl Tryz.func258 AiQ ?_;apply AuA _ Om Agi<;>assumption
theorem Ht:Eb (DD 292):=by unfold Eb;intros;refine lk (g:=292) rfl Tryz.func304 AiD ?_;apply Avr _ FK KS<;>assumption
theorem ZE:KI (DD 293):=by unfold KI;intros;refine lk (g:=293) rfl Tryz.func316 Aff ?_;apply Arf _ AcP<;>assumption
theorem Ax9:AFq (DD 325):=AC1 (k:=334) rfl (fun b off n c zs w h1 h2 h3 h4=>Tryz.slices_Max_int b off n c zs w h1 h2 h3 h4)
theorem AqP:AoD (DD 389):=by unfold AoD;intros;refine lk (g:=389) rfl Tryz.func214 SB ?_;apply ADo _<;>assumption
theorem J3:R6 (DD 188):=by unfold R6;intros;refine lk (g:=188) rfl Tryz.func118 Qp ?_;apply AuO _ AqP<;>assumption
theorem Aqb:Aif (DD 326):=by unfold Aif;intros;refine lk (g:=326) rfl Tryz.func336 AkK ?_;apply ABE _ J3 EI<;>assumption
theorem WW:J6 DD (DD 327):=by unfold J6;intros;refine lk (g:=327) rfl Tryz.func335 Iz ?_;apply Aci _ Sc<;>assumption
theorem ArG:Apc (DD 295):=by unfold Apc;intros;refine lk (g:=295) rfl Tryz.func305 Aqc ?_;apply ADF _ Ax9 Aqb WW<;>assumption
theorem Asw:At5 (DD 296):=Ayd (k:=306) rfl (fun n c w=>Tryz.slices_Clone_int_nil n c w) (fun a c w=>Tryz.slices_Clone_int_zero a c w) (fun b off n c zs w h1 h2 h3=>Tryz.slices_Clone_int b off n c zs w h1 h2 h3)
theorem AjK:Yt (DD 297):=by unfold Yt;intros;refine lk (g:=297) rfl Tryz.func308 AdN ?_;apply AvM _ J3<;>assumption
theorem AmS:OZ (DD 294):=by unfold OZ;intros;refine lk (g:=294) rfl Tryz.func274 Ajh ?_;apply AvO _ Afx Ht ArG Asw AjK JW<;>assumption
theorem M7:FN (DD 274):=by unfold FN;intros;refine lk (g:=274) rfl Tryz.func302 Ago ?_;apply AsP _ Ht ZE AmS<;>assumption
theorem Acz:F4 (DD 357):=by unfold F4;intros;refine lk (g:=357) rfl Tryz.func122 SF ?_;apply AAq _<;>assumption
theorem Ait:U9 (DD 371):=by unfold U9;intros;refine lk (g:=371) rfl Tryz.func409 Aht ?_;apply Avm _ Acz<;>assumption
theorem Af0:WA DD (DD 372):=by unfold WA;intros;refine lk (g:=372) rfl Tryz.func408 Fg ?_;apply Atg _<;>assumption
theorem Api:QT (DD 358):=by unfold QT;intros;refine lk (g:=358) rfl Tryz.func388 AdI ?_;apply AoC _ Ait Af0<;>assumption
theorem AiB:LX (DD 340):=by unfold LX;intros;refine lk (g:=340) rfl Tryz.func354 Aa5 ?_;apply AkN _ Acz Api<;>assumption
theorem SV:FX (DD 314):=by unfold FX;intros;refine lk (g:=314) rfl Tryz.func315 Aak ?_;apply Ajk _ M7 AiB<;>assumption
theorem U4:Gb (DD 273):=by unfold Gb;intros;refine lk (g:=273) rfl Tryz.func303 Acd ?_;apply AmG _<;>assumption
theorem Z6:Gc (DD 240):=by unfold Gc;intros;refine lk (g:=240) rfl Tryz.func270 Y1 ?_;apply Ahi _ FK U4 M7<;>assumption
theorem V3:WC (DD 189):=by unfold WC;intros;refine lk (g:=189) rfl Tryz.func205 Alh ?_;apply AuX _ J3<;>assumption
theorem AdX:G9 (DD 360):=by unfold G9;intros;refine lk (g:=360) rfl Tryz.func390 AcT ?_;apply Amm _ FK U4 M7<;>assumption
theorem AjZ:LA (DD 341):=by unfold LA;intros;refine lk (g:=341) rfl Tryz.func356 Agq ?_;apply ArD _ KS AdX SV<;>assumption
theorem AeG:SS (DD 359):=by unfold SS;intros;refine lk (g:=359) rfl Tryz.func389 AaU ?_;apply Aqs _ J3<;>assumption
theorem AhN:JJ (DD 342):=by unfold JJ;intros;refine lk (g:=342) rfl Tryz.func355 AdE ?_;apply Apo _ Ht V3 AeG JW<;>assumption
theorem Ajt:LD (DD 315):=by unfold LD;intros;refine lk (g:=315) rfl Tryz.func317 Xj ?_;apply Asg _ Z6 V3 AjZ AhN<;>assumption
theorem AiW:LM (DD 287):=by unfold LM;intros;refine lk (g:=287) rfl Tryz.func285 Ahm ?_;apply Asl _ Ht SV ZE Ajt<;>assumption
theorem Ai2:Lu (DD 242):=by unfold Lu;intros;refine lk (g:=242) rfl Tryz.func251 Agd ?_;apply AsY _ J3<;>assumption
theorem NQ:EX (DD 190):=by unfold EX;intros;refine lk (g:=190) rfl Tryz.func184 AbA ?_;apply AlB _ Ai2 FK<;>assumption
theorem Akd:YS (DD 374):=by unfold YS;intros;refine lk (g:=374) rfl Tryz.func411 AeD ?_;apply Aum _ J3<;>assumption
theorem Al1:L8 (DD 361):=by unfold L8;intros;refine lk (g:=361) rfl Tryz.func392 Alj ?_;apply Aus _ Akd JW<;>assumption
theorem Ahx:Wh (DD 373):=by unfold Wh;intros;refine lk (g:=373) rfl Tryz.func410 XH ?_;apply Aix _ UE<;>assumption
theorem AMs:GX (DD 362):=by unfold GX;intros;refine lk (g:=362) rfl Tryz.func391 AMh ?_;apply Ak8 _ Ahx JW<;>assumption
theorem Aqk:SY (DD 343):=by unfold SY;intros;refine lk (g:=343) rfl Tryz.func357 Zp ?_;apply Ayp _ NQ Ht Al1 AMs<;>assumption
theorem Xg:I9 (DD 369):=by unfold I9;intros;refine lk (g:=369) rfl Tryz.func399 AMK ?_;apply AsV _ EI KS<;>assumption
theorem ALO:KV (DD 317):=by unfold KV;intros;refine lk (g:=317) rfl Tryz.func319 AlN ?_;apply Aw8 _<;>assumption
theorem AhM:VH (DD 370):=by unfold VH;intros;refine lk (g:=370) rfl Tryz.func400 AeW ?_;apply AoQ _ ALO Ot<;>assumption
theorem Af7:JV (DD 348):=by unfold JV;intros;refine lk (g:=348) rfl Tryz.func362 AeM ?_;apply Apk _ Ht Xg J3 ALO V3 AhM<;>assumption
theorem Va:Gm (DD 367):=by unfold Gm;intros;refine lk (g:=367) rfl Tryz.func397 Ab0 ?_;apply Anm _ KS<;>assumption
theorem AuK:ABb (DD 419):=Aw3 (k:=413) rfl (fun w=>Go.Eng.Ins.AGW w) (fun n w h1 h2=>Go.Eng.Ins.AG0 n w h1 h2)
theorem Adk:AcG (DD 368):=by unfold AcG;intros;refine lk (g:=368) rfl Tryz.func398 QI ?_;apply ABS _ AuK<;>assumption
theorem AdR:Iq (DD 345):=by unfold Iq;intros;refine lk (g:=345) rfl Tryz.func360 AcD ?_;apply Amz _ Ht Va Adk<;>assumption
theorem Ab3:GV (DD 346):=by unfold GV;intros;refine lk (g:=346) rfl Tryz.func361 Aaw ?_;apply Ajf _ Xg Va<;>assumption
theorem Xy:I6 (DD 236):=by unfold I6;intros;refine lk (g:=236) rfl Tryz.func113 Acj ?_;apply As7 _ EI<;>assumption
theorem Ajw:YI (DD 375):=by unfold YI;intros;refine lk (g:=375) rfl Tryz.func412 WU ?_;apply AtF _ JY<;>assumption
theorem YV:ALs DD (DD 405):=by unfold ALs;intros;refine lk (g:=405) rfl Tryz.func267 ALr ?_;apply AMO _<;>assumption
theorem ALZ:G7 DD (DD 269):=by unfold G7;intros;refine lk (g:=269) rfl Tryz.func210 Kw ?_;apply AaD _ YV<;>assumption
theorem ZL:KE (DD 364):=by unfold KE;intros;refine lk (g:=364) rfl Tryz.func394 Zf ?_;apply Auz _ Ajw ALZ<;>assumption
theorem AhI:JI (DD 365):=by unfold JI;intros;refine lk (g:=365) rfl Tryz.func396 WO ?_;apply Ap8 _ ZL AaA<;>assumption
theorem Aq8:XV (DD 366):=by unfold XV;intros;refine lk (g:=366) rfl Tryz.func395 Aez ?_;apply AAd _ Adk AaA<;>assumption
theorem Ac1:QS (DD 347):=by unfold QS;intros;refine lk (g:=347) rfl Tryz.func359 AhV ?_;apply Ayz _ Xy ZL EI AhI Aq8<;>assumption
theorem Ag4:Wz (DD 349):=by unfold Wz;intros;refine lk (g:=349) rfl Tryz.func363 Aee ?_;apply Aqu _ Ac1<;>assumption
theorem Ash:Aqh (DD 316):=by unfold Aqh;intros;refine lk (g:=316) rfl Tryz.func318 Ans ?_;apply AC4 _ Aqk Af7 AdR Ab3 Ac1 Ag4 ALO<;>assumption
theorem Aln:LG (DD 288):=by unfold LG;intros;refine lk (g:=288) rfl Tryz.func286 Ahn ?_;apply Aq5 _ M7 Ash<;>assumption
theorem Amk:OY (DD 289):=by unfold OY;intros;refine lk (g:=289) rfl Tryz.func287 AkU ?_;apply Au8 _ V3 ALO EI<;>assumption
theorem Avk:AfO (DD 262):=by unfold AfO;intros;refine lk (g:=262) rfl Tryz.func257 AsU ?_;apply AEo _ AiW Aln Amk<;>assumption
theorem Ang:OJ (DD 227):=by unfold OJ;intros;refine lk (g:=227) rfl Tryz.func196 AiY ?_;apply Avg _ Om Am4 Avk<;>assumption
theorem Aqg:Te (DD 173):=by unfold Te;intros;refine lk (g:=173) rfl Tryz.func93 AmV ?_;apply AxZ _ ApP Ang<;>assumption
theorem Po:FR (DD 176):=by unfold FR;intros;refine lk (g:=176) rfl Tryz.func117 Afm ?_;apply Aqq _ EI<;>assumption
theorem AmB:O5 (DD 291):=by unfold O5;intros;refine lk (g:=291) rfl Tryz.func283 Ajs ?_;apply Aux _ EI<;>assumption
theorem Ami:OW (DD 263):=by unfold OW;intros;refine lk (g:=263) rfl Tryz.func250 Aj1 ?_;apply AtU _ Po EI AmB<;>assumption
theorem AIO:Aft (DD 228):=by unfold Aft;intros;refine lk (g:=228) rfl Tryz.func197 AJR ?_;apply AKI _ Ami<;>assumption
theorem AI7:TF (DD 174):=by unfold TF;intros;refine lk (g:=174) rfl Tryz.func94 AIN ?_;apply AJ3 _ ApP AIO J3<;>assumption
theorem Aha:FU (DD 229):=by unfold FU;intros;refine lk (g:=229) rfl Tryz.func198 Apg ?_;apply ADg _ J3<;>assumption
theorem Agr:FU (DD 175):=by unfold FU;intros;refine lk (g:=175) rfl Tryz.func96 AeF ?_;apply Apx _ Aha<;>assumption
theorem AIM:QJ (DD 106):=by unfold QJ;intros;refine lk (g:=106) rfl Tryz.func16 AIB ?_;apply AJU _ JO ApP Aqg AI7 AmT Agr<;>assumption
theorem AJG:AKh (DD 264):=fun l i v hl hi=>AJ8 (Af:=Af) (g:=264) (k:=261) (t3:=Tryz.AqR.t 3) rfl (fun b off n c i vb voff m vc cs vs w h1 h2 h3 h4 h5 h6 h7 h8 h9 h10 h11 h12 h13 tA tB kA kB h14 h15 h16 h17 h18=>Any2.slices_Insert_int_shift Tryz.Ane b off n c i vb voff m vc cs vs w h1 h2 h3 h4 h5 h6 h7 h8 h9 h10 h11 h12 h13 tA tB kA kB h14 h15 h16 h17 h18) (fun b off n c vb voff m vc vs w h1 h2 h3 h4 h5 h6 h7 h8=>Any2.slices_Insert_int_end_room Tryz.Ane b off n c vb voff m vc vs w h1 h2 h3 h4 h5 h6 h7 h8) (fun base n c vb voff m vc cs vs w h1 h2 h3 h4 h5 h6 h7 h8 h9 h10=>Any2.slices_Insert_int_end_grow Tryz.Ane base n c vb voff m vc cs vs w h1 h2 h3 h4 h5 h6 h7 h8 h9 h10) (fun b off n c i vb voff m vc cs vs w h1 h2 h3 h4 h5 h6 h7 h8 h9 h10 h11=>Any2.slices_Insert_int_grow Tryz.Ane b off n c i vb voff m vc cs vs w h1 h2 h3 h4 h5 h6 h7 h8 h9 h10 h11) l i v hl hi
theorem AvI:Afn (DD 230):=by unfold Afn;intros;refine lk (g:=230) rfl Tryz.func204 AoA ?_;apply AJc _ AJG<;>assumption
theorem Akk:Je (DD 177):=by unfold Je;intros;refine lk (g:=177) rfl Tryz.func100 Au2 ?_;apply AJi _ JO Po AIO AvI<;>assumption
theorem AIg:OP (DD 107):=by unfold OP;intros;refine lk (g:=107) rfl Tryz.func29 AHW ?_;apply AJF _ JO Po Akk<;>assumption
theorem AI0:YR (DD 193):=by unfold YR;intros;refine lk (g:=193) rfl Tryz.func202 AIs ?_;apply AJW _ Aha<;>assumption
theorem AIK:QA (DD 194):=by unfold QA;intros;refine lk (g:=194) rfl Tryz.func203 AIa ?_;apply AJQ _ JY EI<;>assumption
theorem AIq:OB (DD 127):=by unfold OB;intros;refine lk (g:=127) rfl Tryz.func98 AGz ?_;apply AJy _ AI0 AIK<;>assumption
theorem AIm:Oh (DD 178):=by unfold Oh;intros;refine lk (g:=178) rfl Tryz.func99 AGI ?_;apply AJx _ AdY Po<;>assumption
theorem AIA:Og (DD 179):=by unfold Og;intros;refine lk (g:=179) rfl Tryz.func101 AHR ?_;apply AJH _ AdY Po<;>assumption
theorem AiX:Aj2 (DD 189):=by unfold Aj2;intros;refine lk (g:=189) rfl Tryz.func205 Alh ?_;apply AKm _ J3<;>assumption
theorem Arm:IQ (DD 180):=by unfold IQ;intros;refine lk (g:=180) rfl Tryz.func102 AnZ ?_;apply AIb _ JO AiX NQ<;>assumption
theorem AIh:Ox (DD 108):=by unfold Ox;intros;refine lk (g:=108) rfl Tryz.func18 AHX ?_;apply AJv _ JO AIq AIm Akk AIA Arm<;>assumption
theorem ZP:Kz (DD 123):=by unfold Kz;intros;refine lk (g:=123) rfl Tryz.func105 Alq ?_;apply Avs _<;>assumption
theorem AIT:Q9 (DD 124):=by unfold Q9;intros;refine lk (g:=124) rfl Tryz.func262 AIc ?_;apply AJZ _ NQ AiX<;>assumption
theorem AJ0:Afg (DD 265):=by unfold Afg;intros;refine lk (g:=265) rfl Tryz.func263 AJC ?_;apply AKu _ NQ<;>assumption
theorem AIj:O1 (DD 231):=by unfold O1;intros;refine lk (g:=231) rfl Tryz.func206 AHV ?_;apply AJu _ FK J3 EI AIT AJ0<;>assumption
theorem Ap2:G6 (DD 181):=by unfold G6;intros;refine lk (g:=181) rfl Tryz.func104 AlI ?_;apply AH0 _ AIj AiX<;>assumption
theorem AGo:LZ (DD 109):=by unfold LZ;intros;refine lk (g:=109) rfl Tryz.func20 AyV ?_;apply AI5 _ JO ZP Ap2<;>assumption
theorem At9:AAo (DD 197):=AwT (k:=208) rfl (fun p c w=>Tryz.slices_Sort_int_none p c w) (fun b o c zs w h1 h2 h3=>Tryz.slices_Sort_int b o c zs w h1 h2 h3)
theorem AGq:Ms (DD 182):=by unfold Ms;intros;refine lk (g:=182) rfl Tryz.func106 Avf ?_;apply AJd _ FK EI J3 At9<;>assumption
theorem AH8:Mg (DD 110):=by unfold Mg;intros;refine lk (g:=110) rfl Tryz.func22 ABr ?_;apply AJe _ JO AGq<;>assumption
theorem AJa:Uk (DD 111):=by unfold Uk;intros;refine lk (g:=111) rfl Tryz.func24 AIR ?_;apply AJ7 _ JO ApP Afx AEB<;>assumption
theorem AIy:NA (DD 112):=by unfold NA;intros;refine lk (g:=112) rfl Tryz.func31 AGN ?_;apply AJA _ JO ApP<;>assumption
theorem AIU:Qv (DD 113):=by unfold Qv;intros;refine lk (g:=113) rfl Tryz.func26 AIx ?_;apply AJT _ JO EI<;>assumption
theorem AIC:LV (DD 41):=by unfold LV;intros;refine lk (g:=41) rfl Tryz.func39 AF4 ?_;apply AJf _ JO AIM AIg AIh AGo AH8 AJa AIy AIU<;>assumption
theorem LK:QH (DD 16):=by unfold QH;intros;refine lk (g:=16) rfl Tryz.func63 Amb ?_;apply AAx _<;>assumption
theorem ArM:AoI (DD 206):=by unfold AoI;intros;refine lk (g:=206) rfl Tryz.func137 AoO ?_;apply ADO _ LK<;>assumption
theorem ApI:AhY (DD 139):=by unfold AhY;intros;refine lk (g:=139) rfl Tryz.func238 AlK ?_;apply AAB _ ArM<;>assumption
theorem Ag8:Tj (DD 62):=by unfold Tj;intros;refine lk (g:=62) rfl Tryz.func159 Abu ?_;apply Aqj _ LK ApI<;>assumption
theorem Ael:QZ (DD 17):=by unfold QZ;intros;refine lk (g:=17) rfl Tryz.func64 AaH ?_;apply Al9 _ Ag8<;>assumption
theorem Ai4:V8 (DD 18):=by unfold V8;intros;refine lk (g:=18) rfl Tryz.func65 AeL ?_;apply Arz _ LK<;>assumption
theorem ApH:Aig (DD 140):=by unfold Aig;intros;refine lk (g:=140) rfl Tryz.func239 Al4 ?_;apply AAC _ LK<;>assumption
theorem ZC:UW (DD 63):=by unfold UW;intros;refine lk (g:=63) rfl Tryz.func160 AgC ?_;apply AuW _ ApH LK<;>assumption
theorem Ak7:V9 (DD 19):=by unfold V9;intros;refine lk (g:=19) rfl Tryz.func66 AdM ?_;apply Arx _ ZC<;>assumption
theorem AmI:YQ (DD 64):=by unfold YQ;intros;refine lk (g:=64) rfl Tryz.func161 Agt ?_;apply Aup _ ZC<;>assumption
theorem Ale:Vr (DD 20):=by unfold Vr;intros;refine lk (g:=20) rfl Tryz.func67 Ad2 ?_;apply ArI _ AmI<;>assumption
theorem ArP:AbL (DD 7):=by unfold AbL;intros;refine lk (g:=7) rfl Tryz.func9 Akb ?_;apply Ayc _ LK Ael Ai4 Ak7 Ale<;>assumption
theorem AJh:AGL (DD 386):=by unfold AGL;intros;refine lk (g:=386) rfl Tryz.func51 AIH ?_;apply AKk _ ArM<;>assumption
theorem LU:QX (DD 31):=by unfold QX;intros;refine lk (g:=31) rfl Tryz.func73 Am5 ?_;apply AAU _<;>assumption
theorem AqS:ApL (DD 226):=by unfold ApL;intros;refine lk (g:=226) rfl Tryz.func146 Apt ?_;apply ADH _ LU<;>assumption
theorem Apz:Ah4 (DD 170):=by unfold Ah4;intros;refine lk (g:=170) rfl Tryz.func247 Al7 ?_;apply AAh _ AqS<;>assumption
theorem AhH:Tk (DD 98):=by unfold Tk;intros;refine lk (g:=98) rfl Tryz.func179 Acs ?_;apply ApN _ LU Apz<;>assumption
theorem Aeg:QG (DD 32):=by unfold QG;intros;refine lk (g:=32) rfl Tryz.func74 ZV ?_;apply Ame _ AhH<;>assumption
theorem Aj6:Vs (DD 33):=by unfold Vs;intros;refine lk (g:=33) rfl Tryz.func75 AdP ?_;apply AqQ _ LU<;>assumption
theorem Ao9:Ah1 (DD 171):=by unfold Ah1;intros;refine lk (g:=171) rfl Tryz.func248 AlY ?_;apply AB0 _ LU<;>assumption
theorem ZK:Vf (DD 99):=by unfold Vf;intros;refine lk (g:=99) rfl Tryz.func180 AgF ?_;apply Avb _ Ao9 LU<;>assumption
theorem AjB:VW (DD 34):=by unfold VW;intros;refine lk (g:=34) rfl Tryz.func76 Afi ?_;apply ArK _ ZK<;>assumption
theorem Akr:Yx (DD 100):=by unfold Yx;intros;refine lk (g:=100) rfl Tryz.func181 Af9 ?_;apply At0 _ ZK<;>assumption
theorem Ai1:Wp (DD 35):=by unfold Wp;intros;refine lk (g:=35) rfl Tryz.func77 Aew ?_;apply ArO _ Akr<;>assumption
theorem ArE:AbH (DD 8):=by unfold AbH;intros;refine lk (g:=8) rfl Tryz.func11 Ak2 ?_;apply Ayq _ LU Aeg Aj6 AjB Ai1<;>assumption
theorem AI9:AG5 (DD 387):=by unfold AG5;intros;refine lk (g:=387) rfl Tryz.func53 AI1 ?_;apply AKq _ AqS<;>assumption
theorem ALq:F4 (DD 47):=by unfold F4;intros;refine lk (g:=47) rfl Tryz.func82 Ant ?_;apply AzM _<;>assumption
theorem ArB:AoH (DD 249):=by unfold AoH;intros;refine lk (g:=249) rfl Tryz.func147 Apq ?_;apply ADb _ ALq<;>assumption
theorem ApT:AhZ (DD 204):=by unfold AhZ;intros;refine lk (g:=204) rfl Tryz.func255 AlR ?_;apply AA3 _ ArB<;>assumption
theorem Ad7:SQ (DD 134):=by unfold SQ;intros;refine lk (g:=134) rfl Tryz.func189 Adv ?_;apply App _ ALq ApT<;>assumption
theorem Afc:QM (DD 48):=by unfold QM;intros;refine lk (g:=48) rfl Tryz.func83 Aai ?_;apply Ani _ Ad7<;>assumption
theorem AjT:Vl (DD 49):=by unfold Vl;intros;refine lk (g:=49) rfl Tryz.func84 AeP ?_;apply Aq0 _ ALq<;>assumption
theorem Ao0:Aih (DD 205):=by unfold Aih;intros;refine lk (g:=205) rfl Tryz.func256 AmK ?_;apply ABl _ ALq<;>assumption
theorem AL6:Ve (DD 135):=by unfold Ve;intros;refine lk (g:=135) rfl Tryz.func190 AhS ?_;apply Avp _ Ao0 ALq<;>assumption
theorem AjF:VX (DD 50):=by unfold VX;intros;refine lk (g:=50) rfl Tryz.func85 AdF ?_;apply Arr _ AL6<;>assumption
theorem AkY:YP (DD 136):=by unfold YP;intros;refine lk (g:=136) rfl Tryz.func191 AhB ?_;apply Avv _ AL6<;>assumption
theorem Ajq:VF (DD 51):=by unfold VF;intros;refine lk (g:=51) rfl Tryz.func86 Ad5 ?_;apply ArX _ AkY<;>assumption
theorem AoV:AbK (DD 11):=by unfold AbK;intros;refine lk (g:=11) rfl Tryz.func13 AkS ?_;apply AxO _ ALq Afc AjT AjF Ajq<;>assumption
theorem AJn:AGM (DD 388):=by unfold AGM;intros;refine lk (g:=388) rfl Tryz.func54 AIZ ?_;apply AKp _ ArB<;>assumption
theorem O8:Qt (DD 52):=by unfold Qt;intros;refine lk (g:=52) rfl Tryz.func148 AIv ?_;apply AJ4 _<;>assumption
theorem AII:Anq (DD 137):=by unfold Anq;intros;refine lk (g:=137) rfl Tryz.func236 AIe ?_;apply AKf _ O8<;>assumption
theorem At8:Ym (DD 53):=by unfold Ym;intros;refine lk (g:=53) rfl Tryz.func149 AlQ ?_;apply AIr _ O8 AII<;>assumption
theorem AH6:Ae8 (DD 54):=by unfold Ae8;intros;refine lk (g:=54) rfl Tryz.func150 AtZ ?_;apply AJp _ O8<;>assumption
theorem AHY:Afd (DD 55):=by unfold Afd;intros;refine lk (g:=55) rfl Tryz.func151 AsE ?_;apply AI6 _ O8<;>assumption
theorem AH5:Ae7 (DD 56):=by unfold Ae7;intros;refine lk (g:=56) rfl Tryz.func152 AuH ?_;apply AJo _ O8<;>assumption
theorem AIJ:Akq (DD 12):=by unfold Akq;intros;refine lk (g:=12) rfl Tryz.func55 AH1 ?_;apply AJS _ O8 At8 AH6 AHY AH5<;>assumption
theorem AJl:AAn (DD 441):=by unfold AAn;intros;refine lk (g:=441) rfl Tryz.func153 AIY ?_;apply AKl _ O8<;>assumption
theorem AIi:Aky (DD 543):=by unfold Aky;intros;refine lk (g:=543) rfl Tryz.func56 AHn ?_;apply AJN _ AJl<;>assumption
theorem Qx:Tm (DD 57):=by unfold Tm;intros;refine lk (g:=57) rfl Tryz.func154 AIw ?_;apply AKe _<;>assumption
theorem AIQ:Anl (DD 138):=by unfold Anl;intros;refine lk (g:=138) rfl Tryz.func237 AIo ?_;apply AKa _ Qx<;>assumption
theorem Aul:Zq (DD 58):=by unfold Zq;intros;refine lk (g:=58) rfl Tryz.func155 AmC ?_;apply AIk _ Qx AIQ<;>assumption
theorem AHQ:Afq (DD 59):=by unfold Afq;intros;refine lk (g:=59) rfl Tryz.func156 As2 ?_;apply AI4 _ Qx<;>assumption
theorem AH4:AfZ (DD 60):=by unfold AfZ;intros;refine lk (g:=60) rfl Tryz.func157 AvH ?_;apply AI8 _ Qx<;>assumption
theorem AGT:AfX (DD 61):=by unfold AfX;intros;refine lk (g:=61) rfl Tryz.func158 ArU ?_;apply AJg _ Qx<;>assumption
theorem AIW:Aku (DD 13):=by unfold Aku;intros;refine lk (g:=13) rfl Tryz.func57 AH9 ?_;apply AJP _ Qx Aul AHQ AH4 AGT<;>assumption
theorem Akg:U6 (DD 542):=by unfold U6;intros;refine lk (g:=542) rfl Tryz.func7 Ajx ?_;apply AqL _ AMI AIC ArP AJh ArE AI9 AoV AJn AIJ AIi AIW<;>assumption
theorem den (av:List V) (h:Awn [Ah8,AIE] av):DD 542 av [] (B true) []:=by
 obtain⟨v0,r0,h0,hr0,rfl⟩:=h
 obtain⟨x0,rfl,l0,w0⟩:=ABV h0
 obtain⟨v1,r1,h1,hr1,rfl⟩:=hr0
 obtain⟨x1,rfl,l1,w1⟩:=AKx h1
 have z:r1=[]:=hr1
 subst z
 apply Akg<;>assumption
end Go.Eng.T
