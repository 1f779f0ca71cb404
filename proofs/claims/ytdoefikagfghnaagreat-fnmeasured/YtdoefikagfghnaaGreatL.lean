/- Own work: part 50 of the proof of FnMeasured. -/
import Derived.Test.YtdoefikagfghnaaGreatP49
import Derived.Test.YtdoefikagfghnaaGreatProg
import Derived.KernelRfl
set_option linter.unusedSimpArgs false
set_option linter.unusedVariables false
namespace Go.Eng.T
open Go.Proofs
set_option maxRecDepth 100000
def AFV:List (Option Nat):=[none,none,none,none,none,none,none,none,none,none,none,none,none,none,none,none,none,none,none,none,none,none,some 145,none,none,none,none,some 52,none,none,none,none,none,none,none,none,none,none,none,none,none,none,none,none,none,none,none,none,none,none,none,none,none,none,none,none,none,none,none,none,none,none,none,none,none,some 235,some 171,some 200,none,none,some 222,some 170,some 97,none,some 138,some 139,some 140,some 141,some 142,some 143,some 144,none,some 228,none,none,none,none,none,none,none,none,none,none,none,none,some 169,some 309,none,none,none,none,none,none,none,none,none,none,none,none,none,none,none,none,none,some 110,none,none,some 92,none,some 134,none,none,none,none,none,some 47,none,none,none,some 48,some 46,none,none,none,none,none,none,none,none,none,none,some 68,some 174,some 199,some 201,some 166,some 227,some 229,some 230,some 231,some 232,some 233,some 234,none,none,some 260,some 275,none,none,some 219,none,none,none,none,none,none,some 167,some 276,some 176,none,none,none,none,none,none,none,none,none,none,none,none,none,none,some 108,none,none,some 224,none,some 118,some 205,some 184,some 135,none,none,none,some 136,none,none,none,none,none,none,none,none,none,none,none,some 162,some 163,some 164,some 165,some 168,some 244,some 243,some 259,some 241,some 277,some 278,none,none,none,none,some 375,some 348,some 246,none,none,none,none,none,none,none,some 207,some 209,none,some 112,none,none,none,some 116,some 270,none,some 251,some 225,some 226,none,some 32,none,none,none,some 240,some 281,some 280,some 282,some 242,some 310,some 407,none,some 378,none,some 406,none,none,none,none,none,some 266,some 253,none,none,some 188,some 213,some 119,some 303,some 302,some 271,some 272,some 273,some 120,some 254,some 311,some 312,some 313,some 314,some 279,some 337,some 341,none,none,none,none,none,some 304,some 316,some 274,some 305,some 306,some 308,some 307,some 121,some 338,some 339,some 340,some 342,some 343,some 345,some 346,some 344,some 347,some 349,some 350,some 351,some 352,some 353,none,none,none,none,some 320,none,some 322,some 323,none,none,none,some 334,some 336,some 335,some 374,some 377,some 376,some 380,some 379,some 381,some 382,some 384,some 383,some 385,some 387,some 386,none,none,none,none,none,none,none,none,none,none,some 364,some 366,some 365,none,none,some 404,some 405,none,none,none,none,none,none,none,none,none,none,none,none,none,none,none,none,none,none,none,none,none,none,none,none,none,none,none,none,none,none,none,none,some 214,none,none,none,none,none,none,none,none,none,none,none,none,none,none,some 284,none,some 215,none,none,none,none,none,none,none,none,none,none,none,none,none,none,none,some 50,none,none,some 45,none,none,some 44,none,none,none,none,none,none,none,none,none,none,none,none,none,none,none,none,none,none,none,none,none,none,none,none,none,none,none,none,none,none,none,some 14,none,none,none,some 6,some 43,some 49,none,none,none,none,none,none,some 87,none,none,none,some 133,some 90,some 130,none,some 103,none,none,some 131,some 59,some 193,some 220,some 221,some 223,some 268,none,some 132,some 269,some 192,none,none,none,none,none,none,none,none,none,none,none,none,none,none,none,none,none,none,none,none,none,none,none,none,none,none,none,none,none,none,none,none,none,none,none,none,none,none,none,none,none,none,none,none,none,none,none,none,none,none,none]
def Af:Nat→Option FuncId:=fun g=>AFV.getD g none
theorem AuF:Tryz.prog.follows .mixedOrders=true:=by kernel_rfl
theorem hFl:AFV.all (fun o=>match o with | some f=>okF Tryz.prog f | none=>true)=true:=by kernel_rfl
theorem hF:∀g f,Af g=some f→okF Tryz.prog f=true:=by
 intro g f h
 have:=List.all_eq_true.1 hFl (some f) (by
  unfold Af at h
  rw[List.getD_eq_getElem?_getD]at h
  cases hg:AFV[g]? with
  | none=>simp[hg]at h
  | some o=>simp[hg]at h;subst h;exact List.mem_of_getElem? hg)
 exact this
variable {G0:Gl}
abbrev DE (G0:Gl):Dn:=Den Tryz.prog Af G0
theorem lk {g:Nat} {f:FuncId} {fn:Func} {st:List Tmp} {sf:Bh} (hg:Af g=some f) (hfn:Tryz.prog.funcs[f]? =some fn) (hm:Bl Tryz.prog Af st sf fn=true) {a:List V} {gi:List O} {r:V} {o:List O}
 (h:Body (DE G0) sf a gi r o):(DE G0) g a gi r o:=
 AAZ AuF (fun _ _ _ _ _ h=>h) hF (fun id hid=>by rw[hg]at hid;cases hid;exact hfn) hm h
theorem Ah2:Bl Tryz.prog Af Ahb WA Tryz.f14=true:=by kernel_rfl
theorem Ae8:Bl Tryz.prog Af Ac5 Jm Tryz.f87=true:=by kernel_rfl
theorem AdF:Bl Tryz.prog Af AbY KM Tryz.f193=true:=by kernel_rfl
theorem Acj:Bl Tryz.prog Af Zp IZ Tryz.f90=true:=by kernel_rfl
theorem AoB:Bl Tryz.prog Af Amh Yb Tryz.f219=true:=by kernel_rfl
theorem AaK:Bl Tryz.prog Af ZF Ip Tryz.f220=true:=by kernel_rfl
theorem AeG:Bl Tryz.prog Af AdK Mf Tryz.f103=true:=by kernel_rfl
theorem AbC:Bl Tryz.prog Af Aab IE Tryz.f268=true:=by kernel_rfl
theorem AaE:Bl Tryz.prog Af Yh Iw Tryz.f223=true:=by kernel_rfl
theorem AaD:Bl Tryz.prog Af ZP Ik Tryz.f192=true:=by kernel_rfl
theorem Ab3:Bl Tryz.prog Af Y4 Ij Tryz.f269=true:=by kernel_rfl
theorem AbZ:Bl Tryz.prog Af X3 II Tryz.f221=true:=by kernel_rfl
theorem Ade:Bl Tryz.prog Af AbX NF Tryz.f235=true:=by kernel_rfl
theorem Aiq:Bl Tryz.prog Af Af4 Tw Tryz.f171=true:=by kernel_rfl
theorem WN:Bl Tryz.prog Af Uc Km Tryz.f200=true:=by kernel_rfl
theorem Ab1:Bl Tryz.prog Af ZT MP Tryz.f145=true:=by kernel_rfl
theorem AsN:Bl Tryz.prog Af Aqw Abd Tryz.f170=true:=by kernel_rfl
theorem AcZ:Bl Tryz.prog Af Aaz OC Tryz.f240=true:=by kernel_rfl
theorem Anh:Bl Tryz.prog Af Ajl VG Tryz.f278=true:=by kernel_rfl
theorem ApR:Bl Tryz.prog Af Amu Xo Tryz.f234=true:=by kernel_rfl
theorem Z9:Bl Tryz.prog Af Za MW Tryz.f163=true:=by kernel_rfl
theorem AbM:Bl Tryz.prog Af AaW OA Tryz.f162=true:=by kernel_rfl
theorem Ajx:Bl Tryz.prog Af AgO Tm Tryz.f164=true:=by kernel_rfl
theorem AbD:Bl Tryz.prog Af Aaa NU Tryz.f165=true:=by kernel_rfl
theorem AdU:Bl Tryz.prog Af Abz Pt Tryz.f166=true:=by kernel_rfl
theorem ApW:Bl Tryz.prog Af AmL Xv Tryz.f167=true:=by kernel_rfl
theorem AkD:Bl Tryz.prog Af AgM TU Tryz.f169=true:=by kernel_rfl
theorem AgS:Bl Tryz.prog Af Aen RB Tryz.f246=true:=by kernel_rfl
theorem Ac4:Bl Tryz.prog Af AaV NI Tryz.f176=true:=by kernel_rfl
theorem AhC:Bl Tryz.prog Af Ad0 Rt Tryz.f168=true:=by kernel_rfl
theorem AjD:Bl Tryz.prog Af AfX Tq Tryz.f68=true:=by kernel_rfl
theorem YS:Bl Tryz.prog Af VA LK Tryz.f222=true:=by kernel_rfl
theorem Ym:Bl Tryz.prog Af Xg GN Tryz.f130=true:=by kernel_rfl
theorem ZL:Bl Tryz.prog Af WO GQ Tryz.f132=true:=by kernel_rfl
theorem WB:Bl Tryz.prog Af Vu Gw Tryz.f131=true:=by kernel_rfl
theorem Aue:Bl Tryz.prog Af Arh Ad9 Tryz.f241=true:=by kernel_rfl
theorem AuJ:Bl Tryz.prog Af ArY AeB Tryz.f282=true:=by kernel_rfl
theorem AjW:Bl Tryz.prog Af AhK Un Tryz.f244=true:=by kernel_rfl
theorem AuV:Bl Tryz.prog Af ArA Aey Tryz.f386=true:=by kernel_rfl
theorem Ar4:Bl Tryz.prog Af Ao2 AaI Tryz.f387=true:=by kernel_rfl
theorem Amy:Bl Tryz.prog Af Alm Wv Tryz.f353=true:=by kernel_rfl
theorem Afb:Bl Tryz.prog Af Ace PD Tryz.f350=true:=by kernel_rfl
theorem Am1:Bl Tryz.prog Af Ai6 Wy Tryz.f347=true:=by kernel_rfl
theorem Aks:Bl Tryz.prog Af AgE TD Tryz.f380=true:=by kernel_rfl
theorem Alk:Bl Tryz.prog Af Agy Ud Tryz.f351=true:=by kernel_rfl
theorem ApO:Bl Tryz.prog Af Amc Xa Tryz.f349=true:=by kernel_rfl
theorem Ajm:Bl Tryz.prog Af AhD TW Tryz.f352=true:=by kernel_rfl
theorem AdQ:Bl Tryz.prog Af Abi PW Tryz.f314=true:=by kernel_rfl
theorem AkF:Bl Tryz.prog Af AhL Uu Tryz.f281=true:=by kernel_rfl
theorem AiR:Bl Tryz.prog Af AfV TY Tryz.f337=true:=by kernel_rfl
theorem AhE:Bl Tryz.prog Af AeJ Rh Tryz.f339=true:=by kernel_rfl
theorem AkC:Bl Tryz.prog Af Aho Tt Tryz.f378=true:=by kernel_rfl
theorem Ag7:Bl Tryz.prog Af Aep Sr Tryz.f341=true:=by kernel_rfl
theorem Afe:Bl Tryz.prog Af AcY PO Tryz.f404=true:=by kernel_rfl
theorem AeV:Bl Tryz.prog Af Ac6 PY Tryz.f405=true:=by kernel_rfl
theorem Aaj:Bl Tryz.prog Af Ze Mc Tryz.f374=true:=by kernel_rfl
theorem Aat:Bl Tryz.prog Af Zg MN Tryz.f338=true:=by kernel_rfl
theorem AcQ:Bl Tryz.prog Af AaX NN Tryz.f407=true:=by kernel_rfl
theorem Abm:Bl Tryz.prog Af Aa7 NS Tryz.f406=true:=by kernel_rfl
theorem YX:Bl Tryz.prog Af Xc K6 Tryz.f375=true:=by kernel_rfl
theorem AjG:Bl Tryz.prog Af Ag9 Uo Tryz.f348=true:=by kernel_rfl
theorem AgG:Bl Tryz.prog Af AdC Sl Tryz.f377=true:=by kernel_rfl
theorem Ad1:Bl Tryz.prog Af Ac8 Qd Tryz.f376=true:=by kernel_rfl
theorem Xz:Bl Tryz.prog Af WS Kk Tryz.f340=true:=by kernel_rfl
theorem AgN:Bl Tryz.prog Af AdV Rl Tryz.f311=true:=by kernel_rfl
theorem Aay:Bl Tryz.prog Af Zn Mh Tryz.f379=true:=by kernel_rfl
theorem Zh:Bl Tryz.prog Af Yl Ls Tryz.f342=true:=by kernel_rfl
theorem Aga:Bl Tryz.prog Af Afp RA Tryz.f381=true:=by kernel_rfl
theorem Ae3:Bl Tryz.prog Af Abl Pn Tryz.f343=true:=by kernel_rfl
theorem Ada:Bl Tryz.prog Af Aa3 Oj Tryz.f385=true:=by kernel_rfl
theorem Aco:Bl Tryz.prog Af Aa8 Nw Tryz.f345=true:=by kernel_rfl
theorem Aam:Bl Tryz.prog Af Y9 ML Tryz.f346=true:=by kernel_rfl
theorem Zb:Bl Tryz.prog Af Xe K5 Tryz.f382=true:=by kernel_rfl
theorem WR:Bl Tryz.prog Af Wx JU Tryz.f384=true:=by kernel_rfl
theorem AdA:Bl Tryz.prog Af Abr PX Tryz.f383=true:=by kernel_rfl
theorem Ahh:Bl Tryz.prog Af Aek Sd Tryz.f344=true:=by kernel_rfl
theorem AhX:Bl Tryz.prog Af AdB RL Tryz.f312=true:=by kernel_rfl
theorem Aiw:Bl Tryz.prog Af AhJ Tn Tryz.f313=true:=by kernel_rfl
theorem Ar3:Bl Tryz.prog Af Ap1 AaP Tryz.f280=true:=by kernel_rfl
theorem Aj7:Bl Tryz.prog Af Agf TP Tryz.f243=true:=by kernel_rfl
theorem Anv:Bl Tryz.prog Af Ajv Vk Tryz.f174=true:=by kernel_rfl
theorem AjV:Bl Tryz.prog Af Ahj Uv Tryz.f279=true:=by kernel_rfl
theorem AiN:Bl Tryz.prog Af Ag6 TS Tryz.f242=true:=by kernel_rfl
theorem Ag4:Bl Tryz.prog Af AeK R4 Tryz.f259=true:=by kernel_rfl
theorem AaH:Bl Tryz.prog Af YG MG Tryz.f199=true:=by kernel_rfl
theorem AhT:Bl Tryz.prog Af Aes RD Tryz.f260=true:=by kernel_rfl
theorem Ae5:Bl Tryz.prog Af AbB PK Tryz.f201=true:=by kernel_rfl
theorem Aai:Bl Tryz.prog Af Wd LB Tryz.f97=true:=by kernel_rfl
theorem TJ:Bl Tryz.prog Af RV H7 Tryz.f227=true:=by kernel_rfl
theorem VB:Bl Tryz.prog Af Uw JB Tryz.f138=true:=by kernel_rfl
theorem ZK:Bl Tryz.prog Af Wm Lv Tryz.f275=true:=by kernel_rfl
theorem VF:Bl Tryz.prog Af Vy Kl Tryz.f228=true:=by kernel_rfl
theorem WX:Bl Tryz.prog Af SV J2 Tryz.f229=true:=by kernel_rfl
theorem Wz:Bl Tryz.prog Af T9 J9 Tryz.f230=true:=by kernel_rfl
theorem Vl:Bl Tryz.prog Af RP Ia Tryz.f276=true:=by kernel_rfl
theorem Ra:Bl Tryz.prog Af Pz Gz Tryz.f231=true:=by kernel_rfl
theorem VJ:Bl Tryz.prog Af Vv Jy Tryz.f139=true:=by kernel_rfl
theorem Y5:Bl Tryz.prog Af V4 LU Tryz.f309=true:=by kernel_rfl
theorem AeE:Bl Tryz.prog Af Adv P5 Tryz.f310=true:=by kernel_rfl
theorem WM:Bl Tryz.prog Af TQ JZ Tryz.f277=true:=by kernel_rfl
theorem P8:Bl Tryz.prog Af Pv Gt Tryz.f232=true:=by kernel_rfl
theorem Vz:Bl Tryz.prog Af Sg HY Tryz.f140=true:=by kernel_rfl
theorem Tp:Bl Tryz.prog Af R8 Ic Tryz.f233=true:=by kernel_rfl
theorem TM:Bl Tryz.prog Af R7 Hy Tryz.f141=true:=by kernel_rfl
theorem AaC:Bl Tryz.prog Af XH MJ Tryz.f142=true:=by kernel_rfl
theorem VN:Bl Tryz.prog Af Vt JG Tryz.f143=true:=by kernel_rfl
theorem Zl:Bl Tryz.prog Af VK Lg Tryz.f144=true:=by kernel_rfl
theorem SF:Bl Tryz.prog Af Si H6 Tryz.f52=true:=by kernel_rfl
theorem VX:Bl Tryz.prog Af TI JX Tryz.f59=true:=by kernel_rfl
theorem YH:Bl Tryz.prog Af V5 GZ Tryz.f133=true:=by kernel_rfl
theorem RS:Bl Tryz.prog Af Rk FI Tryz.f43=true:=by kernel_rfl
theorem Abk:Bl Tryz.prog Af ZU MK Tryz.f44=true:=by kernel_rfl
theorem AaY:Bl Tryz.prog Af ZH Mv Tryz.f45=true:=by kernel_rfl
theorem Alc:Bl Tryz.prog Af Agl TT Tryz.f110=true:=by kernel_rfl
theorem Al3:Bl Tryz.prog Af AjM VD Tryz.f92=true:=by kernel_rfl
theorem ZY:Bl Tryz.prog Af Zo Mx Tryz.f207=true:=by kernel_rfl
theorem Zm:Bl Tryz.prog Af XO Lh Tryz.f266=true:=by kernel_rfl
theorem Pf:Bl Tryz.prog Af Nt FQ Tryz.f284=true:=by kernel_rfl
theorem M6:Bl Tryz.prog Af LY E8 Tryz.f253=true:=by kernel_rfl
theorem Adl:Bl Tryz.prog Af AaQ Ov Tryz.f209=true:=by kernel_rfl
theorem Aiy:Bl Tryz.prog Af AgQ Ux Tryz.f112=true:=by kernel_rfl
theorem Adm:Bl Tryz.prog Af AaO NG Tryz.f254=true:=by kernel_rfl
theorem AbG:Bl Tryz.prog Af Aac ND Tryz.f188=true:=by kernel_rfl
theorem Aos:Bl Tryz.prog Af AmN Ya Tryz.f108=true:=by kernel_rfl
theorem Y7:Bl Tryz.prog Af XT Lj Tryz.f213=true:=by kernel_rfl
theorem Jk:Bl Tryz.prog Af Jd Dv Tryz.f215=true:=by kernel_rfl
theorem IB:Bl Tryz.prog Af Im C8 Tryz.f119=true:=by kernel_rfl
theorem Acb:Bl Tryz.prog Af Aad Oi Tryz.f116=true:=by kernel_rfl
theorem Acd:Bl Tryz.prog Af Aax NW Tryz.f303=true:=by kernel_rfl
theorem Ai5:Bl Tryz.prog Af AgJ TH Tryz.f366=true:=by kernel_rfl
theorem Jj:Bl Tryz.prog Af Jb Dy Tryz.f365=true:=by kernel_rfl
theorem AoX:Bl Tryz.prog Af AlU XQ Tryz.f323=true:=by kernel_rfl
theorem AjA:Bl Tryz.prog Af Agw Uh Tryz.f322=true:=by kernel_rfl
theorem AiD:Bl Tryz.prog Af Agm Ui Tryz.f304=true:=by kernel_rfl
theorem Acu:Bl Tryz.prog Af Aao Nq Tryz.f364=true:=by kernel_rfl
theorem Ahc:Bl Tryz.prog Af AeS SA Tryz.f307=true:=by kernel_rfl
theorem Ahd:Bl Tryz.prog Af AeR Sy Tryz.f320=true:=by kernel_rfl
theorem Aff:Bl Tryz.prog Af Adj Qz Tryz.f316=true:=by kernel_rfl
theorem SB:Bl Tryz.prog Af RZ Ho Tryz.f214=true:=by kernel_rfl
theorem Qp:Bl Tryz.prog Af OO F3 Tryz.f118=true:=by kernel_rfl
theorem AkK:Bl Tryz.prog Af Agj Us Tryz.f336=true:=by kernel_rfl
theorem Iz:Bl Tryz.prog Af Io CZ Tryz.f335=true:=by kernel_rfl
theorem Aqc:Bl Tryz.prog Af Am9 XE Tryz.f305=true:=by kernel_rfl
theorem AdN:Bl Tryz.prog Af AbQ Qf Tryz.f308=true:=by kernel_rfl
theorem Ajh:Bl Tryz.prog Af Ahq Ul Tryz.f274=true:=by kernel_rfl
theorem Ago:Bl Tryz.prog Af AdL RN Tryz.f302=true:=by kernel_rfl
theorem Y1:Bl Tryz.prog Af Yp Lb Tryz.f270=true:=by kernel_rfl
theorem Alh:Bl Tryz.prog Af AfY Ut Tryz.f205=true:=by kernel_rfl
theorem Agd:Bl Tryz.prog Af AeI R5 Tryz.f251=true:=by kernel_rfl
theorem AbA:Bl Tryz.prog Af Abc N7 Tryz.f184=true:=by kernel_rfl
theorem AbR:Bl Tryz.prog Af Yy MX Tryz.f224=true:=by kernel_rfl
theorem Abj:Bl Tryz.prog Af YZ MB Tryz.f134=true:=by kernel_rfl
theorem P9:Bl Tryz.prog Af Px Gd Tryz.f46=true:=by kernel_rfl
theorem VW:Bl Tryz.prog Af Tx JM Tryz.f271=true:=by kernel_rfl
theorem Acy:Bl Tryz.prog Af Z5 MO Tryz.f225=true:=by kernel_rfl
theorem VE:Bl Tryz.prog Af Uy JP Tryz.f135=true:=by kernel_rfl
theorem V9:Bl Tryz.prog Af Tv Kq Tryz.f47=true:=by kernel_rfl
theorem Ri:Bl Tryz.prog Af PU GJ Tryz.f272=true:=by kernel_rfl
theorem NP:Bl Tryz.prog Af M8 Fx Tryz.f273=true:=by kernel_rfl
theorem Qa:Bl Tryz.prog Af Pp Gv Tryz.f226=true:=by kernel_rfl
theorem PE:Bl Tryz.prog Af Ps F7 Tryz.f136=true:=by kernel_rfl
theorem Y2:Bl Tryz.prog Af WU LJ Tryz.f48=true:=by kernel_rfl
theorem AjH:Bl Tryz.prog Af AhO TA Tryz.f121=true:=by kernel_rfl
theorem XA:Bl Tryz.prog Af WQ Ku Tryz.f120=true:=by kernel_rfl
theorem Aa1:Bl Tryz.prog Af Zq Ma Tryz.f32=true:=by kernel_rfl
theorem Aez:Bl Tryz.prog Af Adq P7 Tryz.f49=true:=by kernel_rfl
theorem AbW:Bl Tryz.prog Af XC MI Tryz.f50=true:=by kernel_rfl
theorem Va:Bl Tryz.prog Af RX Hq Tryz.f6=true:=by kernel_rfl
theorem AjT:AmV (DE G0 460):=by unfold AmV;intros;refine lk (g:=460) rfl Tryz.func14 Ah2 ?_;apply Ao0 (DE G0)<;>assumption
theorem Agz:Afj (DE G0 473):=by unfold Afj;intros;refine Anq (R:=Body (DE G0) Jm) (R':=(DE G0) 473) (fun _ _ _ _ h=>lk (g:=473) rfl Tryz.func87 Ae8 h) ?_;apply Aml (DE G0)<;>assumption
theorem AeQ:Aak (DE G0 486):=by unfold Aak;intros;refine FP (R:=Body (DE G0) KM) (R':=(DE G0) 486) (fun _ _ _ _ h=>lk (g:=486) rfl Tryz.func193 AdF h) ?_;apply Al4 (DE G0)<;>assumption
theorem Da:EP (DE G0 478):=by unfold EP;intros;refine FP (R:=Body (DE G0) IZ) (R':=(DE G0) 478) (fun _ _ _ _ h=>lk (g:=478) rfl Tryz.func90 Acj h) ?_;apply Ajy (DE G0) AeQ<;>assumption
theorem Asm:Apd (DE G0 159):=by unfold Apd;intros;refine lk (g:=159) rfl Tryz.func219 AoB ?_;apply ADj (DE G0)<;>assumption
theorem AdI:U6 (DE G0 487):=by unfold U6;intros;refine FP (R:=Body (DE G0) Ip) (R':=(DE G0) 487) (fun _ _ _ _ h=>lk (g:=487) rfl Tryz.func220 AaK h) ?_;apply Aju (DE G0) Da Asm<;>assumption
theorem Xp:Abx (DE G0 481):=by unfold Abx;intros;refine FP (R:=Body (DE G0) Mf) (R':=(DE G0) 481) (fun _ _ _ _ h=>lk (g:=481) rfl Tryz.func103 AeG h) ?_;apply Am5 (DE G0) Da<;>assumption
theorem Adk:Vr (DE G0 490):=by unfold Vr;intros;refine FP (R:=Body (DE G0) IE) (R':=(DE G0) 490) (fun _ _ _ _ h=>lk (g:=490) rfl Tryz.func268 AbC h) ?_;apply AkN (DE G0) Da Asm<;>assumption
theorem Rz:Ql (DE G0 489):=by unfold Ql;intros;refine FP (R:=Body (DE G0) Iw) (R':=(DE G0) 489) (fun _ _ _ _ h=>lk (g:=489) rfl Tryz.func223 AaE h) ?_;apply Ajk (DE G0) Da Xp Asm<;>assumption
theorem RF:Qj (DE G0 494):=by unfold Qj;intros;refine FP (R:=Body (DE G0) Ik) (R':=(DE G0) 494) (fun _ _ _ _ h=>lk (g:=494) rfl Tryz.func192 AaD h) ?_;apply Akb (DE G0) Da Rz<;>assumption
theorem Adc:Um (DE G0 493):=by unfold Um;intros;refine FP (R:=Body (DE G0) Ij) (R':=(DE G0) 493) (fun _ _ _ _ h=>lk (g:=493) rfl Tryz.func269 Ab3 h) ?_;apply Akd (DE G0) Da RF<;>assumption
theorem AcT:Ue (DE G0 488):=by unfold Ue;intros;refine FP (R:=Body (DE G0) II) (R':=(DE G0) 488) (fun _ _ _ _ h=>lk (g:=488) rfl Tryz.func221 AbZ h) ?_;apply Aj3 (DE G0) Da Xp Adk Adc Asm<;>assumption
theorem XU:Ml (DE G0 65):=by unfold Ml;intros;refine lk (g:=65) rfl Tryz.func235 Ade ?_;apply AlN (DE G0)<;>assumption
theorem W9:Sv (DE G0 66):=by unfold Sv;intros;refine lk (g:=66) rfl Tryz.func171 Aiq ?_;apply Ayi (DE G0)<;>assumption
theorem Ry:Nr (DE G0 67):=by unfold Nr;intros;refine lk (g:=67) rfl Tryz.func200 WN ?_;apply Af7 (DE G0)<;>assumption
theorem Cu:Ef (DE G0 22):=by unfold Ef;intros;refine lk (g:=22) rfl Tryz.func145 Ab1 ?_;apply Ajq (DE G0) XU W9 Ry<;>assumption
theorem FL:SG (DE G0 71):=by unfold SG;intros;refine lk (g:=71) rfl Tryz.func170 AsN ?_;apply AFD (DE G0)<;>assumption
theorem J7:EW (DE G0 250):=by unfold EW;intros;refine lk (g:=250) rfl Tryz.func240 AcZ ?_;apply AlF (DE G0) FL<;>assumption
theorem Wi:Yr (DE G0 217):=by unfold Yr;intros;refine lk (g:=217) rfl Tryz.func278 Anh ?_;apply ACc (DE G0) FL<;>assumption
theorem Yo:RQ (DE G0 152):=by unfold RQ;intros;refine lk (g:=152) rfl Tryz.func234 ApR ?_;apply AB1 (DE G0) FL Wi<;>assumption
theorem EO:BK (DE G0 208):=by unfold BK;intros;refine lk (g:=208) rfl Tryz.func163 Z9 ?_;apply Aj5 (DE G0) FL<;>assumption
theorem NY:ET (DE G0 207):=by unfold ET;intros;refine lk (g:=207) rfl Tryz.func162 AbM ?_;apply Anc (DE G0) FL J7 Yo EO<;>assumption
theorem AmT:MC (DE G0 209):=by unfold MC;intros;refine lk (g:=209) rfl Tryz.func164 Ajx ?_;apply AvH (DE G0) FL<;>assumption
theorem Yq:I6 (DE G0 210):=by unfold I6;intros;refine lk (g:=210) rfl Tryz.func165 AbD ?_;apply AqX (DE G0) FL<;>assumption
theorem Qh:FR (DE G0 145):=by unfold FR;intros;refine lk (g:=145) rfl Tryz.func166 AdU ?_;apply AoM (DE G0) FL<;>assumption
theorem Lx:R6 (DE G0 166):=by unfold R6;intros;refine lk (g:=166) rfl Tryz.func167 ApW ?_;apply AEg (DE G0)<;>assumption
theorem Acr:Kz (DE G0 95):=by unfold Kz;intros;refine lk (g:=95) rfl Tryz.func169 AkD ?_;apply AuR (DE G0)<;>assumption
theorem Ai3:Lu (DE G0 224):=by unfold Lu;intros;refine lk (g:=224) rfl Tryz.func246 AgS ?_;apply As0 (DE G0) Lx<;>assumption
theorem Ny:EX (DE G0 168):=by unfold EX;intros;refine lk (g:=168) rfl Tryz.func176 Ac4 ?_;apply AmY (DE G0) Ai3 EO<;>assumption
theorem X9:Ja (DE G0 211):=by unfold Ja;intros;refine lk (g:=211) rfl Tryz.func168 AhC ?_;apply Ark (DE G0) Ny EO<;>assumption
theorem AmC:Pd (DE G0 141):=by unfold Pd;intros;refine lk (g:=141) rfl Tryz.func68 AjD ?_;apply AvL (DE G0) NY EO AmT Yq Qh Lx Acr X9 FL<;>assumption
theorem AcN:QZ (DE G0 70):=by unfold QZ;intros;refine lk (g:=70) rfl Tryz.func222 YS ?_;apply Agx (DE G0) Cu AmC<;>assumption
theorem Ab5:QH (DE G0 479):=by unfold QH;intros;refine FP (R:=Body (DE G0) GN) (R':=(DE G0) 479) (fun _ _ _ _ h=>lk (g:=479) rfl Tryz.func130 Ym h) ?_;apply AhY (DE G0) Da Asm AdI AcT Rz AcN<;>assumption
theorem AbL:QO (DE G0 492):=by unfold QO;intros;refine FP (R:=Body (DE G0) GQ) (R':=(DE G0) 492) (fun _ _ _ _ h=>lk (g:=492) rfl Tryz.func132 ZL h) ?_;apply Ahk (DE G0) Da RF<;>assumption
theorem Z0:Oz (DE G0 484):=by unfold Oz;intros;refine FP (R:=Body (DE G0) Gw) (R':=(DE G0) 484) (fun _ _ _ _ h=>lk (g:=484) rfl Tryz.func131 WB h) ?_;apply AgX (DE G0) Da AbL<;>assumption
theorem AkZ:Ath (DE G0 215):=by unfold Ath;intros;refine lk (g:=215) rfl Tryz.func241 Aue ?_;apply AFB (DE G0)<;>assumption
theorem Avl:AvR (DE G0 253):=by unfold AvR;intros;refine lk (g:=253) rfl Tryz.func282 AuJ ?_;apply AFf (DE G0)<;>assumption
theorem AuY:AvY (DE G0 212):=by unfold AvY;intros;refine lk (g:=212) rfl Tryz.func244 AjW ?_;apply Ayy (DE G0) AkZ Avl<;>assumption
theorem Aok:AmP (DE G0 339):=by unfold AmP;intros;refine lk (g:=339) rfl Tryz.func386 AuV ?_;apply AF0 (DE G0) FL<;>assumption
theorem AaG:WE (DE G0 338):=by unfold WE;intros;refine lk (g:=338) rfl Tryz.func387 Ar4 ?_;apply AEu (DE G0) Aok<;>assumption
theorem AkX:ZM (DE G0 313):=by unfold ZM;intros;refine lk (g:=313) rfl Tryz.func353 Amy ?_;apply ADd (DE G0) AaG Aok<;>assumption
theorem Ahw:JS (DE G0 310):=by unfold JS;intros;refine lk (g:=310) rfl Tryz.func350 Afb ?_;apply Apl (DE G0) AkX<;>assumption
theorem AcF:KV (DE G0 308):=by unfold KV;intros;refine lk (g:=308) rfl Tryz.func347 Am1 ?_;apply Axa (DE G0)<;>assumption
theorem Zz:L8 (DE G0 331):=by unfold L8;intros;refine lk (g:=331) rfl Tryz.func380 Aks ?_;apply AtH (DE G0) Lx<;>assumption
theorem AbJ:OG (DE G0 311):=by unfold OG;intros;refine lk (g:=311) rfl Tryz.func351 Alk ?_;apply Aw7 (DE G0) AcF Zz<;>assumption
theorem SI:Qn (DE G0 309):=by unfold Qn;intros;refine lk (g:=309) rfl Tryz.func349 ApO ?_;apply ABd (DE G0)<;>assumption
theorem KG:FV (DE G0 312):=by unfold FV;intros;refine lk (g:=312) rfl Tryz.func352 Ajm ?_;apply Auf (DE G0) FL Wi SI<;>assumption
theorem AgT:Ju (DE G0 283):=by unfold Ju;intros;refine lk (g:=283) rfl Tryz.func314 AdQ ?_;apply Aoz (DE G0) Ahw AbJ KG SI AkX<;>assumption
theorem AmF:O9 (DE G0 251):=by unfold O9;intros;refine lk (g:=251) rfl Tryz.func281 AkF ?_;apply Aub (DE G0) NY AgT<;>assumption
theorem Gf:Eb (DE G0 285):=by unfold Eb;intros;refine lk (g:=285) rfl Tryz.func337 AiR ?_;apply AuM (DE G0) EO KG<;>assumption
theorem ZJ:KI (DE G0 301):=by unfold KI;intros;refine lk (g:=301) rfl Tryz.func339 AhE ?_;apply Avt (DE G0) AbJ<;>assumption
theorem AlD:OZ (DE G0 258):=by unfold OZ;intros;refine lk (g:=258) rfl Tryz.func378 AkC ?_;apply AuQ (DE G0) Yo Gf Lx FL<;>assumption
theorem MU:FN (DE G0 286):=by unfold FN;intros;refine lk (g:=286) rfl Tryz.func341 Ag7 ?_;apply AsW (DE G0) Gf ZJ AlD<;>assumption
theorem Ab8:F4 (DE G0 355):=by unfold F4;intros;refine lk (g:=355) rfl Tryz.func404 Afe ?_;apply Aqn (DE G0)<;>assumption
theorem Ac7:QT (DE G0 356):=by unfold QT;intros;refine lk (g:=356) rfl Tryz.func405 AeV ?_;apply Apj (DE G0) Ab8<;>assumption
theorem AiH:LX (DE G0 328):=by unfold LX;intros;refine lk (g:=328) rfl Tryz.func374 Aaj ?_;apply Ai0 (DE G0) Ab8 Ac7<;>assumption
theorem Ac0:FX (DE G0 300):=by unfold FX;intros;refine lk (g:=300) rfl Tryz.func338 Aat ?_;apply AkE (DE G0) MU AiH<;>assumption
theorem UF:Gb (DE G0 256):=by unfold Gb;intros;refine lk (g:=256) rfl Tryz.func407 AcQ ?_;apply Amv (DE G0)<;>assumption
theorem UD:G9 (DE G0 260):=by unfold G9;intros;refine lk (g:=260) rfl Tryz.func406 Abm ?_;apply Anx (DE G0) EO UF MU<;>assumption
theorem Z4:Gc (DE G0 222):=by unfold Gc;intros;refine lk (g:=222) rfl Tryz.func375 YX ?_;apply AhU (DE G0) EO UD<;>assumption
theorem AiK:WC (DE G0 223):=by unfold WC;intros;refine lk (g:=223) rfl Tryz.func348 AjG ?_;apply AxI (DE G0) Lx<;>assumption
theorem AkP:LA (DE G0 329):=by unfold LA;intros;refine lk (g:=329) rfl Tryz.func377 AgG ?_;apply AsJ (DE G0) KG UD UF MU Ac7<;>assumption
theorem Agh:JJ (DE G0 330):=by unfold JJ;intros;refine lk (g:=330) rfl Tryz.func376 Ad1 ?_;apply Ap7 (DE G0) Gf Lx<;>assumption
theorem Ajo:LD (DE G0 302):=by unfold LD;intros;refine lk (g:=302) rfl Tryz.func340 Xz ?_;apply AqY (DE G0) Gf Z4 AiK AkP Agh<;>assumption
theorem Aka:LM (DE G0 280):=by unfold LM;intros;refine lk (g:=280) rfl Tryz.func311 AgN ?_;apply Asf (DE G0) Gf Ac0 ZJ Ajo<;>assumption
theorem AcC:GX (DE G0 332):=by unfold GX;intros;refine lk (g:=332) rfl Tryz.func379 Aay ?_;apply Alg (DE G0) J7<;>assumption
theorem AoY:SY (DE G0 303):=by unfold SY;intros;refine lk (g:=303) rfl Tryz.func342 Zh ?_;apply AxG (DE G0) Ny Gf Zz AcC<;>assumption
theorem X8:I9 (DE G0 333):=by unfold I9;intros;refine lk (g:=333) rfl Tryz.func381 Aga ?_;apply Art (DE G0) FL KG<;>assumption
theorem AgW:JV (DE G0 304):=by unfold JV;intros;refine lk (g:=304) rfl Tryz.func343 Ae3 ?_;apply Aqr (DE G0) SI J7 Gf X8 Lx<;>assumption
theorem UC:Gm (DE G0 337):=by unfold Gm;intros;refine lk (g:=337) rfl Tryz.func385 Ada ?_;apply AmO (DE G0) KG<;>assumption
theorem Aej:Iq (DE G0 305):=by unfold Iq;intros;refine lk (g:=305) rfl Tryz.func345 Aco ?_;apply Anp (DE G0) Gf UC<;>assumption
theorem Acg:GV (DE G0 306):=by unfold GV;intros;refine lk (g:=306) rfl Tryz.func346 Aam ?_;apply AkJ (DE G0) X8 UC<;>assumption
theorem Zv:KE (DE G0 334):=by unfold KE;intros;refine lk (g:=334) rfl Tryz.func382 Zb ?_;apply Avy (DE G0) Wi<;>assumption
theorem AgR:JI (DE G0 335):=by unfold JI;intros;refine lk (g:=335) rfl Tryz.func384 WR ?_;apply Aqa (DE G0) Zv AaG<;>assumption
theorem Ar8:XV (DE G0 336):=by unfold XV;intros;refine lk (g:=336) rfl Tryz.func383 AdA ?_;apply ABe (DE G0) AaG<;>assumption
theorem Apw:QS (DE G0 307):=by unfold QS;intros;refine lk (g:=307) rfl Tryz.func344 Ahh ?_;apply Aw2 (DE G0) Yq Zv FL AgR Ar8<;>assumption
theorem Akf:LG (DE G0 281):=by unfold LG;intros;refine lk (g:=281) rfl Tryz.func312 AhX ?_;apply As6 (DE G0) MU AoY AgW Aej Acg Apw AcF<;>assumption
theorem AmA:OY (DE G0 282):=by unfold OY;intros;refine lk (g:=282) rfl Tryz.func313 Aiw ?_;apply AtO (DE G0) AiK SI FL<;>assumption
theorem Au9:AfO (DE G0 252):=by unfold AfO;intros;refine lk (g:=252) rfl Tryz.func280 Ar3 ?_;apply AD7 (DE G0) Aka Akf AmA<;>assumption
theorem AlA:OJ (DE G0 213):=by unfold OJ;intros;refine lk (g:=213) rfl Tryz.func243 Aj7 ?_;apply Au6 (DE G0) NY AmF Au9<;>assumption
theorem AoL:Te (DE G0 142):=by unfold Te;intros;refine lk (g:=142) rfl Tryz.func174 Anv ?_;apply Axj (DE G0) FL AuY AlA<;>assumption
theorem Anw:O5 (DE G0 284):=by unfold O5;intros;refine lk (g:=284) rfl Tryz.func279 AjV ?_;apply AuL (DE G0) FL<;>assumption
theorem Alx:OW (DE G0 254):=by unfold OW;intros;refine lk (g:=254) rfl Tryz.func242 AiN ?_;apply Avx (DE G0) Qh FL Anw<;>assumption
theorem Abv:Aft (DE G0 214):=by unfold Aft;intros;refine lk (g:=214) rfl Tryz.func259 Ag4 ?_;apply AmX (DE G0) Alx<;>assumption
theorem Adh:TF (DE G0 143):=by unfold TF;intros;refine lk (g:=143) rfl Tryz.func199 AaH ?_;apply Aiu (DE G0) FL Abv Lx<;>assumption
theorem Aja:YR (DE G0 155):=by unfold YR;intros;refine lk (g:=155) rfl Tryz.func260 AhT ?_;apply AsM (DE G0) Lx<;>assumption
theorem Af2:FU (DE G0 144):=by unfold FU;intros;refine lk (g:=144) rfl Tryz.func201 Ae5 ?_;apply AoG (DE G0) Aja<;>assumption
theorem AcM:QJ (DE G0 72):=by unfold QJ;intros;refine lk (g:=72) rfl Tryz.func97 Aai ?_;apply Agq (DE G0) Cu FL AoL Adh Ry Af2<;>assumption
theorem Ng:Je (DE G0 146):=by unfold Je;intros;refine lk (g:=146) rfl Tryz.func227 TJ ?_;apply AcL (DE G0) Cu Qh Abv Asm AkZ<;>assumption
theorem AbE:OP (DE G0 74):=by unfold OP;intros;refine lk (g:=74) rfl Tryz.func138 VB ?_;apply AeZ (DE G0) Cu Qh Ng<;>assumption
theorem Acn:QA (DE G0 156):=by unfold QA;intros;refine lk (g:=156) rfl Tryz.func275 ZK ?_;apply AgK (DE G0) FL<;>assumption
theorem AaU:OB (DE G0 82):=by unfold OB;intros;refine lk (g:=82) rfl Tryz.func228 VF ?_;apply Aef (DE G0) Aja Acn<;>assumption
theorem Zj:Oh (DE G0 147):=by unfold Oh;intros;refine lk (g:=147) rfl Tryz.func229 WX ?_;apply Aet (DE G0) W9 Qh<;>assumption
theorem XY:Og (DE G0 148):=by unfold Og;intros;refine lk (g:=148) rfl Tryz.func230 Wz ?_;apply Aeh (DE G0) W9 Qh<;>assumption
theorem Ih:GL (DE G0 167):=by unfold GL;intros;refine lk (g:=167) rfl Tryz.func276 Vl ?_;apply AeW (DE G0)<;>assumption
theorem Sn:IQ (DE G0 149):=by unfold IQ;intros;refine lk (g:=149) rfl Tryz.func231 Ra ?_;apply ZC (DE G0) Cu Ih Ny<;>assumption
theorem Ab0:Ox (DE G0 75):=by unfold Ox;intros;refine lk (g:=75) rfl Tryz.func139 VJ ?_;apply Aeg (DE G0) Cu AaU Zj Ng XY Sn<;>assumption
theorem Adp:Q9 (DE G0 96):=by unfold Q9;intros;refine lk (g:=96) rfl Tryz.func309 Y5 ?_;apply AgA (DE G0) Ny Ih<;>assumption
theorem Ag8:Afg (DE G0 255):=by unfold Afg;intros;refine lk (g:=255) rfl Tryz.func310 AeE ?_;apply AlK (DE G0) Ny<;>assumption
theorem XF:O1 (DE G0 216):=by unfold O1;intros;refine lk (g:=216) rfl Tryz.func277 WM ?_;apply Aew (DE G0) EO Lx FL Adp Ag8<;>assumption
theorem Rq:G6 (DE G0 150):=by unfold G6;intros;refine lk (g:=150) rfl Tryz.func232 P8 ?_;apply WV (DE G0) XF Ih<;>assumption
theorem ZV:LZ (DE G0 76):=by unfold LZ;intros;refine lk (g:=76) rfl Tryz.func140 Vz ?_;apply Ac2 (DE G0) Cu Acr Rq<;>assumption
theorem Wh:Ms (DE G0 151):=by unfold Ms;intros;refine lk (g:=151) rfl Tryz.func233 Tp ?_;apply Adt (DE G0) EO FL Lx Asm<;>assumption
theorem Aag:Mg (DE G0 77):=by unfold Mg;intros;refine lk (g:=77) rfl Tryz.func141 TM ?_;apply AcK (DE G0) Cu Wh<;>assumption
theorem AeL:Uk (DE G0 78):=by unfold Uk;intros;refine lk (g:=78) rfl Tryz.func142 AaC ?_;apply AhQ (DE G0) Cu FL Yo<;>assumption
theorem Abs:NA (DE G0 79):=by unfold NA;intros;refine lk (g:=79) rfl Tryz.func143 VN ?_;apply Afc (DE G0) Cu FL<;>assumption
theorem AcS:Qv (DE G0 80):=by unfold Qv;intros;refine lk (g:=80) rfl Tryz.func144 Zl ?_;apply Agr (DE G0) Cu FL<;>assumption
theorem Xt:LV (DE G0 27):=by unfold LV;intros;refine lk (g:=27) rfl Tryz.func52 SF ?_;apply Adw (DE G0) Cu AcM AbE Ab0 ZV Aag AeL Abs AcS<;>assumption
theorem YI:NK (DE G0 485):=by unfold NK;intros;refine lk (g:=485) rfl Tryz.func59 VX ?_;apply Afi (DE G0) Cu Xt<;>assumption
theorem Abt:QM (DE G0 477):=by unfold QM;intros;refine FP (R:=Body (DE G0) GZ) (R':=(DE G0) 477) (fun _ _ _ _ h=>lk (g:=477) rfl Tryz.func133 YH h) ?_;apply Aix (DE G0) Ab5 Z0 YI<;>assumption
theorem SS:KZ (DE G0 465):=by unfold KZ;intros;refine Ald (R:=Body (DE G0) FI) (R':=(DE G0) 465) (fun _ _ _ _ h=>lk (g:=465) rfl Tryz.func43 RS h) ?_;apply Adz (DE G0) Agz Abt<;>assumption
theorem AdP:Vj (DE G0 428):=by unfold Vj;intros;refine lk (g:=428) rfl Tryz.func44 Abk ?_;apply AiA (DE G0)<;>assumption
theorem AdM:Uq (DE G0 425):=by unfold Uq;intros;refine lk (g:=425) rfl Tryz.func45 AaY ?_;apply Ahr (DE G0)<;>assumption
theorem EI:SG (DE G0 114):=by unfold SG;intros;refine lk (g:=114) rfl Tryz.func110 Alc ?_;apply Axy (DE G0)<;>assumption
theorem ApP:Aid (DE G0 117):=by unfold Aid;intros;refine lk (g:=117) rfl Tryz.func92 Al3 ?_;apply ABa (DE G0) EI<;>assumption
theorem FK:BK (DE G0 232):=by unfold BK;intros;refine lk (g:=232) rfl Tryz.func207 ZY ?_;apply Alf (DE G0) EI<;>assumption
theorem Abq:QL (DE G0 266):=by unfold QL;intros;refine lk (g:=266) rfl Tryz.func266 Zm ?_;apply Amf (DE G0) EI<;>assumption
theorem Ahu:VO (DE G0) (DE G0 404):=by unfold VO;intros;refine lk (g:=404) rfl Tryz.func284 Pf ?_;apply Arc (DE G0)<;>assumption
theorem Rn:KF (DE G0) (DE G0 267):=by unfold KF;intros;refine lk (g:=267) rfl Tryz.func253 M6 ?_;apply AkL (DE G0) Ahu<;>assumption
theorem JY:Jv (DE G0 233):=by unfold Jv;intros;refine lk (g:=233) rfl Tryz.func209 Adl ?_;apply Ap9 (DE G0) Abq Rn<;>assumption
theorem Zt:MC (DE G0 235):=by unfold MC;intros;refine lk (g:=235) rfl Tryz.func112 Aiy ?_;apply AtN (DE G0) JY<;>assumption
theorem UE:EW (DE G0 279):=by unfold EW;intros;refine lk (g:=279) rfl Tryz.func254 Adm ?_;apply Ama (DE G0) EI<;>assumption
theorem Ot:F9 (DE G0 270):=by unfold F9;intros;refine lk (g:=270) rfl Tryz.func188 AbG ?_;apply AlS (DE G0) UE Rn<;>assumption
theorem Afx:RQ (DE G0 183):=by unfold RQ;intros;refine lk (g:=183) rfl Tryz.func108 Aos ?_;apply ABX (DE G0) EI JY<;>assumption
theorem Ab7:QY (DE G0 271):=by unfold QY;intros;refine lk (g:=271) rfl Tryz.func213 Y7 ?_;apply Anj (DE G0) Afx<;>assumption
theorem Aaq:OH (DE G0) (DE G0 406):=by unfold OH;intros;refine lk (g:=406) rfl Tryz.func215 Jk ?_;apply Als (DE G0)<;>assumption
theorem Nn:H9 (DE G0) (DE G0 272):=by unfold H9;intros;refine lk (g:=272) rfl Tryz.func119 IB ?_;apply AcB (DE G0) Aaq<;>assumption
theorem Om:ET (DE G0 239):=by unfold ET;intros;refine lk (g:=239) rfl Tryz.func116 Acb ?_;apply AlO (DE G0) FK Zt Ot Ab7 Nn EI<;>assumption
theorem U4:Gb (DE G0 273):=by unfold Gb;intros;refine lk (g:=273) rfl Tryz.func303 Acd ?_;apply AmG (DE G0)<;>assumption
theorem Aot:Ah6 (DE G0 351):=by unfold Ah6;intros;refine lk (g:=351) rfl Tryz.func366 Ai5 ?_;apply ABN (DE G0)<;>assumption
theorem Sc:KP (DE G0) (DE G0 352):=by unfold KP;intros;refine lk (g:=352) rfl Tryz.func365 Jj ?_;apply AjN (DE G0)<;>assumption
theorem AfG:Qn (DE G0 321):=by unfold Qn;intros;refine lk (g:=321) rfl Tryz.func323 AoX ?_;apply AAV (DE G0) Aot Sc<;>assumption
theorem KS:FV (DE G0 320):=by unfold FV;intros;refine lk (g:=320) rfl Tryz.func322 AjA ?_;apply Avu (DE G0) EI AfG JY<;>assumption
theorem Ht:Eb (DE G0 292):=by unfold Eb;intros;refine lk (g:=292) rfl Tryz.func304 AiD ?_;apply Avr (DE G0) FK KS<;>assumption
theorem AlZ:Acx (DE G0 350):=by unfold Acx;intros;refine lk (g:=350) rfl Tryz.func364 Acu ?_;apply Aro (DE G0)<;>assumption
theorem JW:LP (DE G0) (DE G0 298):=by unfold LP;intros;refine lk (g:=298) rfl Tryz.func307 Ahc ?_;apply AtG (DE G0)<;>assumption
theorem AcP:OG (DE G0 318):=by unfold OG;intros;refine lk (g:=318) rfl Tryz.func320 Ahd ?_;apply AtJ (DE G0) AlZ JW<;>assumption
theorem ZE:KI (DE G0 293):=by unfold KI;intros;refine lk (g:=293) rfl Tryz.func316 Aff ?_;apply Arf (DE G0) AcP<;>assumption
theorem Ax9:AFq (DE G0 325):=AC1 (k:=334) rfl (fun b off n c zs w h1 h2 h3 h4=>Tryz.slices_Max_int b off n c zs w h1 h2 h3 h4)
theorem AqP:AoD (DE G0 389):=by unfold AoD;intros;refine lk (g:=389) rfl Tryz.func214 SB ?_;apply ADo (DE G0)<;>assumption
theorem J3:R6 (DE G0 188):=by unfold R6;intros;refine lk (g:=188) rfl Tryz.func118 Qp ?_;apply AuO (DE G0) AqP<;>assumption
theorem Aqb:Aif (DE G0 326):=by unfold Aif;intros;refine lk (g:=326) rfl Tryz.func336 AkK ?_;apply ABE (DE G0) J3 EI<;>assumption
theorem WW:J6 (DE G0) (DE G0 327):=by unfold J6;intros;refine lk (g:=327) rfl Tryz.func335 Iz ?_;apply Aci (DE G0) Sc<;>assumption
theorem ArG:Apc (DE G0 295):=by unfold Apc;intros;refine lk (g:=295) rfl Tryz.func305 Aqc ?_;apply ADF (DE G0) Ax9 Aqb WW<;>assumption
theorem Asw:At5 (DE G0 296):=Ayd (k:=306) rfl (fun n c w=>Tryz.slices_Clone_int_nil n c w) (fun a c w=>Tryz.slices_Clone_int_zero a c w) (fun b off n c zs w h1 h2 h3=>Tryz.slices_Clone_int b off n c zs w h1 h2 h3)
theorem AjK:Yt (DE G0 297):=by unfold Yt;intros;refine lk (g:=297) rfl Tryz.func308 AdN ?_;apply AvM (DE G0) J3<;>assumption
theorem AmS:OZ (DE G0 294):=by unfold OZ;intros;refine lk (g:=294) rfl Tryz.func274 Ajh ?_;apply AvO (DE G0) Afx Ht ArG Asw AjK JW<;>assumption
theorem M7:FN (DE G0 274):=by unfold FN;intros;refine lk (g:=274) rfl Tryz.func302 Ago ?_;apply AsP (DE G0) Ht ZE AmS<;>assumption
theorem Z6:Gc (DE G0 240):=by unfold Gc;intros;refine lk (g:=240) rfl Tryz.func270 Y1 ?_;apply Ahi (DE G0) FK U4 M7<;>assumption
theorem V3:WC (DE G0 189):=by unfold WC;intros;refine lk (g:=189) rfl Tryz.func205 Alh ?_;apply AuX (DE G0) J3<;>assumption
theorem Ai2:Lu (DE G0 242):=by unfold Lu;intros;refine lk (g:=242) rfl Tryz.func251 Agd ?_;apply AsY (DE G0) J3<;>assumption
theorem NQ:EX (DE G0 190):=by unfold EX;intros;refine lk (g:=190) rfl Tryz.func184 AbA ?_;apply AlB (DE G0) Ai2 FK<;>assumption
theorem AdR:Vi (DE G0 186):=by unfold Vi;intros;refine lk (g:=186) rfl Tryz.func224 AbR ?_;apply Aht (DE G0) Om Z6 V3 NQ<;>assumption
theorem Ads:TG (DE G0 119):=by unfold TG;intros;refine lk (g:=119) rfl Tryz.func134 Abj ?_;apply Ahn (DE G0) ApP AdR<;>assumption
theorem Kr:FO (DE G0 130):=by unfold FO;intros;refine lk (g:=130) rfl Tryz.func46 P9 ?_;apply Wl (DE G0) Ads<;>assumption
theorem Yd:Pm (DE G0 275):=by unfold Pm;intros;refine lk (g:=275) rfl Tryz.func271 VW ?_;apply Ae7 (DE G0) JY<;>assumption
theorem AcW:TL (DE G0 243):=by unfold TL;intros;refine lk (g:=243) rfl Tryz.func225 Acy ?_;apply Aj4 (DE G0) Yd EI<;>assumption
theorem Xy:Oq (DE G0 191):=by unfold Oq;intros;refine lk (g:=191) rfl Tryz.func135 VE ?_;apply Ael (DE G0) AcW<;>assumption
theorem Zf:O6 (DE G0 125):=by unfold O6;intros;refine lk (g:=125) rfl Tryz.func47 V9 ?_;apply Ae4 (DE G0) Kr Xy<;>assumption
theorem AdD:PN (DE G0 276):=by unfold PN;intros;refine lk (g:=276) rfl Tryz.func272 Ri ?_;apply Acs (DE G0)<;>assumption
theorem AaA:QG (DE G0 277):=by unfold QG;intros;refine lk (g:=277) rfl Tryz.func273 NP ?_;apply Ahx (DE G0) AmS<;>assumption
theorem AcU:Vp (DE G0 244):=by unfold Vp;intros;refine lk (g:=244) rfl Tryz.func226 Qa ?_;apply AhI (DE G0) Afx AdD AaA Rn<;>assumption
theorem YV:NV (DE G0 195):=by unfold NV;intros;refine lk (g:=195) rfl Tryz.func136 PE ?_;apply AeD (DE G0) AcU<;>assumption
theorem Acz:Qm (DE G0 129):=by unfold Qm;intros;refine lk (g:=129) rfl Tryz.func48 Y2 ?_;apply AfZ (DE G0) YV<;>assumption
theorem Amq:O8 (DE G0 299):=by unfold O8;intros;refine lk (g:=299) rfl Tryz.func121 AjH ?_;apply Ave (DE G0)<;>assumption
theorem AaB:OI (DE G0 278):=by unfold OI;intros;refine lk (g:=278) rfl Tryz.func120 XA ?_;apply Akw (DE G0) Amq<;>assumption
theorem AbU:Hg (DE G0 246):=by unfold Hg;intros;refine lk (g:=246) rfl Tryz.func32 Aa1 ?_;apply Ajr (DE G0) AaB Nn<;>assumption
theorem AgV:Afd (DE G0 466):=by unfold Afd;intros;refine lk (g:=466) rfl Tryz.func49 Aez ?_;apply AmI (DE G0)<;>assumption
theorem Adx:Ua (DE G0 422):=by unfold Ua;intros;refine lk (g:=422) rfl Tryz.func50 AbW ?_;apply AhS (DE G0)<;>assumption
theorem VY:PV (DE G0 464):=by unfold PV;intros;refine lk (g:=464) rfl Tryz.func6 Va ?_;apply Aee (DE G0) AjT SS AdP AdM Kr Zf Acz AbU AgV Adx<;>assumption
theorem den (G0:Gl) (av:List V) (h:Aav av):DE G0 464 av [] (B true) []:=by
 obtain⟨bs,hb,rfl⟩:=Apo h
 exact VY bs hb
end Go.Eng.T
