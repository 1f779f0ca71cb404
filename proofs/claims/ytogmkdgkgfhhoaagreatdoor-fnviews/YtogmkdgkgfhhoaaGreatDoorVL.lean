/- Own work: part 19 of the proof of FnViews. -/
import Derived.Test.YtogmkdgkgfhhoaaGreatDoorVP11
import Derived.Test.YtogmkdgkgfhhoaaGreatDoorVP12
import Derived.Test.YtogmkdgkgfhhoaaGreatDoorVP13
import Derived.Test.YtogmkdgkgfhhoaaGreatDoorVP15
import Derived.Test.YtogmkdgkgfhhoaaGreatDoorVP16
import Derived.Test.YtogmkdgkgfhhoaaGreatDoorVP17
import Derived.Test.YtogmkdgkgfhhoaaGreatDoorVEngAU
import Derived.Test.YtogmkdgkgfhhoaaGreatDoorProg
import Derived.KernelRfl
set_option linter.unusedSimpArgs false
set_option linter.unusedVariables false
namespace Go.Eng.T
open Go.Proofs Go.Lib
set_option maxRecDepth 100000
def Ap3:List (Option Nat):=[none,none,none,none,none,none,none,none,none,none,none,none,none,none,none,none,none,none,none,none,none,none,some 80,none,none,none,none,some 85,none,none,none,none,none,none,none,none,none,none,none,none,none,none,none,none,none,none,none,none,none,none,none,none,none,none,none,none,none,none,none,none,none,none,none,none,none,some 158,some 159,some 160,none,none,some 162,some 164,some 165,none,some 167,some 168,some 169,some 170,some 171,some 172,some 173,none,some 176,none,none,none,none,none,none,none,none,none,none,none,none,some 189,some 188,none,none,none,none,none,none,none,none,none,none,none,none,none,none,none,none,none,none,none,none,none,some 13,none,some 37,none,some 15,none,none,none,some 9,none,none,none,none,none,some 16,none,none,none,none,none,none,none,none,some 253,some 254,some 255,some 256,some 257,some 258,some 259,some 260,some 261,some 262,some 263,some 264,none,none,some 267,some 268,none,none,some 216,none,none,none,none,none,none,some 277,some 278,some 279,none,none,none,none,none,none,none,none,none,none,none,none,none,none,none,none,some 111,none,some 38,none,none,none,none,some 10,none,none,none,none,none,none,some 12,none,none,none,none,none,none,none,some 331,some 332,some 333,some 334,some 335,some 337,some 336,some 338,some 339,some 340,some 341,none,none,none,none,some 346,some 299,some 347,none,none,none,none,none,none,none,none,none,none,none,none,none,none,none,none,some 112,none,none,none,none,none,none,none,none,some 359,some 409,some 110,some 410,some 411,some 412,some 413,none,some 356,none,some 416,none,none,none,none,none,none,none,none,none,none,none,none,none,none,none,none,none,none,none,some 205,some 206,some 207,some 449,some 450,some 288,some 292,none,none,none,none,none,none,none,none,none,none,none,none,none,some 289,some 290,some 291,some 293,some 294,some 296,some 297,some 295,some 298,some 300,some 472,some 353,some 351,some 473,none,none,none,none,none,none,none,none,none,none,none,none,none,none,some 352,some 355,some 354,some 358,some 357,some 360,some 361,some 363,some 362,some 364,some 419,some 451,none,none,none,none,none,none,none,none,none,none,none,none,none,none,none,some 417,some 418,none,none,none,none,none,none,none,none,none,none,none,none,none,none,none,none,none,none,none,none,none,none,none,none,none,none,none,none,none,none,none,none,none,none,none,none,none,none,none,none,none,none,none,none,none,none,none,none,none,none,none,none,none,none,none,none,none,none,none,none,none,none,none,none,none,none,none,none,none,none,none,none,none,none,none,none,none,none,none,none,none,none,none,none,none,none,none,none,none,none,none,none,none,none,none,none,none,none,none,none,none,none,none,some 7,none,none,none,none,none,none,none,none,none,none,none,none,some 41,some 43,none,none,some 42,some 65,some 115,some 214,some 204,some 114,some 113,some 117,some 116,some 150,some 212,some 213,some 202,some 201,some 215,some 217,some 200,some 286,none,none,none,none,none,none,none,none,none,none,none,none,none,none,none,none,none,none,none,none,none,none,none,none,none,none,none,none,none,none,none,none,none,none,none,none,none,none,none,none,none,none,none,none,none,none,none,none,none,none,none,none,none,none,none,some 3,some 8,some 11,some 14,some 17,none,some 36,some 39,some 40,none,some 109,some 199,some 203,some 285,some 287]
def Ae:Nat->Option FuncId:=fun g=>Ap3.getD g none
theorem AhQ:Tryz.prog.follows .mixedOrders=true:=by kernel_rfl
theorem hFl:Ap3.all (fun o=>match o with | some f=>okF Tryz.prog f | none=>true)=true:=by kernel_rfl
theorem hF:∀g f,Ae g=some f->okF Tryz.prog f=true:=by
 intro g f h
 have:=List.all_eq_true.1 hFl (some f) (by
  unfold Ae at h
  rw[List.getD_eq_getElem?_getD]at h
  cases hg:Ap3[g]? with
  | none=>simp[hg]at h
  | some o=>simp[hg]at h;subst h;exact List.mem_of_getElem? hg)
 exact this
theorem ApV:Tryz.prog.globalNamed "internal/strconv.uint64pow10"=some 1:=by kernel_rfl
theorem Al7:(Tryz.prog.globals[1]?).map (·.type)=some 338:=by kernel_rfl
theorem Aqe:Tryz.prog.cellsOf 338=20:=by kernel_rfl
theorem cellsE:Tryz.prog.cellsOf 302=1:=by kernel_rfl
abbrev Tb (W:Go.World):Prop:=TabIs Tryz.prog W "internal/strconv.uint64pow10" .u64 pow10Tab
abbrev DE (W:Go.World):Dn:=Den Tryz.prog Ae (AeK W)
theorem lk {W:Go.World} {g:Nat} {f:FuncId} {fn:Func} {st:List Tmp} {sf:Cm} (hg:Ae g=some f) (hfn:Tryz.prog.funcs[f]? =some fn) (hm:CQ Tryz.prog Ae st sf fn=true) {a:List V} {gi:List O} {r:V} {o:List O}
 (h:Body (DE W) sf a gi r o):DE W g a gi r o:=
 Ame AhQ (fun _ _ _ _ _ h=>h) hF (fun id hid=>by rw[hg]at hid;cases hid;exact hfn) hm h
theorem Ai8:CQ Tryz.prog Ae Ahw WT Tryz.f7=true:=by kernel_rfl
theorem Afb:CQ Tryz.prog Ae Ack Ko Tryz.f41=true:=by kernel_rfl
theorem AcE:CQ Tryz.prog Ae Abc Lr Tryz.f150=true:=by kernel_rfl
theorem Abl:CQ Tryz.prog Ae Yu JS Tryz.f65=true:=by kernel_rfl
theorem Afo:CQ Tryz.prog Ae Acu QC Tryz.f216=true:=by kernel_rfl
theorem Abq:CQ Tryz.prog Ae Y5 JJ Tryz.f201=true:=by kernel_rfl
theorem Aff:CQ Tryz.prog Ae AcT MP Tryz.f204=true:=by kernel_rfl
theorem Ad8:CQ Tryz.prog Ae AcD Qt Tryz.f300=true:=by kernel_rfl
theorem AcW:CQ Tryz.prog Ae Aa9 La Tryz.f285=true:=by kernel_rfl
theorem AaZ:CQ Tryz.prog Ae Zb JR Tryz.f199=true:=by kernel_rfl
theorem AbP:CQ Tryz.prog Ae Zp JK Tryz.f202=true:=by kernel_rfl
theorem AbS:CQ Tryz.prog Ae Yh JQ Tryz.f286=true:=by kernel_rfl
theorem Aad:CQ Tryz.prog Ae Yz JO Tryz.f200=true:=by kernel_rfl
theorem AcS:CQ Tryz.prog Ae Aan Lm Tryz.f43=true:=by kernel_rfl
theorem SS:CQ Tryz.prog Ae Abn GD Tryz.f214=true:=by kernel_rfl
theorem Ae4:CQ Tryz.prog Ae AcR MG Tryz.f287=true:=by kernel_rfl
theorem Acy:CQ Tryz.prog Ae ZY Lf Tryz.f203=true:=by kernel_rfl
theorem Sq:CQ Tryz.prog Ae QF FW Tryz.f109=true:=by kernel_rfl
theorem AhD:CQ Tryz.prog Ae Aen TW Tryz.f164=true:=by kernel_rfl
theorem TA:CQ Tryz.prog Ae Sv I6 Tryz.f332=true:=by kernel_rfl
theorem Aci:CQ Tryz.prog Ae Aaj OW Tryz.f341=true:=by kernel_rfl
theorem AaG:CQ Tryz.prog Ae YM Nu Tryz.f351=true:=by kernel_rfl
theorem AbU:CQ Tryz.prog Ae YD Nq Tryz.f288=true:=by kernel_rfl
theorem AcP:CQ Tryz.prog Ae Aap PD Tryz.f298=true:=by kernel_rfl
theorem Ae8:CQ Tryz.prog Ae AcK QH Tryz.f277=true:=by kernel_rfl
theorem Aab:CQ Tryz.prog Ae Zt NE Tryz.f358=true:=by kernel_rfl
theorem AbB:CQ Tryz.prog Ae Zj Nc Tryz.f353=true:=by kernel_rfl
theorem Zq:CQ Tryz.prog Ae Xb MB Tryz.f290=true:=by kernel_rfl
theorem AeC:CQ Tryz.prog Ae AcF QE Tryz.f264=true:=by kernel_rfl
theorem Aae:CQ Tryz.prog Ae Zr Nv Tryz.f356=true:=by kernel_rfl
theorem YC:CQ Tryz.prog Ae Wq Mk Tryz.f292=true:=by kernel_rfl
theorem XE:CQ Tryz.prog Ae Vu KL Tryz.f417=true:=by kernel_rfl
theorem WI:CQ Tryz.prog Ae VZ KM Tryz.f418=true:=by kernel_rfl
theorem TR:CQ Tryz.prog Ae SG IW Tryz.f352=true:=by kernel_rfl
theorem Tq:CQ Tryz.prog Ae Sr IU Tryz.f289=true:=by kernel_rfl
theorem UW:CQ Tryz.prog Ae TH Jo Tryz.f413=true:=by kernel_rfl
theorem Vl:CQ Tryz.prog Ae TB JD Tryz.f416=true:=by kernel_rfl
theorem Sg:CQ Tryz.prog Ae QT H9 Tryz.f346=true:=by kernel_rfl
theorem AbI:CQ Tryz.prog Ae Ze NC Tryz.f299=true:=by kernel_rfl
theorem YW:CQ Tryz.prog Ae Wo Mv Tryz.f355=true:=by kernel_rfl
theorem Xn:CQ Tryz.prog Ae UF Ku Tryz.f354=true:=by kernel_rfl
theorem QL:CQ Tryz.prog Ae Qc GU Tryz.f291=true:=by kernel_rfl
theorem YV:CQ Tryz.prog Ae WG L9 Tryz.f205=true:=by kernel_rfl
theorem YR:CQ Tryz.prog Ae W9 Mc Tryz.f347=true:=by kernel_rfl
theorem VL:CQ Tryz.prog Ae TU Jf Tryz.f279=true:=by kernel_rfl
theorem UD:CQ Tryz.prog Ae TJ Jh Tryz.f359=true:=by kernel_rfl
theorem Tj:CQ Tryz.prog Ae SF IX Tryz.f357=true:=by kernel_rfl
theorem Sl:CQ Tryz.prog Ae QX H6 Tryz.f293=true:=by kernel_rfl
theorem Yx:CQ Tryz.prog Ae XF LK Tryz.f360=true:=by kernel_rfl
theorem Wv:CQ Tryz.prog Ae Vg KU Tryz.f294=true:=by kernel_rfl
theorem Vt:CQ Tryz.prog Ae Tp Jr Tryz.f364=true:=by kernel_rfl
theorem Uq:CQ Tryz.prog Ae Tt Jk Tryz.f296=true:=by kernel_rfl
theorem TG:CQ Tryz.prog Ae SB IY Tryz.f297=true:=by kernel_rfl
theorem VO:CQ Tryz.prog Ae Uc Jd Tryz.f334=true:=by kernel_rfl
theorem Sz:CQ Tryz.prog Ae Q7 H7 Tryz.f361=true:=by kernel_rfl
theorem Aji:CQ Tryz.prog Ae AfQ Xp Tryz.f451=true:=by kernel_rfl
theorem Agq:CQ Tryz.prog Ae AeG TL Tryz.f419=true:=by kernel_rfl
theorem Qf:CQ Tryz.prog Ae Pe Gt Tryz.f363=true:=by kernel_rfl
theorem WH:CQ Tryz.prog Ae Ux KO Tryz.f362=true:=by kernel_rfl
theorem Yd:CQ Tryz.prog Ae WO Mt Tryz.f295=true:=by kernel_rfl
theorem Y8:CQ Tryz.prog Ae Xm LM Tryz.f206=true:=by kernel_rfl
theorem Abz:CQ Tryz.prog Ae YJ Nb Tryz.f207=true:=by kernel_rfl
theorem AfR:CQ Tryz.prog Ae Aec TQ Tryz.f110=true:=by kernel_rfl
theorem Pf:CQ Tryz.prog Ae Ox Fa Tryz.f36=true:=by kernel_rfl
theorem Ov:CQ Tryz.prog Ae M7 EK Tryz.f8=true:=by kernel_rfl
theorem Xu:CQ Tryz.prog Ae UZ KX Tryz.f37=true:=by kernel_rfl
theorem AcA:CQ Tryz.prog Ae Aaz OP Tryz.f38=true:=by kernel_rfl
theorem UU:CQ Tryz.prog Ae Tw Ji Tryz.f10=true:=by kernel_rfl
theorem SE:CQ Tryz.prog Ae Ri HY Tryz.f9=true:=by kernel_rfl
theorem Qv:CQ Tryz.prog Ae YF Ga Tryz.f212=true:=by kernel_rfl
theorem Ac6:CQ Tryz.prog Ae Z0 Lg Tryz.f113=true:=by kernel_rfl
theorem Qx:CQ Tryz.prog Ae Qj FK Tryz.f39=true:=by kernel_rfl
theorem Nt:CQ Tryz.prog Ae MC Ez Tryz.f11=true:=by kernel_rfl
theorem Qr:CQ Tryz.prog Ae Qe GY Tryz.f12=true:=by kernel_rfl
theorem Abp:CQ Tryz.prog Ae Yi JU Tryz.f213=true:=by kernel_rfl
theorem Acd:CQ Tryz.prog Ae AaL Ll Tryz.f215=true:=by kernel_rfl
theorem AcQ:CQ Tryz.prog Ae Aa5 Lc Tryz.f114=true:=by kernel_rfl
theorem Qd:CQ Tryz.prog Ae Ph Fx Tryz.f40=true:=by kernel_rfl
theorem QN:CQ Tryz.prog Ae Qb FH Tryz.f14=true:=by kernel_rfl
theorem VS:CQ Tryz.prog Ae TD Jz Tryz.f15=true:=by kernel_rfl
theorem Wi:CQ Tryz.prog Ae VK KQ Tryz.f13=true:=by kernel_rfl
theorem AcC:CQ Tryz.prog Ae AbO OM Tryz.f158=true:=by kernel_rfl
theorem Abm:CQ Tryz.prog Ae Zo NA Tryz.f159=true:=by kernel_rfl
theorem Wy:CQ Tryz.prog Ae Uo KY Tryz.f160=true:=by kernel_rfl
theorem Abw:CQ Tryz.prog Ae Y6 Na Tryz.f80=true:=by kernel_rfl
theorem UH:CQ Tryz.prog Ae Ti JC Tryz.f331=true:=by kernel_rfl
theorem Ab2:CQ Tryz.prog Ae Y7 Nz Tryz.f333=true:=by kernel_rfl
theorem Xx:CQ Tryz.prog Ae Ve Kv Tryz.f257=true:=by kernel_rfl
theorem AbG:CQ Tryz.prog Ae Yt NK Tryz.f189=true:=by kernel_rfl
theorem Ym:CQ Tryz.prog Ae Wx LQ Tryz.f335=true:=by kernel_rfl
theorem Z7:CQ Tryz.prog Ae Zg M8 Tryz.f253=true:=by kernel_rfl
theorem YS:CQ Tryz.prog Ae Xd LP Tryz.f162=true:=by kernel_rfl
theorem Yn:CQ Tryz.prog Ae WW I5 Tryz.f115=true:=by kernel_rfl
theorem Y4:CQ Tryz.prog Ae Xe Il Tryz.f217=true:=by kernel_rfl
theorem WL:CQ Tryz.prog Ae VT Hq Tryz.f117=true:=by kernel_rfl
theorem AiH:CQ Tryz.prog Ae Ahn WM Tryz.f339=true:=by kernel_rfl
theorem AiP:CQ Tryz.prog Ae Agv Xi Tryz.f410=true:=by kernel_rfl
theorem ZP:CQ Tryz.prog Ae Zf Ny Tryz.f337=true:=by kernel_rfl
theorem Aco:CQ Tryz.prog Ae AaY O0 Tryz.f473=true:=by kernel_rfl
theorem WE:CQ Tryz.prog Ae Vz KA Tryz.f472=true:=by kernel_rfl
theorem Xa:CQ Tryz.prog Ae UO KR Tryz.f449=true:=by kernel_rfl
theorem AaI:CQ Tryz.prog Ae YI NF Tryz.f409=true:=by kernel_rfl
theorem AbV:CQ Tryz.prog Ae Yy NH Tryz.f336=true:=by kernel_rfl
theorem Ab7:CQ Tryz.prog Ae Aag OE Tryz.f254=true:=by kernel_rfl
theorem AaT:CQ Tryz.prog Ae Zl M9 Tryz.f450=true:=by kernel_rfl
theorem Abr:CQ Tryz.prog Ae Y9 NG Tryz.f411=true:=by kernel_rfl
theorem AhI:CQ Tryz.prog Ae Afq Uf Tryz.f338=true:=by kernel_rfl
theorem Aa3:CQ Tryz.prog Ae Y2 Nk Tryz.f255=true:=by kernel_rfl
theorem Y1:CQ Tryz.prog Ae WQ Mg Tryz.f267=true:=by kernel_rfl
theorem Wp:CQ Tryz.prog Ae U8 Kw Tryz.f256=true:=by kernel_rfl
theorem YE:CQ Tryz.prog Ae Wz Mx Tryz.f165=true:=by kernel_rfl
theorem VA:CQ Tryz.prog Ae Tv Jp Tryz.f258=true:=by kernel_rfl
theorem Xv:CQ Tryz.prog Ae VJ KJ Tryz.f167=true:=by kernel_rfl
theorem Zi:CQ Tryz.prog Ae WU Ma Tryz.f268=true:=by kernel_rfl
theorem XG:CQ Tryz.prog Ae U4 KW Tryz.f176=true:=by kernel_rfl
theorem V9:CQ Tryz.prog Ae UM Ky Tryz.f259=true:=by kernel_rfl
theorem WZ:CQ Tryz.prog Ae Va KV Tryz.f260=true:=by kernel_rfl
theorem Un:CQ Tryz.prog Ae Tk Jy Tryz.f278=true:=by kernel_rfl
theorem Sm:CQ Tryz.prog Ae QB Ia Tryz.f261=true:=by kernel_rfl
theorem WA:CQ Tryz.prog Ae Vk Kz Tryz.f168=true:=by kernel_rfl
theorem YL:CQ Tryz.prog Ae WX L8 Tryz.f188=true:=by kernel_rfl
theorem Ae6:CQ Tryz.prog Ae Acg Ra Tryz.f412=true:=by kernel_rfl
theorem Wj:CQ Tryz.prog Ae U0 KF Tryz.f340=true:=by kernel_rfl
theorem Ro:CQ Tryz.prog Ae Qg GQ Tryz.f262=true:=by kernel_rfl
theorem Vx:CQ Tryz.prog Ae Tz Jq Tryz.f169=true:=by kernel_rfl
theorem Vr:CQ Tryz.prog Ae TF I9 Tryz.f263=true:=by kernel_rfl
theorem UA:CQ Tryz.prog Ae Tx Jb Tryz.f170=true:=by kernel_rfl
theorem AaA:CQ Tryz.prog Ae Yj Ni Tryz.f171=true:=by kernel_rfl
theorem XC:CQ Tryz.prog Ae Vq KD Tryz.f172=true:=by kernel_rfl
theorem Y3:CQ Tryz.prog Ae Xq LV Tryz.f173=true:=by kernel_rfl
theorem UY:CQ Tryz.prog Ae TM Jv Tryz.f85=true:=by kernel_rfl
theorem WB:CQ Tryz.prog Ae Um KN Tryz.f116=true:=by kernel_rfl
theorem Yf:CQ Tryz.prog Ae Wm IK Tryz.f42=true:=by kernel_rfl
theorem OQ:CQ Tryz.prog Ae NW Ff Tryz.f17=true:=by kernel_rfl
theorem Ug:CQ Tryz.prog Ae Sy IA Tryz.f16=true:=by kernel_rfl
theorem Abd:CQ Tryz.prog Ae Yk Ng Tryz.f3=true:=by kernel_rfl
theorem Akh (W:Go.World) (ht:Tb W):An6 (DE W 460):=by unfold An6;intros;refine lk (g:=460) rfl Tryz.func7 Ai8 ?_;apply ArJ (DE W)<;>assumption
theorem Kt (W:Go.World) (ht:Tb W):Qk (DE W 473):=by unfold Qk;intros;refine ApJ (R:=Body (DE W) Ko) (R':=DE W 473) (fun _ _ _ _ h=>lk (g:=473) rfl Tryz.func41 Afb h) ?_;apply Aow (DE W)<;>assumption
theorem AeJ (W:Go.World) (ht:Tb W):ZC (DE W 486):=by unfold ZC;intros;refine DJ (R:=Body (DE W) Lr) (R':=DE W 486) (fun _ _ _ _ h=>lk (g:=486) rfl Tryz.func150 AcE h) ?_;apply AnR (DE W)<;>assumption
theorem AV (W:Go.World) (ht:Tb W):CB (DE W 478):=by unfold CB;intros;refine DJ (R:=Body (DE W) JS) (R':=DE W 478) (fun _ _ _ _ h=>lk (g:=478) rfl Tryz.func65 Abl h) ?_;apply Akk (DE W) (AeJ W ht)<;>assumption
theorem FR (W:Go.World) (ht:Tb W):Mf (DE W 159):=by unfold Mf;intros;refine lk (g:=159) rfl Tryz.func216 Afo ?_;apply Ao5 (DE W)<;>assumption
theorem G5 (W:Go.World) (ht:Tb W):Ki (DE W 490):=by unfold Ki;intros;refine DJ (R:=Body (DE W) JJ) (R':=DE W 490) (fun _ _ _ _ h=>lk (g:=490) rfl Tryz.func201 Abq h) ?_;apply AkV (DE W) (AV W ht) (FR W ht)<;>assumption
theorem EL (W:Go.World) (ht:Tb W):Jc (DE W 481):=by unfold Jc;intros;refine DJ (R:=Body (DE W) MP) (R':=DE W 481) (fun _ _ _ _ h=>lk (g:=481) rfl Tryz.func204 Aff h) ?_;apply Aoe (DE W) (AV W ht)<;>assumption
theorem JW (W:Go.World) (ht:Tb W):Rj (DE W 309):=by unfold Rj;intros;refine lk (g:=309) rfl Tryz.func300 Ad8 ?_;apply Amt (DE W)<;>assumption
theorem Vo (W:Go.World) (ht:Tb W):UE (DE W 563):=by unfold UE;intros;refine DJ (R:=Body (DE W) La) (R':=DE W 563) (fun _ _ _ _ h=>lk (g:=563) rfl Tryz.func285 AcW h) ?_;apply Anw (DE W) (AV W ht) (EL W ht) (JW W ht)<;>assumption
theorem SX (W:Go.World) (ht:Tb W):Rf (DE W 561):=by unfold Rf;intros;refine DJ (R:=Body (DE W) JR) (R':=DE W 561) (fun _ _ _ _ h=>lk (g:=561) rfl Tryz.func199 AaZ h) ?_;apply Aku (DE W) (G5 W ht) (Vo W ht)<;>assumption
theorem NI (W:Go.World) (ht:Tb W):Oc (DE W 489):=by unfold Oc;intros;refine DJ (R:=Body (DE W) JK) (R':=DE W 489) (fun _ _ _ _ h=>lk (g:=489) rfl Tryz.func202 AbP h) ?_;apply AlM (DE W) (AV W ht) (EL W ht) (FR W ht)<;>assumption
theorem Nj (W:Go.World) (ht:Tb W):Oq (DE W 494):=by unfold Oq;intros;refine DJ (R:=Body (DE W) JQ) (R':=DE W 494) (fun _ _ _ _ h=>lk (g:=494) rfl Tryz.func286 AbS h) ?_;apply Ako (DE W) (AV W ht) (NI W ht)<;>assumption
theorem Te (W:Go.World) (ht:Tb W):Qp (DE W 493):=by unfold Qp;intros;refine DJ (R:=Body (DE W) JO) (R':=DE W 493) (fun _ _ _ _ h=>lk (g:=493) rfl Tryz.func200 Aad h) ?_;apply AkZ (DE W) (AV W ht) (Nj W ht)<;>assumption
theorem Vp (W:Go.World) (ht:Tb W):Uk (DE W 474):=by unfold Uk;intros;refine DJ (R:=Body (DE W) Lm) (R':=DE W 474) (fun _ _ _ _ h=>lk (g:=474) rfl Tryz.func43 AcS h) ?_;apply Anu (DE W) (AV W ht)<;>assumption
theorem Afc (W:Go.World) (ht:Tb W):ZJ (DE W 480):=by unfold ZJ;intros;refine DJ (R:=Body (DE W) GD) (R':=DE W 480) (fun _ _ _ _ h=>lk (g:=480) rfl Tryz.func214 SS h) ?_;apply Al8 (DE W) (AV W ht) (EL W ht) (G5 W ht)<;>assumption
theorem AfN (W:Go.World) (ht:Tb W):Afl (DE W 564):=by unfold Afl;intros;refine DJ (R:=Body (DE W) MG) (R':=DE W 564) (fun _ _ _ _ h=>lk (g:=564) rfl Tryz.func287 Ae4 h) ?_;apply AoQ (DE W) (AV W ht) (EL W ht) (Vo W ht)<;>assumption
theorem Aea (W:Go.World) (ht:Tb W):Zv (DE W 562):=by unfold Zv;intros;refine DJ (R:=Body (DE W) Lf) (R':=DE W 562) (fun _ _ _ _ h=>lk (g:=562) rfl Tryz.func203 Acy h) ?_;apply Ann (DE W) (AV W ht) (SX W ht) (Afc W ht) (AfN W ht)<;>assumption
theorem Tm (W:Go.World) (ht:Tb W):JL (DE W 560):=by unfold JL;intros;refine J7 (R:=Body (DE W) FW) (R':=DE W 560) (fun _ _ _ _ h=>lk (g:=560) rfl Tryz.func109 Sq h) ?_;apply ZW (DE W) (Kt W ht) (SX W ht) (Te W ht) (G5 W ht) (NI W ht) (Vp W ht) (Aea W ht) (EL W ht)<;>assumption
theorem CU (W:Go.World) (ht:Tb W):Vf (DE W 71):=by unfold Vf;intros;refine lk (g:=71) rfl Tryz.func164 AhD ?_;apply Aqt (DE W)<;>assumption
theorem Cn (W:Go.World) (ht:Tb W):Dr (DE W 208):=by unfold Dr;intros;refine lk (g:=208) rfl Tryz.func332 TA ?_;apply AaQ (DE W) (CU W ht)<;>assumption
theorem PO (W:Go.World) (ht:Tb W):RN (DE W 217):=by unfold RN;intros;refine lk (g:=217) rfl Tryz.func341 Aci ?_;apply Am2 (DE W) (CU W ht)<;>assumption
theorem G9 (W:Go.World) (ht:Tb W):JX (DE W 312):=by unfold JX;intros;refine lk (g:=312) rfl Tryz.func351 AaG ?_;apply Ai0 (DE W) (CU W ht) (PO W ht) (JW W ht)<;>assumption
theorem EQ (W:Go.World) (ht:Tb W):Gr (DE W 285):=by unfold Gr;intros;refine lk (g:=285) rfl Tryz.func288 AbU ?_;apply Aip (DE W) (Cn W ht) (G9 W ht)<;>assumption
theorem UL (W:Go.World) (ht:Tb W):UX (DE W 308):=by unfold UX;intros;refine lk (g:=308) rfl Tryz.func298 AcP ?_;apply AkD (DE W)<;>assumption
theorem FN (W:Go.World) (ht:Tb W):UQ (DE W 166):=by unfold UQ;intros;refine lk (g:=166) rfl Tryz.func277 Ae8 ?_;apply AoO (DE W)<;>assumption
theorem Td (W:Go.World) (ht:Tb W):QD (DE W 331):=by unfold QD;intros;refine lk (g:=331) rfl Tryz.func358 Aab ?_;apply AiG (DE W) (FN W ht)<;>assumption
theorem U6 (W:Go.World) (ht:Tb W):U5 (DE W 311):=by unfold U5;intros;refine lk (g:=311) rfl Tryz.func353 AbB ?_;apply Ak8 (DE W) (UL W ht) (Td W ht)<;>assumption
theorem SQ (W:Go.World) (ht:Tb W):Q9 (DE W 301):=by unfold Q9;intros;refine lk (g:=301) rfl Tryz.func290 Zq ?_;apply Ah2 (DE W) (U6 W ht)<;>assumption
theorem Q0 (W:Go.World) (ht:Tb W):XD (DE W 152):=by unfold XD;intros;refine lk (g:=152) rfl Tryz.func264 AeC ?_;apply AnQ (DE W) (CU W ht) (PO W ht)<;>assumption
theorem Acw (W:Go.World) (ht:Tb W):Vm (DE W 258):=by unfold Vm;intros;refine lk (g:=258) rfl Tryz.func356 Aae ?_;apply Ai4 (DE W) (Q0 W ht) (EQ W ht) (FN W ht) (CU W ht)<;>assumption
theorem IB (W:Go.World) (ht:Tb W):Jj (DE W 286):=by unfold Jj;intros;refine lk (g:=286) rfl Tryz.func292 YC ?_;apply Ahg (DE W) (EQ W ht) (SQ W ht) (Acw W ht)<;>assumption
theorem Ul (W:Go.World) (ht:Tb W):Uu (DE W 355):=by unfold Uu;intros;refine lk (g:=355) rfl Tryz.func417 XE ?_;apply Aer (DE W)<;>assumption
theorem Vi (W:Go.World) (ht:Tb W):VY (DE W 356):=by unfold VY;intros;refine lk (g:=356) rfl Tryz.func418 WI ?_;apply Ad1 (DE W) (Ul W ht)<;>assumption
theorem Aal (W:Go.World) (ht:Tb W):R7 (DE W 328):=by unfold R7;intros;refine lk (g:=328) rfl Tryz.func352 TR ?_;apply Aby (DE W) (Ul W ht) (Vi W ht)<;>assumption
theorem UR (W:Go.World) (ht:Tb W):Ld (DE W 300):=by unfold Ld;intros;refine lk (g:=300) rfl Tryz.func289 Tq ?_;apply ZX (DE W) (IB W ht) (Aal W ht)<;>assumption
theorem Oi (W:Go.World) (ht:Tb W):JZ (DE W 256):=by unfold JZ;intros;refine lk (g:=256) rfl Tryz.func413 UW ?_;apply Ac8 (DE W)<;>assumption
theorem Ol (W:Go.World) (ht:Tb W):J4 (DE W 260):=by unfold J4;intros;refine lk (g:=260) rfl Tryz.func416 Vl ?_;apply AcL (DE W) (Cn W ht) (Oi W ht) (IB W ht)<;>assumption
theorem T9 (W:Go.World) (ht:Tb W):JH (DE W 222):=by unfold JH;intros;refine lk (g:=222) rfl Tryz.func346 Sg ?_;apply Zm (DE W) (Cn W ht) (Ol W ht)<;>assumption
theorem AaM (W:Go.World) (ht:Tb W):AfF (DE W 223):=by unfold AfF;intros;refine lk (g:=223) rfl Tryz.func299 AbI ?_;apply AlH (DE W) (FN W ht)<;>assumption
theorem AbX (W:Go.World) (ht:Tb W):R6 (DE W 329):=by unfold R6;intros;refine lk (g:=329) rfl Tryz.func355 YW ?_;apply Ago (DE W) (G9 W ht) (Ol W ht) (Oi W ht) (IB W ht) (Vi W ht)<;>assumption
theorem YQ (W:Go.World) (ht:Tb W):Po (DE W 330):=by unfold Po;intros;refine lk (g:=330) rfl Tryz.func354 Xn ?_;apply Aeu (DE W) (EQ W ht) (FN W ht)<;>assumption
theorem ZV (W:Go.World) (ht:Tb W):RQ (DE W 302):=by unfold RQ;intros;refine lk (g:=302) rfl Tryz.func291 QL ?_;apply Agl (DE W) (EQ W ht) (T9 W ht) (AaM W ht) (AbX W ht) (YQ W ht)<;>assumption
theorem Aa4 (W:Go.World) (ht:Tb W):Rs (DE W 280):=by unfold Rs;intros;refine lk (g:=280) rfl Tryz.func205 YV ?_;apply Agh (DE W) (EQ W ht) (UR W ht) (SQ W ht) (ZV W ht)<;>assumption
theorem Abg (W:Go.World) (ht:Tb W):Rz (DE W 224):=by unfold Rz;intros;refine lk (g:=224) rfl Tryz.func347 YR ?_;apply AgF (DE W) (FN W ht)<;>assumption
theorem FO (W:Go.World) (ht:Tb W):FQ (DE W 168):=by unfold FQ;intros;refine lk (g:=168) rfl Tryz.func279 VL ?_;apply Acp (DE W) (Abg W ht) (Cn W ht)<;>assumption
theorem Jg (W:Go.World) (ht:Tb W):Ib (DE W 250):=by unfold Ib;intros;refine lk (g:=250) rfl Tryz.func359 UD ?_;apply Ach (DE W) (CU W ht)<;>assumption
theorem UG (W:Go.World) (ht:Tb W):Lv (DE W 332):=by unfold Lv;intros;refine lk (g:=332) rfl Tryz.func357 Tj ?_;apply Aak (DE W) (Jg W ht)<;>assumption
theorem Ad2 (W:Go.World) (ht:Tb W):Zx (DE W 303):=by unfold Zx;intros;refine lk (g:=303) rfl Tryz.func293 Sl ?_;apply AkQ (DE W) (FO W ht) (EQ W ht) (Td W ht) (UG W ht)<;>assumption
theorem Rn (W:Go.World) (ht:Tb W):NR (DE W 333):=by unfold NR;intros;refine lk (g:=333) rfl Tryz.func360 Yx ?_;apply AfA (DE W) (CU W ht) (G9 W ht)<;>assumption
theorem Zn (W:Go.World) (ht:Tb W):PY (DE W 304):=by unfold PY;intros;refine lk (g:=304) rfl Tryz.func294 Wv ?_;apply Ae5 (DE W) (JW W ht) (Jg W ht) (EQ W ht) (Rn W ht) (FN W ht)<;>assumption
theorem NN (W:Go.World) (ht:Tb W):Kg (DE W 337):=by unfold Kg;intros;refine lk (g:=337) rfl Tryz.func364 Vt ?_;apply AcG (DE W) (G9 W ht)<;>assumption
theorem WC (W:Go.World) (ht:Tb W):MV (DE W 305):=by unfold MV;intros;refine lk (g:=305) rfl Tryz.func296 Uq ?_;apply Acl (DE W) (EQ W ht) (NN W ht)<;>assumption
theorem Vs (W:Go.World) (ht:Tb W):Lb (DE W 306):=by unfold Lb;intros;refine lk (g:=306) rfl Tryz.func297 TG ?_;apply Ab1 (DE W) (Rn W ht) (NN W ht)<;>assumption
theorem Q6 (W:Go.World) (ht:Tb W):Oe (DE W 210):=by unfold Oe;intros;refine lk (g:=210) rfl Tryz.func334 VO ?_;apply Aht (DE W) (CU W ht)<;>assumption
theorem S9 (W:Go.World) (ht:Tb W):Qq (DE W 334):=by unfold Qq;intros;refine lk (g:=334) rfl Tryz.func361 Sz ?_;apply Aiq (DE W) (PO W ht)<;>assumption
theorem Ady (W:Go.World) (ht:Tb W):AnK (DE W 339):=by unfold AnK;intros;refine lk (g:=339) rfl Tryz.func451 Aji ?_;apply Aqz (DE W) (CU W ht)<;>assumption
theorem TN (W:Go.World) (ht:Tb W):AdJ (DE W 338):=by unfold AdJ;intros;refine lk (g:=338) rfl Tryz.func419 Agq ?_;apply AoU (DE W) (Ady W ht)<;>assumption
theorem Yr (W:Go.World) (ht:Tb W):OV (DE W 335):=by unfold OV;intros;refine lk (g:=335) rfl Tryz.func363 Qf ?_;apply Ae2 (DE W) (S9 W ht) (TN W ht)<;>assumption
theorem Af5 (W:Go.World) (ht:Tb W):AeA (DE W 336):=by unfold AeA;intros;refine lk (g:=336) rfl Tryz.func362 WH ?_;apply AnE (DE W) (TN W ht)<;>assumption
theorem Ae9 (W:Go.World) (ht:Tb W):ZE (DE W 307):=by unfold ZE;intros;refine lk (g:=307) rfl Tryz.func295 Yd ?_;apply Ak1 (DE W) (Q6 W ht) (S9 W ht) (CU W ht) (Yr W ht) (Af5 W ht)<;>assumption
theorem AbT (W:Go.World) (ht:Tb W):RY (DE W 281):=by unfold RY;intros;refine lk (g:=281) rfl Tryz.func206 Y8 ?_;apply AgV (DE W) (IB W ht) (Ad2 W ht) (Zn W ht) (WC W ht) (Vs W ht) (Ae9 W ht) (UL W ht)<;>assumption
theorem Ab8 (W:Go.World) (ht:Tb W):UC (DE W 282):=by unfold UC;intros;refine lk (g:=282) rfl Tryz.func207 Abz ?_;apply AiW (DE W) (AaM W ht) (JW W ht) (CU W ht)<;>assumption
theorem AbW (W:Go.World) (ht:Tb W):AfC (DE W 252):=by unfold AfC;intros;refine lk (g:=252) rfl Tryz.func110 AfR ?_;apply AoD (DE W) (Aa4 W ht) (AbT W ht) (Ab8 W ht)<;>assumption
theorem Qi (W:Go.World) (ht:Tb W):Gz (DE W 556):=by unfold Gz;intros;refine J7 (R:=Body (DE W) Fa) (R':=DE W 556) (fun _ _ _ _ h=>lk (g:=556) rfl Tryz.func36 Pf h) ?_;apply Us (DE W) (Kt W ht) (Tm W ht) (Vp W ht) (AbW W ht)<;>assumption
theorem OG (W:Go.World) (ht:Tb W):Gn (DE W 551):=by unfold Gn;intros;refine J7 (R:=Body (DE W) EK) (R':=DE W 551) (fun _ _ _ _ h=>lk (g:=551) rfl Tryz.func8 Ov h) ?_;apply TV (DE W) (Qi W ht)<;>assumption
theorem YP (W:Go.World) (ht:Tb W):EB (DE W 185):=AmX (k:=111) (b:=1) (W:=W) rfl ApV (Amj ApV ht) rfl ht (fun n h0 h1 w h=>Tryz.strconv_Itoa n h0 h1 w h)
theorem Fq (W:Go.World) (ht:Tb W):EB (DE W 120):=by unfold EB;intros;refine lk (g:=120) rfl Tryz.func37 Xu ?_;apply AeF (DE W) (YP W ht)<;>assumption
theorem AhP (W:Go.World) (ht:Tb W):Ane (DE W 241):=AnU (k:=112) rfl (fun a c sep w=>Tryz.strings_Join_none a c sep w) (fun bk o c xs sep w h1 h2 h3 h4 h5=>Tryz.strings_Join bk o c xs sep w h1 h2 h3 h4 h5)
theorem I4 (W:Go.World) (ht:Tb W):MJ (DE W 187):=by unfold MJ;intros;refine lk (g:=187) rfl Tryz.func38 AcA ?_;apply AnL (DE W) (Fq W ht) (AhP W ht)<;>assumption
theorem NM (W:Go.World) (ht:Tb W):J5 (DE W 192):=by unfold J5;intros;refine lk (g:=192) rfl Tryz.func10 UU ?_;apply Ac2 (DE W) (Fq W ht) (I4 W ht)<;>assumption
theorem TI (W:Go.World) (ht:Tb W):JM (DE W 126):=by unfold JM;intros;refine lk (g:=126) rfl Tryz.func9 SE ?_;apply YH (DE W) (Fq W ht) (I4 W ht) (NM W ht)<;>assumption
theorem AaR (W:Go.World) (ht:Tb W):Rv (DE W 487):=by unfold Rv;intros;refine DJ (R:=Body (DE W) Ga) (R':=DE W 487) (fun _ _ _ _ h=>lk (g:=487) rfl Tryz.func212 Qv h) ?_;apply Ajc (DE W) (AV W ht) (FR W ht)<;>assumption
theorem Ac4 (W:Go.World) (ht:Tb W):V4 (DE W 483):=by unfold V4;intros;refine DJ (R:=Body (DE W) Lg) (R':=DE W 483) (fun _ _ _ _ h=>lk (g:=483) rfl Tryz.func113 Ac6 h) ?_;apply Ak6 (DE W) (AV W ht) (EL W ht) (AaR W ht)<;>assumption
theorem SH (W:Go.World) (ht:Tb W):Im (DE W 557):=by unfold Im;intros;refine J7 (R:=Body (DE W) FK) (R':=DE W 557) (fun _ _ _ _ h=>lk (g:=557) rfl Tryz.func39 Qx h) ?_;apply Yl (DE W) (Kt W ht) (Ac4 W ht)<;>assumption
theorem NQ (W:Go.World) (ht:Tb W):FU (DE W 552):=by unfold FU;intros;refine J7 (R:=Body (DE W) Ez) (R':=DE W 552) (fun _ _ _ _ h=>lk (g:=552) rfl Tryz.func11 Nt h) ?_;apply Sn (DE W) (SH W ht)<;>assumption
theorem K3 (W:Go.World) (ht:Tb W):Gy (DE W 199):=by unfold Gy;intros;refine lk (g:=199) rfl Tryz.func12 Qr ?_;apply WS (DE W) (Fq W ht) (I4 W ht)<;>assumption
theorem Ta (W:Go.World) (ht:Tb W):QI (DE W 488):=by unfold QI;intros;refine DJ (R:=Body (DE W) JU) (R':=DE W 488) (fun _ _ _ _ h=>lk (g:=488) rfl Tryz.func213 Abp h) ?_;apply AkA (DE W) (AV W ht) (EL W ht) (G5 W ht) (Te W ht) (FR W ht)<;>assumption
theorem Ac9 (W:Go.World) (ht:Tb W):U9 (DE W 480):=by unfold U9;intros;refine DJ (R:=Body (DE W) GD) (R':=DE W 480) (fun _ _ _ _ h=>lk (g:=480) rfl Tryz.func214 SS h) ?_;apply Ake (DE W) (AV W ht) (EL W ht) (G5 W ht)<;>assumption
theorem AeN (W:Go.World) (ht:Tb W):ZI (DE W 491):=by unfold ZI;intros;refine DJ (R:=Body (DE W) Ll) (R':=DE W 491) (fun _ _ _ _ h=>lk (g:=491) rfl Tryz.func215 Acd h) ?_;apply AnI (DE W) (AV W ht) (EL W ht) (Nj W ht)<;>assumption
theorem AcV (W:Go.World) (ht:Tb W):VX (DE W 482):=by unfold VX;intros;refine DJ (R:=Body (DE W) Lc) (R':=DE W 482) (fun _ _ _ _ h=>lk (g:=482) rfl Tryz.func114 AcQ h) ?_;apply Alc (DE W) (AV W ht) (EL W ht) (Ta W ht) (Ac9 W ht) (AeN W ht)<;>assumption
theorem Qy (W:Go.World) (ht:Tb W):Hw (DE W 558):=by unfold Hw;intros;refine J7 (R:=Body (DE W) Fx) (R':=DE W 558) (fun _ _ _ _ h=>lk (g:=558) rfl Tryz.func40 Qd h) ?_;apply Ws (DE W) (Kt W ht) (AcV W ht)<;>assumption
theorem Sj (W:Go.World) (ht:Tb W):Ik (DE W 553):=by unfold Ik;intros;refine J7 (R:=Body (DE W) FH) (R':=DE W 553) (fun _ _ _ _ h=>lk (g:=553) rfl Tryz.func14 QN h) ?_;apply Zh (DE W) (Qy W ht)<;>assumption
theorem Ou (W:Go.World) (ht:Tb W):Kb (DE W 122):=by unfold Kb;intros;refine lk (g:=122) rfl Tryz.func15 VS ?_;apply Acs (DE W) (I4 W ht)<;>assumption
theorem YU (W:Go.World) (ht:Tb W):Pm (DE W 118):=by unfold Pm;intros;refine lk (g:=118) rfl Tryz.func13 Wi ?_;apply AeL (DE W) (Fq W ht) (Ou W ht)<;>assumption
theorem Ace (W:Go.World) (ht:Tb W):Uy (DE W 487):=by unfold Uy;intros;refine DJ (R:=Body (DE W) Ga) (R':=DE W 487) (fun _ _ _ _ h=>lk (g:=487) rfl Tryz.func212 Qv h) ?_;apply AkN (DE W) (AV W ht) (FR W ht)<;>assumption
theorem Yq (W:Go.World) (ht:Tb W):MF (DE W 65):=by unfold MF;intros;refine lk (g:=65) rfl Tryz.func158 AcC ?_;apply Anh (DE W)<;>assumption
theorem Mh (W:Go.World) (ht:Tb W):Je (DE W 66):=by unfold Je;intros;refine lk (g:=66) rfl Tryz.func159 Abm ?_;apply Alw (DE W)<;>assumption
theorem SK (W:Go.World) (ht:Tb W):NY (DE W 67):=by unfold NY;intros;refine lk (g:=67) rfl Tryz.func160 Wy ?_;apply Af8 (DE W)<;>assumption
theorem CP (W:Go.World) (ht:Tb W):EF (DE W 22):=by unfold EF;intros;refine lk (g:=22) rfl Tryz.func80 Abw ?_;apply Aka (DE W) (Yq W ht) (Mh W ht) (SK W ht)<;>assumption
theorem Jl (W:Go.World) (ht:Tb W):Ij (DE W 207):=by unfold Ij;intros;refine lk (g:=207) rfl Tryz.func331 UH ?_;apply Ac1 (DE W) (CU W ht) (Jg W ht) (Q0 W ht) (Cn W ht)<;>assumption
theorem AcO (W:Go.World) (ht:Tb W):VF (DE W 209):=by unfold VF;intros;refine lk (g:=209) rfl Tryz.func333 Ab2 ?_;apply Aiw (DE W) (CU W ht)<;>assumption
theorem Fs (W:Go.World) (ht:Tb W):FX (DE W 145):=by unfold FX;intros;refine lk (g:=145) rfl Tryz.func257 Xx ?_;apply AeT (DE W) (CU W ht)<;>assumption
theorem V5 (W:Go.World) (ht:Tb W):Q8 (DE W 95):=by unfold Q8;intros;refine lk (g:=95) rfl Tryz.func189 AbG ?_;apply AhN (DE W)<;>assumption
theorem Aa2 (W:Go.World) (ht:Tb W):RP (DE W 211):=by unfold RP;intros;refine lk (g:=211) rfl Tryz.func335 Ym ?_;apply AhG (DE W) (FO W ht) (Cn W ht)<;>assumption
theorem AcU (W:Go.World) (ht:Tb W):U3 (DE W 141):=by unfold U3;intros;refine lk (g:=141) rfl Tryz.func253 Z7 ?_;apply Aij (DE W) (Jl W ht) (Cn W ht) (AcO W ht) (Q6 W ht) (Fs W ht) (FN W ht) (V5 W ht) (Aa2 W ht) (CU W ht)<;>assumption
theorem AcH (W:Go.World) (ht:Tb W):RJ (DE W 70):=by unfold RJ;intros;refine lk (g:=70) rfl Tryz.func162 YS ?_;apply Afw (DE W) (CP W ht) (AcU W ht)<;>assumption
theorem ZQ (W:Go.World) (ht:Tb W):RU (DE W 479):=by unfold RU;intros;refine DJ (R:=Body (DE W) I5) (R':=DE W 479) (fun _ _ _ _ h=>lk (g:=479) rfl Tryz.func115 Yn h) ?_;apply Aio (DE W) (AV W ht) (FR W ht) (Ace W ht) (Ta W ht) (NI W ht) (AcH W ht)<;>assumption
theorem AbK (W:Go.World) (ht:Tb W):Sc (DE W 492):=by unfold Sc;intros;refine DJ (R:=Body (DE W) Il) (R':=DE W 492) (fun _ _ _ _ h=>lk (g:=492) rfl Tryz.func217 Y4 h) ?_;apply AiD (DE W) (AV W ht) (Nj W ht)<;>assumption
theorem Za (W:Go.World) (ht:Tb W):O9 (DE W 484):=by unfold O9;intros;refine DJ (R:=Body (DE W) Hq) (R':=DE W 484) (fun _ _ _ _ h=>lk (g:=484) rfl Tryz.func117 WL h) ?_;apply Af0 (DE W) (AV W ht) (AbK W ht)<;>assumption
theorem ZN (W:Go.World) (ht:Tb W):Afz (DE W 215):=by unfold Afz;intros;refine lk (g:=215) rfl Tryz.func339 AiH ?_;apply ApW (DE W)<;>assumption
theorem AhX (W:Go.World) (ht:Tb W):Ajq (DE W 253):=by unfold Ajq;intros;refine lk (g:=253) rfl Tryz.func410 AiP ?_;apply AqQ (DE W)<;>assumption
theorem Aiu (W:Go.World) (ht:Tb W):AjP (DE W 212):=by unfold AjP;intros;refine lk (g:=212) rfl Tryz.func337 ZP ?_;apply Akx (DE W) (ZN W ht) (AhX W ht)<;>assumption
theorem AaB (W:Go.World) (ht:Tb W):Ahf (DE W 313):=by unfold Ahf;intros;refine lk (g:=313) rfl Tryz.func473 Aco ?_;apply AoV (DE W) (TN W ht) (Ady W ht)<;>assumption
theorem Yo (W:Go.World) (ht:Tb W):O4 (DE W 310):=by unfold O4;intros;refine lk (g:=310) rfl Tryz.func472 WE ?_;apply Aev (DE W) (AaB W ht)<;>assumption
theorem YT (W:Go.World) (ht:Tb W):O8 (DE W 283):=by unfold O8;intros;refine lk (g:=283) rfl Tryz.func449 Xa ?_;apply Ad4 (DE W) (Yo W ht) (U6 W ht) (G9 W ht) (JW W ht) (AaB W ht)<;>assumption
theorem AcJ (W:Go.World) (ht:Tb W):U7 (DE W 251):=by unfold U7;intros;refine lk (g:=251) rfl Tryz.func409 AaI ?_;apply AhY (DE W) (Jl W ht) (YT W ht)<;>assumption
theorem AcZ (W:Go.World) (ht:Tb W):Uj (DE W 213):=by unfold Uj;intros;refine lk (g:=213) rfl Tryz.func336 AbV ?_;apply AiM (DE W) (Jl W ht) (AcJ W ht) (AbW W ht)<;>assumption
theorem AeZ (W:Go.World) (ht:Tb W):ZL (DE W 142):=by unfold ZL;intros;refine lk (g:=142) rfl Tryz.func254 Ab7 ?_;apply Akz (DE W) (CU W ht) (Aiu W ht) (AcZ W ht)<;>assumption
theorem Ac3 (W:Go.World) (ht:Tb W):Ui (DE W 284):=by unfold Ui;intros;refine lk (g:=284) rfl Tryz.func450 AaT ?_;apply Ajf (DE W) (CU W ht)<;>assumption
theorem Acz (W:Go.World) (ht:Tb W):V3 (DE W 254):=by unfold V3;intros;refine lk (g:=254) rfl Tryz.func411 Abr ?_;apply AhR (DE W) (Fs W ht) (CU W ht) (Ac3 W ht)<;>assumption
theorem Aay (W:Go.World) (ht:Tb W):Af6 (DE W 214):=by unfold Af6;intros;refine lk (g:=214) rfl Tryz.func338 AhI ?_;apply AoJ (DE W) (Acz W ht)<;>assumption
theorem Acm (W:Go.World) (ht:Tb W):Vw (DE W 143):=by unfold Vw;intros;refine lk (g:=143) rfl Tryz.func255 Aa3 ?_;apply AhV (DE W) (CU W ht) (Aay W ht) (FN W ht)<;>assumption
theorem Rk (W:Go.World) (ht:Tb W):NV (DE W 155):=by unfold NV;intros;refine lk (g:=155) rfl Tryz.func267 Y1 ?_;apply Af7 (DE W) (FN W ht)<;>assumption
theorem Zd (W:Go.World) (ht:Tb W):PN (DE W 144):=by unfold PN;intros;refine lk (g:=144) rfl Tryz.func256 Wp ?_;apply Aep (DE W) (Rk W ht)<;>assumption
theorem Adb (W:Go.World) (ht:Tb W):RZ (DE W 72):=by unfold RZ;intros;refine lk (g:=72) rfl Tryz.func165 YE ?_;apply Ahi (DE W) (CP W ht) (CU W ht) (AeZ W ht) (Acm W ht) (SK W ht) (Zd W ht)<;>assumption
theorem Oy (W:Go.World) (ht:Tb W):J3 (DE W 146):=by unfold J3;intros;refine lk (g:=146) rfl Tryz.func258 VA ?_;apply Acf (DE W) (CP W ht) (Fs W ht) (Aay W ht) (FR W ht) (ZN W ht)<;>assumption
theorem Aav (W:Go.World) (ht:Tb W):OT (DE W 74):=by unfold OT;intros;refine lk (g:=74) rfl Tryz.func167 Xv ?_;apply AeP (DE W) (CP W ht) (Fs W ht) (Oy W ht)<;>assumption
theorem Abj (W:Go.World) (ht:Tb W):RH (DE W 156):=by unfold RH;intros;refine lk (g:=156) rfl Tryz.func268 Zi ?_;apply Agg (DE W) (CU W ht)<;>assumption
theorem AaD (W:Go.World) (ht:Tb W):Pq (DE W 82):=by unfold Pq;intros;refine lk (g:=82) rfl Tryz.func176 XG ?_;apply Aem (DE W) (Rk W ht) (Abj W ht)<;>assumption
theorem YN (W:Go.World) (ht:Tb W):PX (DE W 147):=by unfold PX;intros;refine lk (g:=147) rfl Tryz.func259 V9 ?_;apply Afn (DE W) (Mh W ht) (Fs W ht)<;>assumption
theorem YO (W:Go.World) (ht:Tb W):Pj (DE W 148):=by unfold Pj;intros;refine lk (g:=148) rfl Tryz.func260 WZ ?_;apply AeV (DE W) (Mh W ht) (Fs W ht)<;>assumption
theorem Jt (W:Go.World) (ht:Tb W):Ic (DE W 167):=by unfold Ic;intros;refine lk (g:=167) rfl Tryz.func278 Un ?_;apply Ad0 (DE W)<;>assumption
theorem TS (W:Go.World) (ht:Tb W):JG (DE W 149):=by unfold JG;intros;refine lk (g:=149) rfl Tryz.func261 Sm ?_;apply YG (DE W) (CP W ht) (Jt W ht) (FO W ht)<;>assumption
theorem AaU (W:Go.World) (ht:Tb W):Pk (DE W 75):=by unfold Pk;intros;refine lk (g:=75) rfl Tryz.func168 WA ?_;apply AeE (DE W) (CP W ht) (AaD W ht) (YN W ht) (Oy W ht) (YO W ht) (TS W ht)<;>assumption
theorem AcY (W:Go.World) (ht:Tb W):Ry (DE W 96):=by unfold Ry;intros;refine lk (g:=96) rfl Tryz.func188 YL ?_;apply Ahm (DE W) (FO W ht) (Jt W ht)<;>assumption
theorem AgS (W:Go.World) (ht:Tb W):Ae1 (DE W 255):=by unfold Ae1;intros;refine lk (g:=255) rfl Tryz.func412 Ae6 ?_;apply Anj (DE W) (FO W ht)<;>assumption
theorem YX (W:Go.World) (ht:Tb W):PG (DE W 216):=by unfold PG;intros;refine lk (g:=216) rfl Tryz.func340 Wj ?_;apply Ae7 (DE W) (Cn W ht) (FN W ht) (CU W ht) (AcY W ht) (AgS W ht)<;>assumption
theorem Sk (W:Go.World) (ht:Tb W):IG (DE W 150):=by unfold IG;intros;refine lk (g:=150) rfl Tryz.func262 Ro ?_;apply Xt (DE W) (YX W ht) (Jt W ht)<;>assumption
theorem Yw (W:Go.World) (ht:Tb W):MZ (DE W 76):=by unfold MZ;intros;refine lk (g:=76) rfl Tryz.func169 Vx ?_;apply AcI (DE W) (CP W ht) (V5 W ht) (Sk W ht)<;>assumption
theorem Xg (W:Go.World) (ht:Tb W):MH (DE W 151):=by unfold MH;intros;refine lk (g:=151) rfl Tryz.func263 Vr ?_;apply Ac5 (DE W) (Cn W ht) (CU W ht) (FN W ht) (FR W ht)<;>assumption
theorem YZ (W:Go.World) (ht:Tb W):MI (DE W 77):=by unfold MI;intros;refine lk (g:=77) rfl Tryz.func170 UA ?_;apply Ac0 (DE W) (CP W ht) (Xg W ht)<;>assumption
theorem Aef (W:Go.World) (ht:Tb W):UJ (DE W 78):=by unfold UJ;intros;refine lk (g:=78) rfl Tryz.func171 AaA ?_;apply AiB (DE W) (CP W ht) (CU W ht) (Q0 W ht)<;>assumption
theorem Aar (W:Go.World) (ht:Tb W):Pv (DE W 79):=by unfold Pv;intros;refine lk (g:=79) rfl Tryz.func172 XC ?_;apply Aez (DE W) (CP W ht) (CU W ht)<;>assumption
theorem Ada (W:Go.World) (ht:Tb W):RL (DE W 80):=by unfold RL;intros;refine lk (g:=80) rfl Tryz.func173 Y3 ?_;apply AfW (DE W) (CP W ht) (CU W ht)<;>assumption
theorem Ye (W:Go.World) (ht:Tb W):MS (DE W 27):=by unfold MS;intros;refine lk (g:=27) rfl Tryz.func85 UY ?_;apply Adc (DE W) (CP W ht) (Adb W ht) (Aav W ht) (AaU W ht) (Yw W ht) (YZ W ht) (Aef W ht) (Aar W ht) (Ada W ht)<;>assumption
theorem Yg (W:Go.World) (ht:Tb W):P6 (DE W 485):=by unfold P6;intros;refine lk (g:=485) rfl Tryz.func116 WB ?_;apply Aey (DE W) (CP W ht) (Ye W ht)<;>assumption
theorem Aam (W:Go.World) (ht:Tb W):Rt (DE W 477):=by unfold Rt;intros;refine DJ (R:=Body (DE W) IK) (R':=DE W 477) (fun _ _ _ _ h=>lk (g:=477) rfl Tryz.func42 Yf h) ?_;apply Ais (DE W) (ZQ W ht) (Za W ht) (Yg W ht)<;>assumption
theorem Qh (W:Go.World) (ht:Tb W):GI (DE W 554):=by unfold GI;intros;refine J7 (R:=Body (DE W) Ff) (R':=DE W 554) (fun _ _ _ _ h=>lk (g:=554) rfl Tryz.func17 OQ h) ?_;apply Uw (DE W) (Kt W ht) (Aam W ht)<;>assumption
theorem VH (W:Go.World) (ht:Tb W):K9 (DE W 132):=by unfold K9;intros;refine lk (g:=132) rfl Tryz.func16 Ug ?_;apply Abo (DE W) (Fq W ht) (I4 W ht) (K3 W ht)<;>assumption
theorem Acj (W:Go.World) (ht:Tb W):Abx (DE W 550):=by unfold Abx;intros;refine lk (g:=550) rfl Tryz.func3 Abd ?_;apply AkG (DE W) (Akh W ht) (OG W ht) (TI W ht) (NM W ht) (NQ W ht) (K3 W ht) (Sj W ht) (YU W ht) (Ou W ht) (Qh W ht) (VH W ht)<;>assumption
theorem den (W:Go.World) (ht:Tb W) (av:List V) (h:AbC av):DE W 550 av [] (B true) []:=by
 obtain⟨bs,hb,rfl⟩:=Asx h
 exact Acj W ht bs hb
end Go.Eng.T
