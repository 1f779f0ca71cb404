/- Own work: part 47 of the proof of FnExactDialOf. -/
import Derived.Test.YtdgpapmladligaaGreatP46
import Derived.Test.YtdgpapmladligaaGreatProg
import Derived.KernelRfl
set_option linter.unusedSimpArgs false
set_option linter.unusedVariables false
namespace Go.Eng.T
open Go.Proofs
set_option maxRecDepth 100000
def AAP:List (Option Nat):=[none,none,none,none,none,none,none,some 41,some 43,none,none,some 45,some 48,none,none,none,some 97,some 98,some 99,some 100,some 101,none,none,none,none,none,none,none,none,none,none,some 104,some 105,some 106,some 107,some 108,none,none,none,none,none,none,none,none,none,none,none,some 109,some 110,some 111,some 112,some 113,some 117,some 118,some 119,some 120,some 121,some 124,none,none,none,none,some 164,some 165,some 166,none,none,none,none,none,none,some 79,none,none,none,none,none,none,none,none,none,none,none,none,none,none,none,none,none,none,none,none,none,none,none,none,none,none,some 169,some 170,some 171,none,none,none,none,none,none,none,none,none,none,none,none,none,some 70,none,none,some 90,none,none,none,none,none,none,none,none,none,none,none,none,none,none,none,none,some 172,some 47,some 173,some 178,none,some 211,some 212,none,some 46,none,none,none,none,none,none,none,none,none,some 152,none,none,none,none,none,none,none,none,none,none,none,none,none,some 76,none,some 103,none,some 213,some 214,none,some 32,none,none,none,none,none,none,none,none,none,some 149,none,none,none,none,some 69,some 61,some 20,none,none,none,none,none,none,none,none,none,none,none,none,none,some 215,some 116,some 251,some 71,some 72,none,some 74,none,some 115,some 114,none,some 176,none,some 197,none,none,none,none,some 163,some 162,some 168,none,some 252,some 91,none,none,none,none,some 81,some 145,none,some 64,some 65,none,none,some 68,some 161,none,some 82,none,none,none,none,none,none,some 253,some 151,some 175,some 174,some 177,none,none,some 250,none,some 299,none,some 210,some 160,some 159,none,none,none,some 195,some 194,none,some 143,some 147,some 148,some 86,some 209,some 208,none,none,none,none,some 196,some 216,some 217,some 218,some 219,none,some 254,some 249,some 204,some 205,some 206,some 207,none,some 232,some 238,some 203,some 233,some 234,some 236,some 235,none,some 255,some 256,some 257,some 258,some 259,some 261,some 262,some 260,some 263,some 264,some 265,some 266,some 267,some 268,some 237,some 239,some 240,some 241,some 242,some 243,some 244,some 245,some 247,some 246,some 248,some 278,some 280,some 279,some 300,some 302,some 301,some 304,some 303,some 305,some 306,some 308,some 307,some 309,some 311,some 310,some 281,some 283,some 282,some 284,none,some 287,some 288,some 286,some 289,some 290,some 291,some 293,some 292,some 296,some 295,some 332,some 333,some 315,some 316,some 317,some 318,some 320,some 319,none,some 322,some 324,some 323,some 325,some 326,some 327,some 328,some 337,some 336,some 338,some 339,some 340,none,none,none,none,none,none,none,none,none,none,none,none,none,some 150,none,none,none,none,none,none,none,none,none,none,none,none,none,none,some 224,some 193,some 157,none,none,none,none,none,none,none,none,none,none,none,none,some 341,none,none,none,none,none,none,none,none,none,none,none,none,none,none,none,none,none,none,none,none,none,none,none,none,none,none,none,none,none,none,none,none,none,none,none,none,none,none,none,none,none,none,none,none,none,none,none,none,none,none,none,none,none,none,none,none,none,none,none,none,none,none,none,none,none,none,none,none,none,none,none,none,none,none,none,none,none,none,none,none,none,none,none,none,none,none,none,none,none,none,none,none,some 7,some 49,some 50,none,some 122,some 123,none,none,none,none,none,none,none,none,none,none,none,none,none,none,none,none,none,none,none,none,none,none,none,none]
def Af:Nat→Option FuncId:=fun g=>AAP.getD g none
theorem Apy:Tryz.prog.follows .mixedOrders=true:=by kernel_rfl
theorem hFl:AAP.all (fun o=>match o with | some f=>okF Tryz.prog f | none=>true)=true:=by kernel_rfl
theorem hF:∀g f,Af g=some f→okF Tryz.prog f=true:=by
 intro g f h
 have:=List.all_eq_true.1 hFl (some f) (by
  unfold Af at h
  rw[List.getD_eq_getElem?_getD]at h
  cases hg:AAP[g]? with
  | none=>simp[hg]at h
  | some o=>simp[hg]at h;subst h;exact List.mem_of_getElem? hg)
 exact this
abbrev G0:Gl:=⟨fun _=>False,fun _=>none⟩
abbrev DD:Dn:=Den Tryz.prog Af G0
theorem lk {g:Nat} {f:FuncId} {fn:Func} {st:List Tmp} {sf:BD} (hg:Af g=some f) (hfn:Tryz.prog.funcs[f]? =some fn) (hm:BL Tryz.prog Af st sf fn=true) {a:List V} {gi:List O} {r:V} {o:List O}
 (h:Body DD sf a gi r o):DD g a gi r o:=
 AwS Apy (fun _ _ _ _ _ h=>h) hF (fun id hid=>by rw[hg]at hid;cases hid;exact hfn) hm h
theorem AoC:BL Tryz.prog Af AlB Yx Tryz.f79=true:=by kernel_rfl
theorem AqK:BL Tryz.prog Af AoN AbC Tryz.f176=true:=by kernel_rfl
theorem ApS:BL Tryz.prog Af AoI AbT Tryz.f177=true:=by kernel_rfl
theorem AgA:BL Tryz.prog Af Aep QG Tryz.f115=true:=by kernel_rfl
theorem Y7:BL Tryz.prog Af XL LH Tryz.f151=true:=by kernel_rfl
theorem AiS:BL Tryz.prog Af Ag8 Ta Tryz.f197=true:=by kernel_rfl
theorem Aku:BL Tryz.prog Af AhR Vs Tryz.f152=true:=by kernel_rfl
theorem Yl:BL Tryz.prog Af Wj KP Tryz.f72=true:=by kernel_rfl
theorem Aaz:BL Tryz.prog Af X6 Ms Tryz.f71=true:=by kernel_rfl
theorem Aqn:BL Tryz.prog Af Ant Ab9 Tryz.f310=true:=by kernel_rfl
theorem AnZ:BL Tryz.prog Af AkS YA Tryz.f311=true:=by kernel_rfl
theorem Ai3:BL Tryz.prog Af Ahh TJ Tryz.f268=true:=by kernel_rfl
theorem Aca:BL Tryz.prog Af Zh Nr Tryz.f265=true:=by kernel_rfl
theorem Ait:BL Tryz.prog Af AgE Tq Tryz.f263=true:=by kernel_rfl
theorem Alg:BL Tryz.prog Af AiU Vf Tryz.f76=true:=by kernel_rfl
theorem AgL:BL Tryz.prog Af Aev QZ Tryz.f304=true:=by kernel_rfl
theorem Ag7:BL Tryz.prog Af Ady QI Tryz.f266=true:=by kernel_rfl
theorem Alv:BL Tryz.prog Af AhU UG Tryz.f264=true:=by kernel_rfl
theorem Af8:BL Tryz.prog Af AdZ QJ Tryz.f267=true:=by kernel_rfl
theorem AbK:BL Tryz.prog Af Aag NI Tryz.f219=true:=by kernel_rfl
theorem AfS:BL Tryz.prog Af Ad8 QK Tryz.f175=true:=by kernel_rfl
theorem Afd:BL Tryz.prog Af Ade Q7 Tryz.f254=true:=by kernel_rfl
theorem AdU:BL Tryz.prog Af AbO PZ Tryz.f256=true:=by kernel_rfl
theorem Ae9:BL Tryz.prog Af Adl QX Tryz.f299=true:=by kernel_rfl
theorem Aei:BL Tryz.prog Af Abx PN Tryz.f249=true:=by kernel_rfl
theorem Abi:BL Tryz.prog Af Y8 Nz Tryz.f332=true:=by kernel_rfl
theorem AbS:BL Tryz.prog Af AaI ND Tryz.f333=true:=by kernel_rfl
theorem Yq:BL Tryz.prog Af WA KJ Tryz.f300=true:=by kernel_rfl
theorem Xt:BL Tryz.prog Af Wt Lc Tryz.f255=true:=by kernel_rfl
theorem Aan:BL Tryz.prog Af Xf Ma Tryz.f250=true:=by kernel_rfl
theorem ZA:BL Tryz.prog Af X3 MC Tryz.f210=true:=by kernel_rfl
theorem Wq:BL Tryz.prog Af Ut J5 Tryz.f163=true:=by kernel_rfl
theorem Ag4:BL Tryz.prog Af Ad9 QN Tryz.f162=true:=by kernel_rfl
theorem Adg:BL Tryz.prog Af AbZ O5 Tryz.f302=true:=by kernel_rfl
theorem Abv:BL Tryz.prog Af ZB Oa Tryz.f301=true:=by kernel_rfl
theorem Vt:BL Tryz.prog Af Uk Jg Tryz.f257=true:=by kernel_rfl
theorem Ad6:BL Tryz.prog Af Acv PO Tryz.f216=true:=by kernel_rfl
theorem Adk:BL Tryz.prog Af AbR PU Tryz.f168=true:=by kernel_rfl
theorem Zm:BL Tryz.prog Af Yf MG Tryz.f103=true:=by kernel_rfl
theorem Xy:BL Tryz.prog Af Wd Ll Tryz.f303=true:=by kernel_rfl
theorem V9:BL Tryz.prog Af Ve JP Tryz.f258=true:=by kernel_rfl
theorem Adq:BL Tryz.prog Af Acu O3 Tryz.f305=true:=by kernel_rfl
theorem Acj:BL Tryz.prog Af Aas NJ Tryz.f259=true:=by kernel_rfl
theorem Zl:BL Tryz.prog Af Xz LX Tryz.f309=true:=by kernel_rfl
theorem Aaj:BL Tryz.prog Af XM LJ Tryz.f261=true:=by kernel_rfl
theorem XE:BL Tryz.prog Af Wz KQ Tryz.f262=true:=by kernel_rfl
theorem YZ:BL Tryz.prog Af XV Mg Tryz.f74=true:=by kernel_rfl
theorem V5:BL Tryz.prog Af Uv J2 Tryz.f306=true:=by kernel_rfl
theorem Ul:BL Tryz.prog Af TU Ib Tryz.f308=true:=by kernel_rfl
theorem Aa5:BL Tryz.prog Af Aai Ns Tryz.f307=true:=by kernel_rfl
theorem Aez:BL Tryz.prog Af Abq PE Tryz.f260=true:=by kernel_rfl
theorem Ads:BL Tryz.prog Af AbA Ps Tryz.f217=true:=by kernel_rfl
theorem AfO:BL Tryz.prog Af Aeg Rb Tryz.f218=true:=by kernel_rfl
theorem AmB:BL Tryz.prog Af AlR XU Tryz.f174=true:=by kernel_rfl
theorem Afg:BL Tryz.prog Af Aek QM Tryz.f114=true:=by kernel_rfl
theorem AiC:BL Tryz.prog Af AgB Tn Tryz.f46=true:=by kernel_rfl
theorem AgP:BL Tryz.prog Af Adw Ra Tryz.f70=true:=by kernel_rfl
theorem Aio:BL Tryz.prog Af Ag1 Tf Tryz.f90=true:=by kernel_rfl
theorem Xu:BL Tryz.prog Af WG KD Tryz.f81=true:=by kernel_rfl
theorem V4:BL Tryz.prog Af UR JN Tryz.f195=true:=by kernel_rfl
theorem M8:BL Tryz.prog Af Mh Fa Tryz.f224=true:=by kernel_rfl
theorem Li:BL Tryz.prog Af Ku Et Tryz.f194=true:=by kernel_rfl
theorem Aax:BL Tryz.prog Af Yk LY Tryz.f145=true:=by kernel_rfl
theorem Ae7:BL Tryz.prog Af Adn Q5 Tryz.f64=true:=by kernel_rfl
theorem Aay:BL Tryz.prog Af Xd MF Tryz.f196=true:=by kernel_rfl
theorem Zw:BL Tryz.prog Af XJ LP Tryz.f147=true:=by kernel_rfl
theorem Al5:BL Tryz.prog Af AiK UB Tryz.f149=true:=by kernel_rfl
theorem Wu:BL Tryz.prog Af Vb JY Tryz.f148=true:=by kernel_rfl
theorem Ht:BL Tryz.prog Af Hl Dc Tryz.f157=true:=by kernel_rfl
theorem GI:BL Tryz.prog Af Gx CB Tryz.f86=true:=by kernel_rfl
theorem Y2:BL Tryz.prog Af XZ Mx Tryz.f68=true:=by kernel_rfl
theorem Y9:BL Tryz.prog Af XQ Mq Tryz.f291=true:=by kernel_rfl
theorem Ad5:BL Tryz.prog Af Ace PX Tryz.f235=true:=by kernel_rfl
theorem Ad0:BL Tryz.prog Af AbN Px Tryz.f242=true:=by kernel_rfl
theorem ApR:BL Tryz.prog Af AnN AaW Tryz.f295=true:=by kernel_rfl
theorem AmD:BL Tryz.prog Af Al0 Yo Tryz.f296=true:=by kernel_rfl
theorem AhX:BL Tryz.prog Af Ahg SK Tryz.f247=true:=by kernel_rfl
theorem Ab3:BL Tryz.prog Af Z9 Nk Tryz.f243=true:=by kernel_rfl
theorem Agq:BL Tryz.prog Af AdA Q8 Tryz.f293=true:=by kernel_rfl
theorem Hu:BL Tryz.prog Af Hf Df Tryz.f292=true:=by kernel_rfl
theorem AlQ:BL Tryz.prog Af AiB Uu Tryz.f245=true:=by kernel_rfl
theorem Ahw:BL Tryz.prog Af AdI Q9 Tryz.f244=true:=by kernel_rfl
theorem Y5:BL Tryz.prog Af Xk Md Tryz.f207=true:=by kernel_rfl
theorem Ahk:BL Tryz.prog Af AdN QW Tryz.f160=true:=by kernel_rfl
theorem Af1:BL Tryz.prog Af Aem Rh Tryz.f232=true:=by kernel_rfl
theorem AaZ:BL Tryz.prog Af Zd NC Tryz.f238=true:=by kernel_rfl
theorem Qc:BL Tryz.prog Af PS Gb Tryz.f150=true:=by kernel_rfl
theorem Ny:BL Tryz.prog Af Na Fq Tryz.f69=true:=by kernel_rfl
theorem AgT:BL Tryz.prog Af AdT QR Tryz.f280=true:=by kernel_rfl
theorem GL:BL Tryz.prog Af Gw CF Tryz.f279=true:=by kernel_rfl
theorem AlI:BL Tryz.prog Af AiE Vw Tryz.f233=true:=by kernel_rfl
theorem AaK:BL Tryz.prog Af ZV Nq Tryz.f236=true:=by kernel_rfl
theorem Agv:BL Tryz.prog Af AdC Q0 Tryz.f203=true:=by kernel_rfl
theorem Adt:BL Tryz.prog Af Acn PW Tryz.f208=true:=by kernel_rfl
theorem Qe:BL Tryz.prog Af PI Gd Tryz.f315=true:=by kernel_rfl
theorem Adf:BL Tryz.prog Af AbQ OY Tryz.f337=true:=by kernel_rfl
theorem Ew:BL Tryz.prog Af Eu Bj Tryz.f336=true:=by kernel_rfl
theorem AbF:BL Tryz.prog Af Zo NG Tryz.f316=true:=by kernel_rfl
theorem Yd:BL Tryz.prog Af Wo KH Tryz.f281=true:=by kernel_rfl
theorem X8:BL Tryz.prog Af Ww KU Tryz.f237=true:=by kernel_rfl
theorem Zp:BL Tryz.prog Af X0 LU Tryz.f209=true:=by kernel_rfl
theorem V3:BL Tryz.prog Af Vm JL Tryz.f161=true:=by kernel_rfl
theorem AhB:BL Tryz.prog Af Aeb Rm Tryz.f61=true:=by kernel_rfl
theorem Aam:BL Tryz.prog Af XH LK Tryz.f318=true:=by kernel_rfl
theorem AdD:BL Tryz.prog Af AaL OU Tryz.f283=true:=by kernel_rfl
theorem Xg:BL Tryz.prog Af WH KT Tryz.f317=true:=by kernel_rfl
theorem Acd:BL Tryz.prog Af Zx Nt Tryz.f282=true:=by kernel_rfl
theorem UE:BL Tryz.prog Af Uq I6 Tryz.f239=true:=by kernel_rfl
theorem Adu:BL Tryz.prog Af Ach Py Tryz.f204=true:=by kernel_rfl
theorem Aeq:BL Tryz.prog Af Aa8 P8 Tryz.f82=true:=by kernel_rfl
theorem ZW:BL Tryz.prog Af Yr LQ Tryz.f20=true:=by kernel_rfl
theorem Abt:BL Tryz.prog Af ZI N7 Tryz.f339=true:=by kernel_rfl
theorem Ag2:BL Tryz.prog Af AdG QS Tryz.f320=true:=by kernel_rfl
theorem UX:BL Tryz.prog Af Uh Jj Tryz.f338=true:=by kernel_rfl
theorem Yu:BL Tryz.prog Af WC La Tryz.f319=true:=by kernel_rfl
theorem Wh:BL Tryz.prog Af U9 JK Tryz.f284=true:=by kernel_rfl
theorem Ad1:BL Tryz.prog Af AaV OZ Tryz.f327=true:=by kernel_rfl
theorem Aih:BL Tryz.prog Af Aft Tp Tryz.f241=true:=by kernel_rfl
theorem Abu:BL Tryz.prog Af ZN NA Tryz.f328=true:=by kernel_rfl
theorem Aa7:BL Tryz.prog Af ZP NW Tryz.f289=true:=by kernel_rfl
theorem Zj:BL Tryz.prog Af XA Ml Tryz.f325=true:=by kernel_rfl
theorem OC:BL Tryz.prog Af NT FQ Tryz.f326=true:=by kernel_rfl
theorem Z8:BL Tryz.prog Af Xh ML Tryz.f287=true:=by kernel_rfl
theorem XR:BL Tryz.prog Af V6 KS Tryz.f288=true:=by kernel_rfl
theorem Aaf:BL Tryz.prog Af X9 MJ Tryz.f65=true:=by kernel_rfl
theorem Un:BL Tryz.prog Af SE H6 Tryz.f340=true:=by kernel_rfl
theorem Kt:BL Tryz.prog Af JV Ei Tryz.f193=true:=by kernel_rfl
theorem Jd:BL Tryz.prog Af IG DT Tryz.f143=true:=by kernel_rfl
theorem Wy:BL Tryz.prog Af U5 JS Tryz.f322=true:=by kernel_rfl
theorem Us:BL Tryz.prog Af SG HY Tryz.f324=true:=by kernel_rfl
theorem Abz:BL Tryz.prog Af Aae Nn Tryz.f323=true:=by kernel_rfl
theorem AdK:BL Tryz.prog Af Ab8 PV Tryz.f286=true:=by kernel_rfl
theorem Ab7:BL Tryz.prog Af Aad NQ Tryz.f290=true:=by kernel_rfl
theorem Ai5:BL Tryz.prog Af Ae6 TP Tryz.f240=true:=by kernel_rfl
theorem Ac4:BL Tryz.prog Af AbI P7 Tryz.f205=true:=by kernel_rfl
theorem Agt:BL Tryz.prog Af Aen QL Tryz.f206=true:=by kernel_rfl
theorem An1:BL Tryz.prog Af AkC Xl Tryz.f159=true:=by kernel_rfl
theorem Agn:BL Tryz.prog Af Aef QH Tryz.f91=true:=by kernel_rfl
theorem Ajj:BL Tryz.prog Af AfW TH Tryz.f32=true:=by kernel_rfl
theorem AiY:BL Tryz.prog Af Agh Sj Tryz.f97=true:=by kernel_rfl
theorem AkD:BL Tryz.prog Af Aic Ux Tryz.f251=true:=by kernel_rfl
theorem AhZ:BL Tryz.prog Af AfT SB Tryz.f211=true:=by kernel_rfl
theorem ZE:BL Tryz.prog Af XC Mc Tryz.f164=true:=by kernel_rfl
theorem Yj:BL Tryz.prog Af V7 Lp Tryz.f98=true:=by kernel_rfl
theorem Acs:BL Tryz.prog Af Zr N9 Tryz.f99=true:=by kernel_rfl
theorem Ah6:BL Tryz.prog Af Afp TY Tryz.f212=true:=by kernel_rfl
theorem Aey:BL Tryz.prog Af Abm Pv Tryz.f165=true:=by kernel_rfl
theorem AaR:BL Tryz.prog Af ZU NP Tryz.f100=true:=by kernel_rfl
theorem AdL:BL Tryz.prog Af Abd Pn Tryz.f166=true:=by kernel_rfl
theorem AaO:BL Tryz.prog Af Aav NE Tryz.f101=true:=by kernel_rfl
theorem Ahy:BL Tryz.prog Af Ad4 Rl Tryz.f41=true:=by kernel_rfl
theorem Ajf:BL Tryz.prog Af Ahs SX Tryz.f104=true:=by kernel_rfl
theorem Al8:BL Tryz.prog Af Aii Uz Tryz.f252=true:=by kernel_rfl
theorem AiL:BL Tryz.prog Af Agi SF Tryz.f213=true:=by kernel_rfl
theorem AaF:BL Tryz.prog Af Xr LV Tryz.f169=true:=by kernel_rfl
theorem YB:BL Tryz.prog Af V8 Lx Tryz.f105=true:=by kernel_rfl
theorem Aba:BL Tryz.prog Af YK NK Tryz.f106=true:=by kernel_rfl
theorem Ai2:BL Tryz.prog Af Agz Tt Tryz.f214=true:=by kernel_rfl
theorem Aeh:BL Tryz.prog Af Abp Po Tryz.f170=true:=by kernel_rfl
theorem AaM:BL Tryz.prog Af Y4 NH Tryz.f107=true:=by kernel_rfl
theorem Adm:BL Tryz.prog Af Abn PD Tryz.f171=true:=by kernel_rfl
theorem Acl:BL Tryz.prog Af Z6 NY Tryz.f108=true:=by kernel_rfl
theorem Ahi:BL Tryz.prog Af Aet Q6 Tryz.f43=true:=by kernel_rfl
theorem AhQ:BL Tryz.prog Af Ag0 TV Tryz.f109=true:=by kernel_rfl
theorem Ajc:BL Tryz.prog Af AgK Tz Tryz.f116=true:=by kernel_rfl
theorem Aea:BL Tryz.prog Af Aa3 O0 Tryz.f47=true:=by kernel_rfl
theorem Ak3:BL Tryz.prog Af Aja Vd Tryz.f253=true:=by kernel_rfl
theorem Ajd:BL Tryz.prog Af AhG TM Tryz.f215=true:=by kernel_rfl
theorem YO:BL Tryz.prog Af Yg MK Tryz.f172=true:=by kernel_rfl
theorem Yv:BL Tryz.prog Af Ws K4 Tryz.f110=true:=by kernel_rfl
theorem Ab6:BL Tryz.prog Af ZO NZ Tryz.f111=true:=by kernel_rfl
theorem AbG:BL Tryz.prog Af ZL N8 Tryz.f112=true:=by kernel_rfl
theorem Adp:BL Tryz.prog Af AaX O8 Tryz.f173=true:=by kernel_rfl
theorem Ab0:BL Tryz.prog Af YT Np Tryz.f113=true:=by kernel_rfl
theorem AfI:BL Tryz.prog Af AdR QE Tryz.f45=true:=by kernel_rfl
theorem Aes:BL Tryz.prog Af Acm Pk Tryz.f117=true:=by kernel_rfl
theorem AdS:BL Tryz.prog Af Aby O4 Tryz.f178=true:=by kernel_rfl
theorem U6:BL Tryz.prog Af Uj Jh Tryz.f118=true:=by kernel_rfl
theorem Xw:BL Tryz.prog Af Wl Lm Tryz.f119=true:=by kernel_rfl
theorem Ye:BL Tryz.prog Af Wm KV Tryz.f120=true:=by kernel_rfl
theorem Yt:BL Tryz.prog Af WE Kv Tryz.f121=true:=by kernel_rfl
theorem Ab1:BL Tryz.prog Af ZR Nu Tryz.f48=true:=by kernel_rfl
theorem Ac3:BL Tryz.prog Af AbY Pt Tryz.f122=true:=by kernel_rfl
theorem YL:BL Tryz.prog Af Yi Mt Tryz.f49=true:=by kernel_rfl
theorem AdO:BL Tryz.prog Af Abs Pq Tryz.f124=true:=by kernel_rfl
theorem Aee:BL Tryz.prog Af Ab4 O1 Tryz.f123=true:=by kernel_rfl
theorem Z4:BL Tryz.prog Af X7 L6 Tryz.f50=true:=by kernel_rfl
theorem UK:BL Tryz.prog Af Ur Jb Tryz.f7=true:=by kernel_rfl
theorem IW:WS (DD 71):=by unfold WS;intros;refine lk (g:=71) rfl Tryz.func79 AoC ?_;apply AAU _<;>assumption
theorem Aqa:Ar1 (DD 215):=by unfold Ar1;intros;refine lk (g:=215) rfl Tryz.func176 AqK ?_;apply ABO _<;>assumption
theorem Ape:Aq7 (DD 253):=by unfold Aq7;intros;refine lk (g:=253) rfl Tryz.func177 ApS ?_;apply ABN _<;>assumption
theorem Apn:ArP (DD 212):=by unfold ArP;intros;refine lk (g:=212) rfl Tryz.func115 AgA ?_;apply AsZ _ Aqa Ape<;>assumption
theorem MH:EW (DD 250):=by unfold EW;intros;refine lk (g:=250) rfl Tryz.func151 Y7 ?_;apply Ajl _ IW<;>assumption
theorem SL:VE (DD 217):=by unfold VE;intros;refine lk (g:=217) rfl Tryz.func197 AiS ?_;apply AvL _ IW<;>assumption
theorem AcA:QV (DD 152):=by unfold QV;intros;refine lk (g:=152) rfl Tryz.func152 Aku ?_;apply AwB _ IW SL<;>assumption
theorem F9:Cg (DD 208):=by unfold Cg;intros;refine lk (g:=208) rfl Tryz.func72 Yl ?_;apply Agg _ IW<;>assumption
theorem RL:Fu (DD 207):=by unfold Fu;intros;refine lk (g:=207) rfl Tryz.func71 Aaz ?_;apply Ah9 _ IW MH AcA F9<;>assumption
theorem AjR:Aig (DD 339):=by unfold Aig;intros;refine lk (g:=339) rfl Tryz.func310 Aqn ?_;apply ABt _ IW<;>assumption
theorem XI:Ua (DD 338):=by unfold Ua;intros;refine lk (g:=338) rfl Tryz.func311 AnZ ?_;apply AyU _ AjR<;>assumption
theorem Afj:WL (DD 313):=by unfold WL;intros;refine lk (g:=313) rfl Tryz.func268 Ai3 ?_;apply AyF _ XI AjR<;>assumption
theorem Ada:Ig (DD 310):=by unfold Ig;intros;refine lk (g:=310) rfl Tryz.func265 Aca ?_;apply Akm _ Afj<;>assumption
theorem ZF:JE (DD 308):=by unfold JE;intros;refine lk (g:=308) rfl Tryz.func263 Ait ?_;apply Asu _<;>assumption
theorem OH:Tk (DD 166):=by unfold Tk;intros;refine lk (g:=166) rfl Tryz.func76 Alg ?_;apply Azi _<;>assumption
theorem WR:K9 (DD 331):=by unfold K9;intros;refine lk (g:=331) rfl Tryz.func304 AgL ?_;apply Apb _ OH<;>assumption
theorem YF:MO (DD 311):=by unfold MO;intros;refine lk (g:=311) rfl Tryz.func266 Ag7 ?_;apply Asb _ ZF WR<;>assumption
theorem Qv:NN (DD 309):=by unfold NN;intros;refine lk (g:=309) rfl Tryz.func264 Alv ?_;apply Avo _<;>assumption
theorem Jo:Fb (DD 312):=by unfold Fb;intros;refine lk (g:=312) rfl Tryz.func267 Af8 ?_;apply AqA _ IW SL Qv<;>assumption
theorem Adb:Ip (DD 283):=by unfold Ip;intros;refine lk (g:=283) rfl Tryz.func219 AbK ?_;apply AkB _ Ada YF Jo Qv Afj<;>assumption
theorem AiW:MW (DD 251):=by unfold MW;intros;refine lk (g:=251) rfl Tryz.func175 AfS ?_;apply Aqm _ RL Adb<;>assumption
theorem FD:DL (DD 285):=by unfold DL;intros;refine lk (g:=285) rfl Tryz.func254 Afd ?_;apply Ap8 _ F9 Jo<;>assumption
theorem WZ:JC (DD 301):=by unfold JC;intros;refine lk (g:=301) rfl Tryz.func256 AdU ?_;apply Aq4 _ YF<;>assumption
theorem Aiw:M5 (DD 258):=by unfold M5;intros;refine lk (g:=258) rfl Tryz.func299 Ae9 ?_;apply ApZ _ AcA FD OH IW<;>assumption
theorem KY:E8 (DD 286):=by unfold E8;intros;refine lk (g:=286) rfl Tryz.func249 Aei ?_;apply AnY _ FD WZ Aiw<;>assumption
theorem Aak:Fg (DD 355):=by unfold Fg;intros;refine lk (g:=355) rfl Tryz.func332 Abi ?_;apply Ak2 _<;>assumption
theorem YW:Ol (DD 356):=by unfold Ol;intros;refine lk (g:=356) rfl Tryz.func333 AbS ?_;apply Ako _ Aak<;>assumption
theorem Agc:Kn (DD 328):=by unfold Kn;intros;refine lk (g:=328) rfl Tryz.func300 Yq ?_;apply Afw _ Aak YW<;>assumption
theorem Zf:Ff (DD 300):=by unfold Ff;intros;refine lk (g:=300) rfl Tryz.func255 Xt ?_;apply Afk _ KY Agc<;>assumption
theorem R7:FC (DD 256):=by unfold FC;intros;refine lk (g:=256) rfl Tryz.func250 Aan ?_;apply Aiq _<;>assumption
theorem Sc:F4 (DD 260):=by unfold F4;intros;refine lk (g:=260) rfl Tryz.func210 ZA ?_;apply Ah7 _ F9 R7 KY<;>assumption
theorem X5:FH (DD 222):=by unfold FH;intros;refine lk (g:=222) rfl Tryz.func163 Wq ?_;apply Adx _ F9 Sc<;>assumption
theorem AgZ:Ub (DD 223):=by unfold Ub;intros;refine lk (g:=223) rfl Tryz.func162 Ag4 ?_;apply Asi _ OH<;>assumption
theorem AhH:Ke (DD 329):=by unfold Ke;intros;refine lk (g:=329) rfl Tryz.func302 Adg ?_;apply Aou _ Jo Sc R7 KY YW<;>assumption
theorem Ac8:Ic (DD 330):=by unfold Ic;intros;refine lk (g:=330) rfl Tryz.func301 Abv ?_;apply Akp _ FD OH<;>assumption
theorem AgG:Kq (DD 302):=by unfold Kq;intros;refine lk (g:=302) rfl Tryz.func257 Vt ?_;apply Aop _ FD X5 AgZ AhH Ac8<;>assumption
theorem Ag5:Kl (DD 280):=by unfold Kl;intros;refine lk (g:=280) rfl Tryz.func216 Ad6 ?_;apply Anv _ FD Zf WZ AgG<;>assumption
theorem Af9:J9 (DD 224):=by unfold J9;intros;refine lk (g:=224) rfl Tryz.func168 Adk ?_;apply Anc _ OH<;>assumption
theorem Aa1:GA (DD 168):=by unfold GA;intros;refine lk (g:=168) rfl Tryz.func103 Zm ?_;apply Ai9 _ Af9 F9<;>assumption
theorem Aaq:F6 (DD 332):=by unfold F6;intros;refine lk (g:=332) rfl Tryz.func303 Xy ?_;apply AfR _ MH<;>assumption
theorem AkF:Qf (DD 303):=by unfold Qf;intros;refine lk (g:=303) rfl Tryz.func258 V9 ?_;apply As5 _ Aa1 FD WR Aaq<;>assumption
theorem U7:G7 (DD 333):=by unfold G7;intros;refine lk (g:=333) rfl Tryz.func305 Adq ?_;apply Am9 _ IW Jo<;>assumption
theorem Adz:Ih (DD 304):=by unfold Ih;intros;refine lk (g:=304) rfl Tryz.func259 Acj ?_;apply Akx _ Qv MH FD U7 OH<;>assumption
theorem RU:FI (DD 337):=by unfold FI;intros;refine lk (g:=337) rfl Tryz.func309 Zl ?_;apply AiN _ Jo<;>assumption
theorem Abw:Gz (DD 305):=by unfold Gz;intros;refine lk (g:=305) rfl Tryz.func261 Aaj ?_;apply Aiy _ FD RU<;>assumption
theorem Z5:F8 (DD 306):=by unfold F8;intros;refine lk (g:=306) rfl Tryz.func262 XE ?_;apply Afc _ U7 RU<;>assumption
theorem AgF:Kk (DD 210):=by unfold Kk;intros;refine lk (g:=210) rfl Tryz.func74 YZ ?_;apply AnM _ IW<;>assumption
theorem WV:Js (DD 334):=by unfold Js;intros;refine lk (g:=334) rfl Tryz.func306 V5 ?_;apply ApJ _ SL<;>assumption
theorem Aew:Il (DD 335):=by unfold Il;intros;refine lk (g:=335) rfl Tryz.func308 Ul ?_;apply AkL _ WV XI<;>assumption
theorem Anm:U2 (DD 336):=by unfold U2;intros;refine lk (g:=336) rfl Tryz.func307 Aa5 ?_;apply AvY _ XI<;>assumption
theorem AkY:OG (DD 307):=by unfold OG;intros;refine lk (g:=307) rfl Tryz.func260 Aez ?_;apply Aty _ AgF WV IW Aew Anm<;>assumption
theorem AfQ:Ko (DD 281):=by unfold Ko;intros;refine lk (g:=281) rfl Tryz.func217 Ads ?_;apply AoO _ KY AkF Adz Abw Z5 AkY ZF<;>assumption
theorem AiV:MR (DD 282):=by unfold MR;intros;refine lk (g:=282) rfl Tryz.func218 AfO ?_;apply Ap6 _ AgZ Qv IW<;>assumption
theorem ApF:AcE (DD 252):=by unfold AcE;intros;refine lk (g:=252) rfl Tryz.func174 AmB ?_;apply Azl _ Ag5 AfQ AiV<;>assumption
theorem AiH:Nc (DD 213):=by unfold Nc;intros;refine lk (g:=213) rfl Tryz.func114 Afg ?_;apply Aqu _ RL AiW ApF<;>assumption
theorem AkQ:Qw (DD 142):=by unfold Qw;intros;refine lk (g:=142) rfl Tryz.func46 AiC ?_;apply AtY _ IW Apn AiH<;>assumption
theorem Gs:WS (DD 114):=by unfold WS;intros;refine lk (g:=114) rfl Tryz.func70 AgP ?_;apply AsO _<;>assumption
theorem Alx:AeC (DD 117):=by unfold AeC;intros;refine lk (g:=117) rfl Tryz.func90 Aio ?_;apply Axk _ Gs<;>assumption
theorem Ga:Cg (DD 232):=by unfold Cg;intros;refine lk (g:=232) rfl Tryz.func81 Xu ?_;apply Agx _ Gs<;>assumption
theorem ZC:Ot (DD 266):=by unfold Ot;intros;refine lk (g:=266) rfl Tryz.func195 V4 ?_;apply Ai7 _ Gs<;>assumption
theorem Ad7:Tx DD (DD 404):=by unfold Tx;intros;refine lk (g:=404) rfl Tryz.func224 M8 ?_;apply AnL _<;>assumption
theorem Pz:JD DD (DD 267):=by unfold JD;intros;refine lk (g:=267) rfl Tryz.func194 Li ?_;apply Agr _ Ad7<;>assumption
theorem IQ:Ie (DD 233):=by unfold Ie;intros;refine lk (g:=233) rfl Tryz.func145 Aax ?_;apply Alq _ ZC Pz<;>assumption
theorem AiX:Aao (DD 235):=by unfold Aao;intros;refine lk (g:=235) rfl Tryz.func64 Ae7 ?_;apply AqR _ IQ<;>assumption
theorem RS:EW (DD 279):=by unfold EW;intros;refine lk (g:=279) rfl Tryz.func196 Aay ?_;apply Ah5 _ Gs<;>assumption
theorem Ro:M6 (DD 270):=by unfold M6;intros;refine lk (g:=270) rfl Tryz.func147 Zw ?_;apply AiO _ RS Pz<;>assumption
theorem AcO:QV (DD 183):=by unfold QV;intros;refine lk (g:=183) rfl Tryz.func149 Al5 ?_;apply Awa _ Gs IQ<;>assumption
theorem YN:OA (DD 271):=by unfold OA;intros;refine lk (g:=271) rfl Tryz.func148 Wu ?_;apply Aif _ AcO<;>assumption
theorem Xv:MP DD (DD 406):=by unfold MP;intros;refine lk (g:=406) rfl Tryz.func157 Ht ?_;apply Afz _<;>assumption
theorem Um:IX DD (DD 272):=by unfold IX;intros;refine lk (g:=272) rfl Tryz.func86 GI ?_;apply Aaw _ Xv<;>assumption
theorem R4:Fu (DD 239):=by unfold Fu;intros;refine lk (g:=239) rfl Tryz.func68 Y2 ?_;apply Aia _ Ga AiX Ro YN Um Gs<;>assumption
theorem Aiv:Zb (DD 350):=by unfold Zb;intros;refine lk (g:=350) rfl Tryz.func291 Y9 ?_;apply Aos _<;>assumption
theorem Ir:J8 DD (DD 298):=by unfold J8;intros;refine lk (g:=298) rfl Tryz.func235 Ad5 ?_;apply Apk _<;>assumption
theorem Zg:MO (DD 318):=by unfold MO;intros;refine lk (g:=318) rfl Tryz.func242 Ad0 ?_;apply ApC _ Aiv Ir<;>assumption
theorem AjH:Aig (DD 354):=by unfold Aig;intros;refine lk (g:=354) rfl Tryz.func295 ApR ?_;apply AAN _ Gs<;>assumption
theorem Xo:Ua (DD 353):=by unfold Ua;intros;refine lk (g:=353) rfl Tryz.func296 AmD ?_;apply Az9 _ AjH<;>assumption
theorem AhK:WL (DD 322):=by unfold WL;intros;refine lk (g:=322) rfl Tryz.func247 AhX ?_;apply Azs _ Xo AjH<;>assumption
theorem Ac5:Ig (DD 319):=by unfold Ig;intros;refine lk (g:=319) rfl Tryz.func243 Ab3 ?_;apply AlX _ AhK<;>assumption
theorem Alt:Ae2 (DD 351):=by unfold Ae2;intros;refine lk (g:=351) rfl Tryz.func293 Agq ?_;apply Aw4 _<;>assumption
theorem PK:Jr DD (DD 352):=by unfold Jr;intros;refine lk (g:=352) rfl Tryz.func292 Hu ?_;apply Agp _<;>assumption
theorem AcI:NN (DD 321):=by unfold NN;intros;refine lk (g:=321) rfl Tryz.func245 AlQ ?_;apply Awk _ Alt PK<;>assumption
theorem Jv:Fb (DD 320):=by unfold Fb;intros;refine lk (g:=320) rfl Tryz.func244 Ahw ?_;apply Apq _ Gs AcI IQ<;>assumption
theorem Akk:AlU (DD 323):=Aok (k:=246) rfl (fun b o c w=>Go.Eng.Ins.ADp b o c w) (fun b o c v w h=>Go.Eng.Ins.ADr b o c v w h) (fun b o c v w h=>Go.Eng.Ins.ADl b o c v w h)
theorem Akl:Al4 (DD 324):=AmQ (k:=248) rfl Go.Eng.Ins.ADk
theorem Adv:Ip (DD 290):=by unfold Ip;intros;refine lk (g:=290) rfl Tryz.func207 Y5 ?_;apply AkX _ Zg Ac5 Jv AcI AhK Akk Akl<;>assumption
theorem Ajo:MW (DD 261):=by unfold MW;intros;refine lk (g:=261) rfl Tryz.func160 Ahk ?_;apply ApH _ R4 Adv<;>assumption
theorem Gf:DL (DD 292):=by unfold DL;intros;refine lk (g:=292) rfl Tryz.func232 Af1 ?_;apply Aqr _ Ga Jv<;>assumption
theorem WY:JC (DD 293):=by unfold JC;intros;refine lk (g:=293) rfl Tryz.func238 AaZ ?_;apply AnG _ Zg<;>assumption
theorem Atc:ABg (DD 325):=Azc (k:=278) rfl (fun b off n c zs w h1 h2 h3 h4=>Tryz.slices_Max_int b off n c zs w h1 h2 h3 h4)
theorem AnW:Ame (DD 389):=by unfold Ame;intros;refine lk (g:=389) rfl Tryz.func150 Qc ?_;apply AzP _<;>assumption
theorem L8:Tk (DD 188):=by unfold Tk;intros;refine lk (g:=188) rfl Tryz.func69 Ny ?_;apply Ap2 _ AnW<;>assumption
theorem Amd:AeG (DD 326):=by unfold AeG;intros;refine lk (g:=326) rfl Tryz.func280 AgT ?_;apply Av9 _ L8 Gs<;>assumption
theorem Ui:IL DD (DD 327):=by unfold IL;intros;refine lk (g:=327) rfl Tryz.func279 GL ?_;apply Aal _ PK<;>assumption
theorem Aoa:AlE (DD 295):=by unfold AlE;intros;refine lk (g:=295) rfl Tryz.func233 AlI ?_;apply AyH _ Atc Amd Ui<;>assumption
theorem Aoy:Aqw (DD 296):=Atv (k:=234) rfl (fun n c w=>Tryz.slices_Clone_int_nil n c w) (fun a c w=>Tryz.slices_Clone_int_zero a c w) (fun b off n c zs w h1 h2 h3=>Tryz.slices_Clone_int b off n c zs w h1 h2 h3)
theorem AfY:VO (DD 297):=by unfold VO;intros;refine lk (g:=297) rfl Tryz.func236 AaK ?_;apply ApE _ L8<;>assumption
theorem Ai4:M5 (DD 294):=by unfold M5;intros;refine lk (g:=294) rfl Tryz.func203 Agv ?_;apply ApO _ AcO Gf Aoa Aoy AfY Ir<;>assumption
theorem KE:E8 (DD 274):=by unfold E8;intros;refine lk (g:=274) rfl Tryz.func208 Adt ?_;apply Ane _ Gf WY Ai4<;>assumption
theorem Aah:Fg (DD 357):=by unfold Fg;intros;refine lk (g:=357) rfl Tryz.func315 Qe ?_;apply AwL _<;>assumption
theorem AgR:RA (DD 371):=by unfold RA;intros;refine lk (g:=371) rfl Tryz.func337 Adf ?_;apply Apt _ Aah<;>assumption
theorem AdB:Tj DD (DD 372):=by unfold Tj;intros;refine lk (g:=372) rfl Tryz.func336 Ew ?_;apply Aom _<;>assumption
theorem Ak7:Ol (DD 358):=by unfold Ol;intros;refine lk (g:=358) rfl Tryz.func316 AbF ?_;apply AlZ _ AgR AdB<;>assumption
theorem AhE:Kn (DD 340):=by unfold Kn;intros;refine lk (g:=340) rfl Tryz.func281 Yd ?_;apply AgX _ Aah Ak7<;>assumption
theorem Qk:Ff (DD 314):=by unfold Ff;intros;refine lk (g:=314) rfl Tryz.func237 X8 ?_;apply Afh _ KE AhE<;>assumption
theorem RY:FC (DD 273):=by unfold FC;intros;refine lk (g:=273) rfl Tryz.func209 Zp ?_;apply AiG _<;>assumption
theorem X4:FH (DD 240):=by unfold FH;intros;refine lk (g:=240) rfl Tryz.func161 V3 ?_;apply Ac9 _ Ga RY KE<;>assumption
theorem Sw:Ub (DD 189):=by unfold Ub;intros;refine lk (g:=189) rfl Tryz.func61 AhB ?_;apply AqF _ L8<;>assumption
theorem Aci:F4 (DD 360):=by unfold F4;intros;refine lk (g:=360) rfl Tryz.func318 Aam ?_;apply AhW _ Ga RY KE<;>assumption
theorem AgM:Ke (DD 341):=by unfold Ke;intros;refine lk (g:=341) rfl Tryz.func283 AdD ?_;apply Aoo _ Jv Aci Qk<;>assumption
theorem AbH:Qq (DD 359):=by unfold Qq;intros;refine lk (g:=359) rfl Tryz.func317 Xg ?_;apply Al6 _ L8<;>assumption
theorem Ac1:Ic (DD 342):=by unfold Ic;intros;refine lk (g:=342) rfl Tryz.func282 Acd ?_;apply AlG _ Gf Sw AbH Ir<;>assumption
theorem AfE:Kq (DD 315):=by unfold Kq;intros;refine lk (g:=315) rfl Tryz.func239 UE ?_;apply An4 _ X4 Sw AgM Ac1<;>assumption
theorem Ahx:Kl (DD 287):=by unfold Kl;intros;refine lk (g:=287) rfl Tryz.func204 Adu ?_;apply AmP _ Gf Qk WY AfE<;>assumption
theorem Agy:J9 (DD 242):=by unfold J9;intros;refine lk (g:=242) rfl Tryz.func82 Aeq ?_;apply AnX _ L8<;>assumption
theorem Aa0:GA (DD 190):=by unfold GA;intros;refine lk (g:=190) rfl Tryz.func20 ZW ?_;apply Aip _ Agy Ga<;>assumption
theorem AfC:VZ (DD 374):=by unfold VZ;intros;refine lk (g:=374) rfl Tryz.func339 Abt ?_;apply Ap5 _ L8<;>assumption
theorem Aij:K9 (DD 361):=by unfold K9;intros;refine lk (g:=361) rfl Tryz.func320 Ag2 ?_;apply Aqx _ AfC Ir<;>assumption
theorem Adh:SN (DD 373):=by unfold SN;intros;refine lk (g:=373) rfl Tryz.func338 UX ?_;apply AgD _ RS<;>assumption
theorem AaH:F6 (DD 362):=by unfold F6;intros;refine lk (g:=362) rfl Tryz.func319 Yu ?_;apply Afr _ Adh Ir<;>assumption
theorem Amf:Qf (DD 343):=by unfold Qf;intros;refine lk (g:=343) rfl Tryz.func284 Wh ?_;apply Asm _ Aa0 Gf Aij AaH<;>assumption
theorem Vx:G7 (DD 369):=by unfold G7;intros;refine lk (g:=369) rfl Tryz.func327 Ad1 ?_;apply AnD _ Gs Jv<;>assumption
theorem Oj:JE (DD 317):=by unfold JE;intros;refine lk (g:=317) rfl Tryz.func241 Aih ?_;apply AtO _<;>assumption
theorem AdW:SV (DD 370):=by unfold SV;intros;refine lk (g:=370) rfl Tryz.func328 Abu ?_;apply Akr _ Oj Ro<;>assumption
theorem Ac0:Ih (DD 348):=by unfold Ih;intros;refine lk (g:=348) rfl Tryz.func289 Aa7 ?_;apply Aky _ Gf Vx L8 Oj Sw AdW<;>assumption
theorem RI:FI (DD 367):=by unfold FI;intros;refine lk (g:=367) rfl Tryz.func325 Zj ?_;apply Ai1 _ Jv<;>assumption
theorem Aqs:Awf (DD 419):=Asz (k:=341) rfl (fun w=>Go.Eng.Ins.ACz w) (fun n w h1 h2=>Go.Eng.Ins.ACH n w h1 h2)
theorem AaB:Zt (DD 368):=by unfold Zt;intros;refine lk (g:=368) rfl Tryz.func326 OC ?_;apply Axu _ Aqs<;>assumption
theorem AaQ:Gz (DD 345):=by unfold Gz;intros;refine lk (g:=345) rfl Tryz.func287 Z8 ?_;apply Aik _ Gf RI AaB<;>assumption
theorem Y1:F8 (DD 346):=by unfold F8;intros;refine lk (g:=346) rfl Tryz.func288 XR ?_;apply Afv _ Vx RI<;>assumption
theorem Agd:Kk (DD 236):=by unfold Kk;intros;refine lk (g:=236) rfl Tryz.func65 Aaf ?_;apply Anw _ Gs<;>assumption
theorem AgN:VY (DD 375):=by unfold VY;intros;refine lk (g:=375) rfl Tryz.func340 Un ?_;apply ApU _ IQ<;>assumption
theorem WK:KL DD (DD 405):=by unfold KL;intros;refine lk (g:=405) rfl Tryz.func193 Kt ?_;apply Ac7 _<;>assumption
theorem Sy:Hq DD (DD 269):=by unfold Hq;intros;refine lk (g:=269) rfl Tryz.func143 Jd ?_;apply XF _ WK<;>assumption
theorem WX:Js (DD 364):=by unfold Js;intros;refine lk (g:=364) rfl Tryz.func322 Wy ?_;apply Api _ AgN Sy<;>assumption
theorem Ado:Il (DD 365):=by unfold Il;intros;refine lk (g:=365) rfl Tryz.func324 Us ?_;apply Akq _ WX Xo<;>assumption
theorem AnK:U2 (DD 366):=by unfold U2;intros;refine lk (g:=366) rfl Tryz.func323 Abz ?_;apply Axd _ AaB Xo<;>assumption
theorem AaA:OG (DD 347):=by unfold OG;intros;refine lk (g:=347) rfl Tryz.func286 AdK ?_;apply Ats _ Agd WX Gs Ado AnK<;>assumption
theorem AdP:TD (DD 349):=by unfold TD;intros;refine lk (g:=349) rfl Tryz.func290 Ab7 ?_;apply AlP _ AaA<;>assumption
theorem AnS:Amc (DD 316):=by unfold Amc;intros;refine lk (g:=316) rfl Tryz.func240 Ai5 ?_;apply AyL _ Amf Ac0 AaQ Y1 AaA AdP Oj<;>assumption
theorem Ahu:Ko (DD 288):=by unfold Ko;intros;refine lk (g:=288) rfl Tryz.func205 Ac4 ?_;apply Amw _ KE AnS<;>assumption
theorem Aix:MR (DD 289):=by unfold MR;intros;refine lk (g:=289) rfl Tryz.func206 Agt ?_;apply Aqv _ Sw Oj Gs<;>assumption
theorem ApI:AcE (DD 262):=by unfold AcE;intros;refine lk (g:=262) rfl Tryz.func159 An1 ?_;apply Az6 _ Ahx Ahu Aix<;>assumption
theorem AiF:Nc (DD 227):=by unfold Nc;intros;refine lk (g:=227) rfl Tryz.func91 Agn ?_;apply Apo _ R4 Ajo ApI<;>assumption
theorem Alu:Qw (DD 173):=by unfold Qw;intros;refine lk (g:=173) rfl Tryz.func32 Ajj ?_;apply Atg _ Alx AiF<;>assumption
theorem J6:Oo (DD 16):=by unfold Oo;intros;refine lk (g:=16) rfl Tryz.func97 AiY ?_;apply Aw8 _<;>assumption
theorem AmM:Alj (DD 206):=by unfold Alj;intros;refine lk (g:=206) rfl Tryz.func251 AkD ?_;apply Azd _ J6<;>assumption
theorem AkO:AeF (DD 139):=by unfold AeF;intros;refine lk (g:=139) rfl Tryz.func211 AhZ ?_;apply Avj _ AmM<;>assumption
theorem Adj:Qj (DD 62):=by unfold Qj;intros;refine lk (g:=62) rfl Tryz.func164 ZE ?_;apply AkI _ J6 AkO<;>assumption
theorem AaN:OE (DD 17):=by unfold OE;intros;refine lk (g:=17) rfl Tryz.func98 Yj ?_;apply AiJ _ Adj<;>assumption
theorem Agu:TL (DD 18):=by unfold TL;intros;refine lk (g:=18) rfl Tryz.func99 Acs ?_;apply Am7 _ J6<;>assumption
theorem Ale:AeJ (DD 140):=by unfold AeJ;intros;refine lk (g:=140) rfl Tryz.func212 Ah6 ?_;apply Aw9 _ J6<;>assumption
theorem Xa:Rw (DD 63):=by unfold Rw;intros;refine lk (g:=63) rfl Tryz.func165 Aey ?_;apply ApK _ Ale J6<;>assumption
theorem Ahj:Ti (DD 19):=by unfold Ti;intros;refine lk (g:=19) rfl Tryz.func100 AaR ?_;apply An8 _ Xa<;>assumption
theorem Ajh:VF (DD 64):=by unfold VF;intros;refine lk (g:=64) rfl Tryz.func166 AdL ?_;apply AqU _ Xa<;>assumption
theorem Ags:Sv (DD 20):=by unfold Sv;intros;refine lk (g:=20) rfl Tryz.func101 AaO ?_;apply Anz _ Ajh<;>assumption
theorem Am1:AaC (DD 7):=by unfold AaC;intros;refine lk (g:=7) rfl Tryz.func41 Ahy ?_;apply Atr _ J6 AaN Agu Ahj Ags<;>assumption
theorem J7:OB (DD 31):=by unfold OB;intros;refine lk (g:=31) rfl Tryz.func104 Ajf ?_;apply AwO _<;>assumption
theorem AoL:Ak1 (DD 226):=by unfold Ak1;intros;refine lk (g:=226) rfl Tryz.func252 Al8 ?_;apply AyY _ J7<;>assumption
theorem AlL:AeV (DD 170):=by unfold AeV;intros;refine lk (g:=170) rfl Tryz.func213 AiL ?_;apply AvF _ AoL<;>assumption
theorem Adi:QB (DD 98):=by unfold QB;intros;refine lk (g:=98) rfl Tryz.func169 AaF ?_;apply Ama _ J7 AlL<;>assumption
theorem Abc:Ov (DD 32):=by unfold Ov;intros;refine lk (g:=32) rfl Tryz.func105 YB ?_;apply Air _ Adi<;>assumption
theorem AhJ:Sm (DD 33):=by unfold Sm;intros;refine lk (g:=33) rfl Tryz.func106 Aba ?_;apply AoH _ J7<;>assumption
theorem Ak5:AeB (DD 171):=by unfold AeB;intros;refine lk (g:=171) rfl Tryz.func214 Ai2 ?_;apply AvT _ J7<;>assumption
theorem WN:Rn (DD 99):=by unfold Rn;intros;refine lk (g:=99) rfl Tryz.func170 Aeh ?_;apply Ap4 _ Ak5 J7<;>assumption
theorem Agf:Sq (DD 34):=by unfold Sq;intros;refine lk (g:=34) rfl Tryz.func107 AaM ?_;apply AmT _ WN<;>assumption
theorem AgO:VI (DD 100):=by unfold VI;intros;refine lk (g:=100) rfl Tryz.func171 Adm ?_;apply Ap7 _ WN<;>assumption
theorem AfP:Tg (DD 35):=by unfold Tg;intros;refine lk (g:=35) rfl Tryz.func108 Acl ?_;apply Aoz _ AgO<;>assumption
theorem Anj:YI (DD 8):=by unfold YI;intros;refine lk (g:=8) rfl Tryz.func43 Ahi ?_;apply AtF _ J7 Abc AhJ Agf AfP<;>assumption
theorem Kc:Fg (DD 47):=by unfold Fg;intros;refine lk (g:=47) rfl Tryz.func109 AhQ ?_;apply Avw _<;>assumption
theorem AlO:AeR (DD 205):=by unfold AeR;intros;refine lk (g:=205) rfl Tryz.func116 Ajc ?_;apply Axb _ Kc<;>assumption
theorem PL:OO (DD 135):=by unfold OO;intros;refine lk (g:=135) rfl Tryz.func47 Aea ?_;apply AqW _ AlO Kc<;>assumption
theorem AmJ:Alw (DD 249):=by unfold Alw;intros;refine lk (g:=249) rfl Tryz.func253 Ak3 ?_;apply AyE _ Kc<;>assumption
theorem Amh:AeU (DD 204):=by unfold AeU;intros;refine lk (g:=204) rfl Tryz.func215 Ajd ?_;apply Axp _ AmJ<;>assumption
theorem Abk:Qn (DD 134):=by unfold Qn;intros;refine lk (g:=134) rfl Tryz.func172 YO ?_;apply Akt _ Kc Amh<;>assumption
theorem Acf:Om (DD 48):=by unfold Om;intros;refine lk (g:=48) rfl Tryz.func110 Yv ?_;apply Ai0 _ Abk<;>assumption
theorem AfU:SA (DD 49):=by unfold SA;intros;refine lk (g:=49) rfl Tryz.func111 Ab6 ?_;apply AnT _ Kc<;>assumption
theorem AfG:Tv (DD 50):=by unfold Tv;intros;refine lk (g:=50) rfl Tryz.func112 AbG ?_;apply AoA _ PL<;>assumption
theorem Ahq:VB (DD 136):=by unfold VB;intros;refine lk (g:=136) rfl Tryz.func173 Adp ?_;apply ApM _ PL<;>assumption
theorem AgV:TS (DD 51):=by unfold TS;intros;refine lk (g:=51) rfl Tryz.func113 Ab0 ?_;apply Aoc _ Ahq<;>assumption
theorem AlW:Zn (DD 11):=by unfold Zn;intros;refine lk (g:=11) rfl Tryz.func45 AfI ?_;apply AtW _ Kc Acf AfU AfG AgV<;>assumption
theorem Fz:Gr (DD 52):=by unfold Gr;intros;refine lk (g:=52) rfl Tryz.func117 Aes ?_;apply AqG _<;>assumption
theorem Aht:Vz (DD 137):=by unfold Vz;intros;refine lk (g:=137) rfl Tryz.func178 AdS ?_;apply Aqk _ Fz<;>assumption
theorem Xi:K7 (DD 53):=by unfold K7;intros;refine lk (g:=53) rfl Tryz.func118 U6 ?_;apply AdV _ Fz Aht<;>assumption
theorem AbU:Og (DD 54):=by unfold Og;intros;refine lk (g:=54) rfl Tryz.func119 Xw ?_;apply Ah3 _ Fz<;>assumption
theorem Acr:Oz (DD 55):=by unfold Oz;intros;refine lk (g:=55) rfl Tryz.func120 Ye ?_;apply AhV _ Fz<;>assumption
theorem AaT:Oi (DD 56):=by unfold Oi;intros;refine lk (g:=56) rfl Tryz.func121 Yt ?_;apply AiZ _ Fz<;>assumption
theorem AfJ:SQ (DD 12):=by unfold SQ;intros;refine lk (g:=12) rfl Tryz.func48 Ab1 ?_;apply AmF _ Fz Xi AbU Acr AaT<;>assumption
theorem Af0:VS (DD 516):=by unfold VS;intros;refine lk (g:=516) rfl Tryz.func122 Ac3 ?_;apply ApW _ Fz<;>assumption
theorem AbB:Qu (DD 513):=by unfold Qu;intros;refine lk (g:=513) rfl Tryz.func49 YL ?_;apply Alf _ Af0 Fz<;>assumption
theorem WT:Ry (DD 57):=by unfold Ry;intros;refine lk (g:=57) rfl Tryz.func124 AdO ?_;apply AqP _<;>assumption
theorem Af5:VU (DD 517):=by unfold VU;intros;refine lk (g:=517) rfl Tryz.func123 Aee ?_;apply Aq1 _ WT<;>assumption
theorem AbP:Qx (DD 514):=by unfold Qx;intros;refine lk (g:=514) rfl Tryz.func50 Z4 ?_;apply Ak4 _ Af5 WT<;>assumption
theorem Wx:OV (DD 512):=by unfold OV;intros;refine lk (g:=512) rfl Tryz.func7 UK ?_;apply Ac6 _ AkQ Alu Am1 Anj PL AlW AfJ AbB AbP<;>assumption
theorem den (av:List V) (h:Ar5 [AeD,.int .i64] av):DD 512 av [] (B true) []:=by
 obtain⟨v0,r0,h0,hr0,rfl⟩:=h
 obtain⟨x0,rfl,l0,w0⟩:=Awl h0
 obtain⟨v1,r1,h1,hr1,rfl⟩:=hr0
 obtain⟨x1,rfl,w1⟩:=ADm h1
 have z:r1=[]:=hr1
 subst z
 apply Wx<;>assumption
end Go.Eng.T
