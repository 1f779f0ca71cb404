/- Own work: part 50 of the proof of FnAudited. -/
import Derived.Test.YtdgpapmladligabGreatP49
import Derived.Test.YtdgpapmladligabGreatProg
import Derived.KernelRfl
set_option linter.unusedSimpArgs false
set_option linter.unusedVariables false
namespace Go.Eng.T
open Go.Proofs
set_option maxRecDepth 100000
def AGW:List (Option Nat):=[none,none,none,none,none,none,none,none,none,none,none,none,none,none,none,none,none,none,none,none,none,none,some 59,none,none,none,none,some 290,none,none,none,none,none,none,none,none,none,none,none,none,none,none,none,none,none,none,none,none,none,none,none,none,none,none,none,none,none,none,none,none,none,none,none,none,none,some 143,some 144,some 145,none,none,some 177,some 146,some 60,none,some 192,some 194,some 324,some 325,some 195,some 326,some 193,none,some 241,none,none,none,none,none,none,none,none,none,none,none,none,some 167,some 393,none,none,none,none,none,none,none,none,none,none,none,none,none,none,none,none,none,some 105,none,none,some 92,none,none,none,none,none,some 97,none,none,none,none,none,none,none,some 133,none,some 17,none,none,none,none,none,none,none,some 82,some 147,some 148,some 149,some 164,some 240,some 242,some 243,some 244,some 365,some 366,some 225,none,none,some 219,some 275,none,none,some 174,none,none,none,none,none,none,some 165,some 276,some 171,none,none,none,none,some 21,none,some 108,some 103,none,none,none,none,none,none,some 118,some 24,none,none,none,some 104,some 182,some 135,none,none,none,none,none,some 136,some 202,some 208,none,some 50,some 51,some 52,some 53,none,none,none,some 160,some 161,some 162,some 163,some 166,some 217,some 216,some 218,some 226,some 388,some 259,none,none,none,none,some 368,some 338,some 229,none,none,some 93,none,some 197,none,none,some 185,some 188,some 96,some 98,some 99,some 101,some 100,some 102,some 183,none,some 210,none,none,some 134,some 41,some 138,some 137,none,some 224,some 255,some 254,some 256,some 227,some 394,some 392,none,some 371,none,some 391,some 181,some 180,some 209,none,none,some 239,some 212,some 187,some 186,some 139,some 190,some 120,some 237,some 236,none,none,none,some 121,some 213,some 291,some 292,some 293,some 294,some 260,some 327,some 331,some 232,some 233,some 234,some 235,some 251,some 261,some 263,some 274,some 314,some 315,some 316,some 305,some 122,some 328,some 329,some 330,some 332,some 333,some 335,some 336,some 334,some 337,some 339,some 340,some 341,some 342,some 343,some 262,some 264,some 265,some 266,some 267,some 268,some 269,some 270,some 272,some 271,some 273,some 360,some 362,some 361,some 367,some 370,some 369,some 373,some 372,some 374,some 375,some 377,some 376,some 378,some 380,some 379,some 295,some 297,some 296,some 298,none,some 301,some 302,some 300,some 303,some 304,some 306,some 308,some 307,some 311,some 310,some 389,some 390,some 123,some 344,some 345,some 346,some 348,some 347,none,some 350,some 352,some 351,some 353,some 354,some 355,some 356,some 382,some 381,some 383,some 384,some 385,none,none,none,none,none,none,none,none,none,none,none,none,none,some 191,none,none,none,some 189,none,none,none,none,none,none,none,none,none,some 211,some 252,some 238,some 203,none,none,none,none,none,none,none,none,none,none,none,none,some 386,none,none,none,none,none,none,none,none,none,none,none,none,none,none,none,none,none,none,none,none,none,none,none,none,none,none,none,none,none,none,none,none,none,none,none,none,none,none,none,none,some 18,none,none,none,none,none,none,none,none,none,none,none,none,some 87,none,none,none,none,some 90,some 88,none,some 114,none,none,some 91,some 250,some 179,some 175,some 176,some 178,some 230,none,some 131,some 231,some 196,none,none,none,none,none,none,none,none,none,none,none,none,none,none,none,none,none,none,none,none,none,none,none,none,none,none,none,none,none,none,none,none,none,none,none,none,none,none,none,none,none,none,some 8,some 49,none,some 132,some 207]
def Ae:Nat→Option FuncId:=fun g=>AGW.getD g none
theorem Axk:Tryz.prog.follows .mixedOrders=true:=by kernel_rfl
theorem hFl:AGW.all (fun o=>match o with | some f=>okF Tryz.prog f | none=>true)=true:=by kernel_rfl
theorem hF:∀g f,Ae g=some f→okF Tryz.prog f=true:=by
 intro g f h
 have:=List.all_eq_true.1 hFl (some f) (by
  unfold Ae at h
  rw[List.getD_eq_getElem?_getD]at h
  cases hg:AGW[g]? with
  | none=>simp[hg]at h
  | some o=>simp[hg]at h;subst h;exact List.mem_of_getElem? hg)
 exact this
variable {G0:Gl}
abbrev DE (G0:Gl):Dn:=Den Tryz.prog Ae G0
theorem lk {g:Nat} {f:FuncId} {fn:Func} {st:List Tmp} {sf:Bl} (hg:Ae g=some f) (hfn:Tryz.prog.funcs[f]? =some fn) (hm:Bp Tryz.prog Ae st sf fn=true) {a:List V} {gi:List O} {r:V} {o:List O}
 (h:Body (DE G0) sf a gi r o):(DE G0) g a gi r o:=
 ACb Axk (fun _ _ _ _ _ h=>h) hF (fun id hid=>by rw[hg]at hid;cases hid;exact hfn) hm h
theorem Avu:Bp Tryz.prog Ae AsL AeZ Tryz.f18=true:=by kernel_rfl
theorem ApV:Bp Tryz.prog Ae Aoh Qa Tryz.f87=true:=by kernel_rfl
theorem AnP:Bp Tryz.prog Ae Akd RA Tryz.f179=true:=by kernel_rfl
theorem Amh:Bp Tryz.prog Ae AhK Pd Tryz.f90=true:=by kernel_rfl
theorem AqO:Bp Tryz.prog Ae AoG TP Tryz.f114=true:=by kernel_rfl
theorem Arp:Bp Tryz.prog Ae AoA YD Tryz.f174=true:=by kernel_rfl
theorem AmC:Bp Tryz.prog Ae Ahh Pq Tryz.f175=true:=by kernel_rfl
theorem Alk:Bp Tryz.prog Ae Ag4 Pj Tryz.f230=true:=by kernel_rfl
theorem Aj5:Bp Tryz.prog Ae AhV Pk Tryz.f178=true:=by kernel_rfl
theorem AlS:Bp Tryz.prog Ae Ahe Pb Tryz.f196=true:=by kernel_rfl
theorem AkB:Bp Tryz.prog Ae Ahz Pf Tryz.f231=true:=by kernel_rfl
theorem Amx:Bp Tryz.prog Ae Ais Pt Tryz.f176=true:=by kernel_rfl
theorem AnC:Bp Tryz.prog Ae Akf WZ Tryz.f143=true:=by kernel_rfl
theorem AlT:Bp Tryz.prog Ae Ai2 Uq Tryz.f144=true:=by kernel_rfl
theorem AeJ:Bp Tryz.prog Ae AcJ QY Tryz.f145=true:=by kernel_rfl
theorem Akl:Bp Tryz.prog Ae Ahp Un Tryz.f59=true:=by kernel_rfl
theorem AuJ:Bp Tryz.prog Ae Ap7 AbI Tryz.f146=true:=by kernel_rfl
theorem AdR:Bp Tryz.prog Ae Acb O7 Tryz.f224=true:=by kernel_rfl
theorem AnH:Bp Tryz.prog Ae Ald Wt Tryz.f259=true:=by kernel_rfl
theorem Ap4:Bp Tryz.prog Ae AnD Y0 Tryz.f225=true:=by kernel_rfl
theorem Abf:Bp Tryz.prog Ae Z4 MP Tryz.f161=true:=by kernel_rfl
theorem AcP:Bp Tryz.prog Ae AbD OO Tryz.f160=true:=by kernel_rfl
theorem Ak6:Bp Tryz.prog Ae Ah1 UO Tryz.f162=true:=by kernel_rfl
theorem AcK:Bp Tryz.prog Ae AaX OD Tryz.f163=true:=by kernel_rfl
theorem Afx:Bp Tryz.prog Ae Ac7 Ql Tryz.f164=true:=by kernel_rfl
theorem Arj:Bp Tryz.prog Ae Ano X4 Tryz.f165=true:=by kernel_rfl
theorem Ajw:Bp Tryz.prog Ae AiC UQ Tryz.f167=true:=by kernel_rfl
theorem Ahx:Bp Tryz.prog Ae AfX Tf Tryz.f229=true:=by kernel_rfl
theorem Aeh:Bp Tryz.prog Ae Abo NU Tryz.f171=true:=by kernel_rfl
theorem Ag3:Bp Tryz.prog Ae AeB Tc Tryz.f166=true:=by kernel_rfl
theorem AlU:Bp Tryz.prog Ae AiH U0 Tryz.f82=true:=by kernel_rfl
theorem AhY:Bp Tryz.prog Ae Afd Tj Tryz.f177=true:=by kernel_rfl
theorem Ail:Bp Tryz.prog Ae AfF MR Tryz.f88=true:=by kernel_rfl
theorem AiA:Bp Tryz.prog Ae Afc MI Tryz.f131=true:=by kernel_rfl
theorem Afy:Bp Tryz.prog Ae Aet Lj Tryz.f91=true:=by kernel_rfl
theorem AwT:Bp Tryz.prog Ae AuU AfM Tryz.f226=true:=by kernel_rfl
theorem Axj:Bp Tryz.prog Ae Asj AeO Tryz.f256=true:=by kernel_rfl
theorem AlB:Bp Tryz.prog Ae Ahg Ut Tryz.f217=true:=by kernel_rfl
theorem Aw4:Bp Tryz.prog Ae AtU AfO Tryz.f379=true:=by kernel_rfl
theorem AuI:Bp Tryz.prog Ae AqC AbQ Tryz.f380=true:=by kernel_rfl
theorem AnW:Bp Tryz.prog Ae Ak3 V3 Tryz.f343=true:=by kernel_rfl
theorem AeF:Bp Tryz.prog Ae AcZ Qu Tryz.f340=true:=by kernel_rfl
theorem Ans:Bp Tryz.prog Ae AlX Xh Tryz.f337=true:=by kernel_rfl
theorem Aj0:Bp Tryz.prog Ae AiT U4 Tryz.f373=true:=by kernel_rfl
theorem Ame:Bp Tryz.prog Ae Aja Uz Tryz.f341=true:=by kernel_rfl
theorem Ap3:Bp Tryz.prog Ae An4 XU Tryz.f339=true:=by kernel_rfl
theorem AjQ:Bp Tryz.prog Ae AhX Ug Tryz.f342=true:=by kernel_rfl
theorem AfR:Bp Tryz.prog Ae Ad9 Q8 Tryz.f294=true:=by kernel_rfl
theorem Ak8:Bp Tryz.prog Ae AhP Ud Tryz.f255=true:=by kernel_rfl
theorem Ak9:Bp Tryz.prog Ae Ah4 Uj Tryz.f327=true:=by kernel_rfl
theorem Ain:Bp Tryz.prog Ae AeE Si Tryz.f329=true:=by kernel_rfl
theorem Alu:Bp Tryz.prog Ae Aip Uw Tryz.f371=true:=by kernel_rfl
theorem Ag1:Bp Tryz.prog Ae Agh Tk Tryz.f331=true:=by kernel_rfl
theorem AeT:Bp Tryz.prog Ae Ads Rf Tryz.f389=true:=by kernel_rfl
theorem AfJ:Bp Tryz.prog Ae Aey Qk Tryz.f390=true:=by kernel_rfl
theorem Ab0:Bp Tryz.prog Ae ZI Na Tryz.f367=true:=by kernel_rfl
theorem AbY:Bp Tryz.prog Ae Aag MZ Tryz.f328=true:=by kernel_rfl
theorem AdO:Bp Tryz.prog Ae AaT Oh Tryz.f392=true:=by kernel_rfl
theorem Adw:Bp Tryz.prog Ae Aa4 Oa Tryz.f391=true:=by kernel_rfl
theorem ZV:Bp Tryz.prog Ae YF LZ Tryz.f368=true:=by kernel_rfl
theorem AjN:Bp Tryz.prog Ae Ahr U5 Tryz.f338=true:=by kernel_rfl
theorem Ah7:Bp Tryz.prog Ae Afh Tp Tryz.f370=true:=by kernel_rfl
theorem AeN:Bp Tryz.prog Ae AdB Qi Tryz.f369=true:=by kernel_rfl
theorem YB:Bp Tryz.prog Ae XF KO Tryz.f330=true:=by kernel_rfl
theorem AhA:Bp Tryz.prog Ae Ae2 Sb Tryz.f291=true:=by kernel_rfl
theorem AbA:Bp Tryz.prog Ae Aaf MB Tryz.f372=true:=by kernel_rfl
theorem ZU:Bp Tryz.prog Ae XY L6 Tryz.f332=true:=by kernel_rfl
theorem Ahu:Bp Tryz.prog Ae Ae1 SB Tryz.f374=true:=by kernel_rfl
theorem Afr:Bp Tryz.prog Ae AcU Rh Tryz.f333=true:=by kernel_rfl
theorem AdX:Bp Tryz.prog Ae Ab5 Ox Tryz.f378=true:=by kernel_rfl
theorem Aev:Bp Tryz.prog Ae Ab3 O9 Tryz.f335=true:=by kernel_rfl
theorem Abu:Bp Tryz.prog Ae Aaj MW Tryz.f336=true:=by kernel_rfl
theorem Aai:Bp Tryz.prog Ae X0 L8 Tryz.f375=true:=by kernel_rfl
theorem XH:Bp Tryz.prog Ae WW J2 Tryz.f377=true:=by kernel_rfl
theorem Aga:Bp Tryz.prog Ae AcX Qy Tryz.f376=true:=by kernel_rfl
theorem Ah8:Bp Tryz.prog Ae Agn RZ Tryz.f334=true:=by kernel_rfl
theorem AiP:Bp Tryz.prog Ae AfZ Sw Tryz.f292=true:=by kernel_rfl
theorem AkH:Bp Tryz.prog Ae Ah0 Ui Tryz.f293=true:=by kernel_rfl
theorem Auo:Bp Tryz.prog Ae AqS Abk Tryz.f254=true:=by kernel_rfl
theorem Ajz:Bp Tryz.prog Ae Ahq U8 Tryz.f216=true:=by kernel_rfl
theorem AnS:Bp Tryz.prog Ae Alj Wo Tryz.f147=true:=by kernel_rfl
theorem Ak2:Bp Tryz.prog Ae AiZ Ur Tryz.f260=true:=by kernel_rfl
theorem AjA:Bp Tryz.prog Ae AiY Uy Tryz.f227=true:=by kernel_rfl
theorem Asu:Bp Tryz.prog Ae Ap2 AbK Tryz.f218=true:=by kernel_rfl
theorem Ako:Bp Tryz.prog Ae Ag7 UB Tryz.f148=true:=by kernel_rfl
theorem Ai0:Bp Tryz.prog Ae AfA RU Tryz.f219=true:=by kernel_rfl
theorem Afs:Bp Tryz.prog Ae AcE QG Tryz.f149=true:=by kernel_rfl
theorem Ah5:Bp Tryz.prog Ae Ae3 Sm Tryz.f60=true:=by kernel_rfl
theorem AdD:Bp Tryz.prog Ae Abb O5 Tryz.f240=true:=by kernel_rfl
theorem Afj:Bp Tryz.prog Ae Acp QU Tryz.f192=true:=by kernel_rfl
theorem AhE:Bp Tryz.prog Ae Agm Sg Tryz.f275=true:=by kernel_rfl
theorem Afm:Bp Tryz.prog Ae AcY Qj Tryz.f241=true:=by kernel_rfl
theorem Agk:Bp Tryz.prog Ae AdM QV Tryz.f242=true:=by kernel_rfl
theorem Ae4:Bp Tryz.prog Ae Adr Qp Tryz.f243=true:=by kernel_rfl
theorem AcM:Bp Tryz.prog Ae Abn Oz Tryz.f276=true:=by kernel_rfl
theorem ZT:Bp Tryz.prog Ae Yx Lx Tryz.f244=true:=by kernel_rfl
theorem Afb:Bp Tryz.prog Ae Acs QW Tryz.f194=true:=by kernel_rfl
theorem AhN:Bp Tryz.prog Ae AeY RV Tryz.f393=true:=by kernel_rfl
theorem AqB:Bp Tryz.prog Ae Anr Yn Tryz.f394=true:=by kernel_rfl
theorem AfB:Bp Tryz.prog Ae Adx QL Tryz.f388=true:=by kernel_rfl
theorem Yu:Bp Tryz.prog Ae XK KN Tryz.f365=true:=by kernel_rfl
theorem Ad8:Bp Tryz.prog Ae Abz Oo Tryz.f324=true:=by kernel_rfl
theorem Adb:Bp Tryz.prog Ae AbC Oc Tryz.f366=true:=by kernel_rfl
theorem AcQ:Bp Tryz.prog Ae Abc O8 Tryz.f325=true:=by kernel_rfl
theorem Amr:Bp Tryz.prog Ae Ai8 UJ Tryz.f195=true:=by kernel_rfl
theorem AfL:Bp Tryz.prog Ae Adl Qz Tryz.f326=true:=by kernel_rfl
theorem Aiv:Bp Tryz.prog Ae Ags SV Tryz.f193=true:=by kernel_rfl
theorem AdJ:Bp Tryz.prog Ae AaS OV Tryz.f290=true:=by kernel_rfl
theorem Ago:Bp Tryz.prog Ae Ac4 QE Tryz.f250=true:=by kernel_rfl
theorem Aiy:Bp Tryz.prog Ae Agj MX Tryz.f207=true:=by kernel_rfl
theorem ZW:Bp Tryz.prog Ae Yk I4 Tryz.f132=true:=by kernel_rfl
theorem Aa0:Bp Tryz.prog Ae ZN JD Tryz.f49=true:=by kernel_rfl
theorem Ama:Bp Tryz.prog Ae Aiw UD Tryz.f97=true:=by kernel_rfl
theorem Aml:Bp Tryz.prog Ae Aio U3 Tryz.f105=true:=by kernel_rfl
theorem AbJ:Bp Tryz.prog Ae ZJ MK Tryz.f185=true:=by kernel_rfl
theorem Tw:Bp Tryz.prog Ae Sr Ij Tryz.f191=true:=by kernel_rfl
theorem QN:Bp Tryz.prog Ae Qc Gj Tryz.f104=true:=by kernel_rfl
theorem AhZ:Bp Tryz.prog Ae AeQ Ti Tryz.f210=true:=by kernel_rfl
theorem Acn:Bp Tryz.prog Ae AbV O4 Tryz.f135=true:=by kernel_rfl
theorem Aea:Bp Tryz.prog Ae Aby OH Tryz.f187=true:=by kernel_rfl
theorem Mx:Bp Tryz.prog Ae LD EM Tryz.f238=true:=by kernel_rfl
theorem KS:Bp Tryz.prog Ae Kv Em Tryz.f186=true:=by kernel_rfl
theorem Aic:Bp Tryz.prog Ae Afq R7 Tryz.f96=true:=by kernel_rfl
theorem ZM:Bp Tryz.prog Ae YG LW Tryz.f239=true:=by kernel_rfl
theorem P7:Bp Tryz.prog Ae O0 F5 Tryz.f252=true:=by kernel_rfl
theorem Nv:Bp Tryz.prog Ae Mw Fq Tryz.f212=true:=by kernel_rfl
theorem Adg:Bp Tryz.prog Ae Ab6 OA Tryz.f188=true:=by kernel_rfl
theorem Akg:Bp Tryz.prog Ae Ag0 UF Tryz.f98=true:=by kernel_rfl
theorem AdU:Bp Tryz.prog Ae AbR OG Tryz.f99=true:=by kernel_rfl
theorem Acm:Bp Tryz.prog Ae Abx Ov Tryz.f213=true:=by kernel_rfl
theorem Adt:Bp Tryz.prog Ae Ab1 OW Tryz.f139=true:=by kernel_rfl
theorem Aq6:Bp Tryz.prog Ae Aow XQ Tryz.f118=true:=by kernel_rfl
theorem Aad:Bp Tryz.prog Ae Yv LM Tryz.f190=true:=by kernel_rfl
theorem JF:Bp Tryz.prog Ae Jv Dx Tryz.f203=true:=by kernel_rfl
theorem I5:Bp Tryz.prog Ae IU CW Tryz.f120=true:=by kernel_rfl
theorem Adv:Bp Tryz.prog Ae Abt OT Tryz.f102=true:=by kernel_rfl
theorem AeV:Bp Tryz.prog Ae AdQ Q6 Tryz.f101=true:=by kernel_rfl
theorem Hf:Bp Tryz.prog Ae GV Cg Tryz.f189=true:=by kernel_rfl
theorem Gg:Bp Tryz.prog Ae F8 BS Tryz.f100=true:=by kernel_rfl
theorem AeS:Bp Tryz.prog Ae AcF Qq Tryz.f103=true:=by kernel_rfl
theorem Al8:Bp Tryz.prog Ae Ahs Uh Tryz.f24=true:=by kernel_rfl
theorem Arn:Bp Tryz.prog Ae Anw YM Tryz.f197=true:=by kernel_rfl
theorem Af0:Bp Tryz.prog Ae Adu QD Tryz.f108=true:=by kernel_rfl
theorem Aoq:Bp Tryz.prog Ae Alb Wl Tryz.f136=true:=by kernel_rfl
theorem Ae5:Bp Tryz.prog Ae AcS QJ Tryz.f133=true:=by kernel_rfl
theorem Amb:Bp Tryz.prog Ae Aig U6 Tryz.f251=true:=by kernel_rfl
theorem AlY:Bp Tryz.prog Ae Ag8 U7 Tryz.f209=true:=by kernel_rfl
theorem Ahd:Bp Tryz.prog Ae Af2 SI Tryz.f134=true:=by kernel_rfl
theorem Agq:Bp Tryz.prog Ae Ac1 QZ Tryz.f50=true:=by kernel_rfl
theorem Aop:Bp Tryz.prog Ae AjD V8 Tryz.f92=true:=by kernel_rfl
theorem Aew:Bp Tryz.prog Ae AbU OZ Tryz.f306=true:=by kernel_rfl
theorem Aho:Bp Tryz.prog Ae Afa Sd Tryz.f305=true:=by kernel_rfl
theorem Aiq:Bp Tryz.prog Ae Afk SQ Tryz.f267=true:=by kernel_rfl
theorem Awm:Bp Tryz.prog Ae Auq Afo Tryz.f310=true:=by kernel_rfl
theorem At8:Bp Tryz.prog Ae Ara Abp Tryz.f311=true:=by kernel_rfl
theorem AnG:Bp Tryz.prog Ae AmA V4 Tryz.f272=true:=by kernel_rfl
theorem AeK:Bp Tryz.prog Ae AdT Rc Tryz.f268=true:=by kernel_rfl
theorem AjU:Bp Tryz.prog Ae Aht UL Tryz.f308=true:=by kernel_rfl
theorem JE:Bp Tryz.prog Ae Ju Du Tryz.f307=true:=by kernel_rfl
theorem Aq1:Bp Tryz.prog Ae Am8 Yt Tryz.f270=true:=by kernel_rfl
theorem Akb:Bp Tryz.prog Ae AiU Ul Tryz.f269=true:=by kernel_rfl
theorem Ac8:Bp Tryz.prog Ae AbT OI Tryz.f235=true:=by kernel_rfl
theorem Al6:Bp Tryz.prog Ae Ai4 UE Tryz.f181=true:=by kernel_rfl
theorem Alr:Bp Tryz.prog Ae AhJ Uf Tryz.f261=true:=by kernel_rfl
theorem Ae8:Bp Tryz.prog Ae Acx QF Tryz.f263=true:=by kernel_rfl
theorem Ams:Bp Tryz.prog Ae Ahl Ue Tryz.f362=true:=by kernel_rfl
theorem IY:Bp Tryz.prog Ae IV CX Tryz.f361=true:=by kernel_rfl
theorem ArS:Bp Tryz.prog Ae Aon Ya Tryz.f314=true:=by kernel_rfl
theorem Agf:Bp Tryz.prog Ae AdC Ri Tryz.f316=true:=by kernel_rfl
theorem Amy:Bp Tryz.prog Ae Ah6 UA Tryz.f274=true:=by kernel_rfl
theorem AhG:Bp Tryz.prog Ae AeR SL Tryz.f236=true:=by kernel_rfl
theorem Tv:Bp Tryz.prog Ae R8 Ih Tryz.f123=true:=by kernel_rfl
theorem Ahk:Bp Tryz.prog Ae AeL Sv Tryz.f382=true:=by kernel_rfl
theorem Fw:Bp Tryz.prog Ae Fs Bt Tryz.f381=true:=by kernel_rfl
theorem Agl:Bp Tryz.prog Ae Aeo Rk Tryz.f344=true:=by kernel_rfl
theorem AbL:Bp Tryz.prog Ae Z5 M4 Tryz.f295=true:=by kernel_rfl
theorem AaV:Bp Tryz.prog Ae ZP MJ Tryz.f262=true:=by kernel_rfl
theorem Aeb:Bp Tryz.prog Ae AaY NT Tryz.f237=true:=by kernel_rfl
theorem ZL:Bp Tryz.prog Ae Ym LP Tryz.f183=true:=by kernel_rfl
theorem AlZ:Bp Tryz.prog Ae Ahm UG Tryz.f182=true:=by kernel_rfl
theorem AdE:Bp Tryz.prog Ae Ab2 NR Tryz.f346=true:=by kernel_rfl
theorem AgZ:Bp Tryz.prog Ae Afu Tg Tryz.f297=true:=by kernel_rfl
theorem Abh:Bp Tryz.prog Ae Z6 M9 Tryz.f345=true:=by kernel_rfl
theorem Afi:Bp Tryz.prog Ae Acy Rj Tryz.f296=true:=by kernel_rfl
theorem XW:Bp Tryz.prog Ae XB KU Tryz.f264=true:=by kernel_rfl
theorem AhT:Bp Tryz.prog Ae AeW SA Tryz.f232=true:=by kernel_rfl
theorem AeH:Bp Tryz.prog Ae AdA Qm Tryz.f384=true:=by kernel_rfl
theorem Aj2:Bp Tryz.prog Ae Ai6 UC Tryz.f348=true:=by kernel_rfl
theorem XV:Bp Tryz.prog Ae XD KJ Tryz.f383=true:=by kernel_rfl
theorem AbO:Bp Tryz.prog Ae ZO NA Tryz.f347=true:=by kernel_rfl
theorem ZR:Bp Tryz.prog Ae YX LV Tryz.f298=true:=by kernel_rfl
theorem Ah2:Bp Tryz.prog Ae AfK Sk Tryz.f355=true:=by kernel_rfl
theorem Aoc:Bp Tryz.prog Ae Al2 V9 Tryz.f266=true:=by kernel_rfl
theorem Ae7:Bp Tryz.prog Ae Adk QC Tryz.f356=true:=by kernel_rfl
theorem Af9:Bp Tryz.prog Ae AdY Qx Tryz.f303=true:=by kernel_rfl
theorem AcD:Bp Tryz.prog Ae Abj OY Tryz.f353=true:=by kernel_rfl
theorem RB:Bp Tryz.prog Ae QS GZ Tryz.f354=true:=by kernel_rfl
theorem Aed:Bp Tryz.prog Ae AaZ N8 Tryz.f301=true:=by kernel_rfl
theorem Aa6:Bp Tryz.prog Ae Z7 Nb Tryz.f302=true:=by kernel_rfl
theorem XJ:Bp Tryz.prog Ae Wu J8 Tryz.f385=true:=by kernel_rfl
theorem Aab:Bp Tryz.prog Ae XR LH Tryz.f350=true:=by kernel_rfl
theorem XE:Bp Tryz.prog Ae Xe Ki Tryz.f352=true:=by kernel_rfl
theorem AfG:Bp Tryz.prog Ae Ac6 Q7 Tryz.f351=true:=by kernel_rfl
theorem Ahc:Bp Tryz.prog Ae Agg S9 Tryz.f300=true:=by kernel_rfl
theorem AfU:Bp Tryz.prog Ae Acr Qn Tryz.f304=true:=by kernel_rfl
theorem Aoi:Bp Tryz.prog Ae AkV WC Tryz.f265=true:=by kernel_rfl
theorem Ahi:Bp Tryz.prog Ae Ae9 RX Tryz.f233=true:=by kernel_rfl
theorem AmN:Bp Tryz.prog Ae AiK UU Tryz.f234=true:=by kernel_rfl
theorem As9:Bp Tryz.prog Ae AqH AbP Tryz.f180=true:=by kernel_rfl
theorem Ak7:Bp Tryz.prog Ae Aih UR Tryz.f93=true:=by kernel_rfl
theorem AnO:Bp Tryz.prog Ae AlD WG Tryz.f21=true:=by kernel_rfl
theorem Al9:Bp Tryz.prog Ae Ag2 UX Tryz.f122=true:=by kernel_rfl
theorem YR:Bp Tryz.prog Ae XA KG Tryz.f121=true:=by kernel_rfl
theorem AbN:Bp Tryz.prog Ae Z8 Nw Tryz.f41=true:=by kernel_rfl
theorem AcI:Bp Tryz.prog Ae Ab9 NY Tryz.f51=true:=by kernel_rfl
theorem Agb:Bp Tryz.prog Ae Ad7 QR Tryz.f52=true:=by kernel_rfl
theorem AfT:Bp Tryz.prog Ae Aen QB Tryz.f138=true:=by kernel_rfl
theorem Ip:Bp Tryz.prog Ae Ii Cy Tryz.f211=true:=by kernel_rfl
theorem Ho:Bp Tryz.prog Ae He Co Tryz.f137=true:=by kernel_rfl
theorem Aj4:Bp Tryz.prog Ae Ahw Uv Tryz.f53=true:=by kernel_rfl
theorem Amd:Bp Tryz.prog Ae Ai9 UZ Tryz.f17=true:=by kernel_rfl
theorem Afz:Bp Tryz.prog Ae AcW Rl Tryz.f8=true:=by kernel_rfl
theorem AyD:AFE (DE G0 460):=by unfold AFE;intros;refine lk (g:=460) rfl Tryz.func18 Avu ?_;apply AIO (DE G0)<;>assumption
theorem AtC:Aqr (DE G0 473):=by unfold Aqr;intros;refine AHR (R:=Body (DE G0) Qa) (R':=(DE G0) 473) (fun _ _ _ _ h=>lk (g:=473) rfl Tryz.func87 ApV h) ?_;apply AF7 (DE G0)<;>assumption
theorem Aq9:Ajn (DE G0 486):=by unfold Ajn;intros;refine KA (R:=Body (DE G0) RA) (R':=(DE G0) 486) (fun _ _ _ _ h=>lk (g:=486) rfl Tryz.func179 AnP h) ?_;apply ACn (DE G0)<;>assumption
theorem En:Ie (DE G0 478):=by unfold Ie;intros;refine KA (R:=Body (DE G0) Pd) (R':=(DE G0) 478) (fun _ _ _ _ h=>lk (g:=478) rfl Tryz.func90 Amh h) ?_;apply Azr (DE G0) Aq9<;>assumption
theorem Yp:Ae0 (DE G0 481):=by unfold Ae0;intros;refine KA (R:=Body (DE G0) TP) (R':=(DE G0) 481) (fun _ _ _ _ h=>lk (g:=481) rfl Tryz.func114 AqO h) ?_;apply AFw (DE G0) En<;>assumption
theorem JO:Uc (DE G0 159):=by unfold Uc;intros;refine lk (g:=159) rfl Tryz.func174 Arp ?_;apply AFZ (DE G0)<;>assumption
theorem Anm:Adi (DE G0 487):=by unfold Adi;intros;refine KA (R:=Body (DE G0) Pq) (R':=(DE G0) 487) (fun _ _ _ _ h=>lk (g:=487) rfl Tryz.func175 AmC h) ?_;apply AAo (DE G0) En JO<;>assumption
theorem Ana:AdN (DE G0 490):=by unfold AdN;intros;refine KA (R:=Body (DE G0) Pj) (R':=(DE G0) 490) (fun _ _ _ _ h=>lk (g:=490) rfl Tryz.func230 Alk h) ?_;apply AyS (DE G0) En JO<;>assumption
theorem Aak:YU (DE G0 489):=by unfold YU;intros;refine KA (R:=Body (DE G0) Pk) (R':=(DE G0) 489) (fun _ _ _ _ h=>lk (g:=489) rfl Tryz.func178 Aj5 h) ?_;apply AyV (DE G0) En Yp JO<;>assumption
theorem AaH:YO (DE G0 494):=by unfold YO;intros;refine KA (R:=Body (DE G0) Pb) (R':=(DE G0) 494) (fun _ _ _ _ h=>lk (g:=494) rfl Tryz.func196 AlS h) ?_;apply AzX (DE G0) En Aak<;>assumption
theorem AoH:AdG (DE G0 493):=by unfold AdG;intros;refine KA (R:=Body (DE G0) Pf) (R':=(DE G0) 493) (fun _ _ _ _ h=>lk (g:=493) rfl Tryz.func231 AkB h) ?_;apply Ay2 (DE G0) En AaH<;>assumption
theorem AoK:Ac5 (DE G0 488):=by unfold Ac5;intros;refine KA (R:=Body (DE G0) Pt) (R':=(DE G0) 488) (fun _ _ _ _ h=>lk (g:=488) rfl Tryz.func176 Amx h) ?_;apply Az7 (DE G0) En Yp Ana AoH JO<;>assumption
theorem AhL:TK (DE G0 65):=by unfold TK;intros;refine lk (g:=65) rfl Tryz.func143 AnC ?_;apply ADw (DE G0)<;>assumption
theorem Sn:NZ (DE G0 66):=by unfold NZ;intros;refine lk (g:=66) rfl Tryz.func144 AlT ?_;apply AAe (DE G0)<;>assumption
theorem Aav:VN (DE G0 67):=by unfold VN;intros;refine lk (g:=67) rfl Tryz.func145 AeJ ?_;apply Auz (DE G0)<;>assumption
theorem DR:Ga (DE G0 22):=by unfold Ga;intros;refine lk (g:=22) rfl Tryz.func59 Akl ?_;apply AzU (DE G0) AhL Sn Aav<;>assumption
theorem DZ:Qo (DE G0 71):=by unfold Qo;intros;refine lk (g:=71) rfl Tryz.func146 AuJ ?_;apply AHp (DE G0)<;>assumption
theorem OB:FL (DE G0 250):=by unfold FL;intros;refine lk (g:=250) rfl Tryz.func224 AdR ?_;apply AoB (DE G0) DZ<;>assumption
theorem Wn:Zo (DE G0 217):=by unfold Zo;intros;refine lk (g:=217) rfl Tryz.func259 AnH ?_;apply ABF (DE G0) DZ<;>assumption
theorem YS:R6 (DE G0 152):=by unfold R6;intros;refine lk (g:=152) rfl Tryz.func225 Ap4 ?_;apply ADR (DE G0) DZ Wn<;>assumption
theorem Dl:BA (DE G0 208):=by unfold BA;intros;refine lk (g:=208) rfl Tryz.func161 Abf ?_;apply Alh (DE G0) DZ<;>assumption
theorem Oj:Fb (DE G0 207):=by unfold Fb;intros;refine lk (g:=207) rfl Tryz.func160 AcP ?_;apply Am6 (DE G0) DZ OB YS Dl<;>assumption
theorem Am9:M6 (DE G0 209):=by unfold M6;intros;refine lk (g:=209) rfl Tryz.func162 Ak6 ?_;apply Awt (DE G0) DZ<;>assumption
theorem X6:Jm (DE G0 210):=by unfold Jm;intros;refine lk (g:=210) rfl Tryz.func163 AcK ?_;apply Atl (DE G0) DZ<;>assumption
theorem Hw:EB (DE G0 145):=by unfold EB;intros;refine lk (g:=145) rfl Tryz.func164 Afx ?_;apply Ap5 (DE G0) DZ<;>assumption
theorem IE:PX (DE G0 166):=by unfold PX;intros;refine lk (g:=166) rfl Tryz.func165 Arj ?_;apply AE8 (DE G0)<;>assumption
theorem Aez:K8 (DE G0 95):=by unfold K8;intros;refine lk (g:=95) rfl Tryz.func167 Ajw ?_;apply AvC (DE G0)<;>assumption
theorem AkW:Mi (DE G0 224):=by unfold Mi;intros;refine lk (g:=224) rfl Tryz.func229 Ahx ?_;apply AsS (DE G0) IE<;>assumption
theorem IC:DY (DE G0 168):=by unfold DY;intros;refine lk (g:=168) rfl Tryz.func171 Aeh ?_;apply AnE (DE G0) AkW Dl<;>assumption
theorem AkE:Kz (DE G0 211):=by unfold Kz;intros;refine lk (g:=211) rfl Tryz.func166 Ag3 ?_;apply AsN (DE G0) IC Dl<;>assumption
theorem AmW:Nj (DE G0 141):=by unfold Nj;intros;refine lk (g:=141) rfl Tryz.func82 AlU ?_;apply Av1 (DE G0) Oj Dl Am9 X6 Hw IE Aez AkE DZ<;>assumption
theorem AnR:Zq (DE G0 70):=by unfold Zq;intros;refine lk (g:=70) rfl Tryz.func177 AhY ?_;apply Asz (DE G0) DR AmW<;>assumption
theorem AmJ:Zt (DE G0 479):=by unfold Zt;intros;refine KA (R:=Body (DE G0) MR) (R':=(DE G0) 479) (fun _ _ _ _ h=>lk (g:=479) rfl Tryz.func88 Ail h) ?_;apply Av2 (DE G0) En JO Anm AoK Aak AnR<;>assumption
theorem AjR:Zl (DE G0 492):=by unfold Zl;intros;refine KA (R:=Body (DE G0) MI) (R':=(DE G0) 492) (fun _ _ _ _ h=>lk (g:=492) rfl Tryz.func131 AiA h) ?_;apply Awj (DE G0) En AaH<;>assumption
theorem AiQ:V5 (DE G0 484):=by unfold V5;intros;refine KA (R:=Body (DE G0) Lj) (R':=(DE G0) 484) (fun _ _ _ _ h=>lk (g:=484) rfl Tryz.func91 Afy h) ?_;apply AtB (DE G0) En AjR<;>assumption
theorem Aj1:Aup (DE G0 215):=by unfold Aup;intros;refine lk (g:=215) rfl Tryz.func226 AwT ?_;apply AHU (DE G0)<;>assumption
theorem Aws:Axz (DE G0 253):=by unfold Axz;intros;refine lk (g:=253) rfl Tryz.func256 Axj ?_;apply AHM (DE G0)<;>assumption
theorem Avt:AxR (DE G0 212):=by unfold AxR;intros;refine lk (g:=212) rfl Tryz.func217 AlB ?_;apply AAz (DE G0) Aj1 Aws<;>assumption
theorem Apk:Aol (DE G0 339):=by unfold Aol;intros;refine lk (g:=339) rfl Tryz.func379 Aw4 ?_;apply AG2 (DE G0) DZ<;>assumption
theorem AbW:Xu (DE G0 338):=by unfold Xu;intros;refine lk (g:=338) rfl Tryz.func380 AuI ?_;apply AE3 (DE G0) Apk<;>assumption
theorem AmB:AaA (DE G0 313):=by unfold AaA;intros;refine lk (g:=313) rfl Tryz.func343 AnW ?_;apply AFI (DE G0) AbW Apk<;>assumption
theorem Ahn:Ke (DE G0 310):=by unfold Ke;intros;refine lk (g:=310) rfl Tryz.func340 AeF ?_;apply AqW (DE G0) AmB<;>assumption
theorem Adm:Lp (DE G0 308):=by unfold Lp;intros;refine lk (g:=308) rfl Tryz.func337 Ans ?_;apply AAk (DE G0)<;>assumption
theorem AaD:Nk (DE G0 331):=by unfold Nk;intros;refine lk (g:=331) rfl Tryz.func373 Aj0 ?_;apply Avy (DE G0) IE<;>assumption
theorem Acw:Ps (DE G0 311):=by unfold Ps;intros;refine lk (g:=311) rfl Tryz.func341 Ame ?_;apply AAp (DE G0) Adm AaD<;>assumption
theorem TI:Rb (DE G0 309):=by unfold Rb;intros;refine lk (g:=309) rfl Tryz.func339 Ap3 ?_;apply ACe (DE G0)<;>assumption
theorem Lf:Gc (DE G0 312):=by unfold Gc;intros;refine lk (g:=312) rfl Tryz.func342 AjQ ?_;apply AvM (DE G0) DZ Wn TI<;>assumption
theorem Ahj:JQ (DE G0 283):=by unfold JQ;intros;refine lk (g:=283) rfl Tryz.func294 AfR ?_;apply AqV (DE G0) Ahn Acw Lf TI AmB<;>assumption
theorem AnY:PZ (DE G0 251):=by unfold PZ;intros;refine lk (g:=251) rfl Tryz.func255 Ak8 ?_;apply Awu (DE G0) Oj Ahj<;>assumption
theorem Gv:Eo (DE G0 285):=by unfold Eo;intros;refine lk (g:=285) rfl Tryz.func327 Ak9 ?_;apply AwA (DE G0) Dl Lf<;>assumption
theorem AaN:KZ (DE G0 301):=by unfold KZ;intros;refine lk (g:=301) rfl Tryz.func329 Ain ?_;apply Aw7 (DE G0) Acw<;>assumption
theorem AoQ:PG (DE G0 258):=by unfold PG;intros;refine lk (g:=258) rfl Tryz.func371 Alu ?_;apply Avn (DE G0) YS Gv IE DZ<;>assumption
theorem MQ:FV (DE G0 286):=by unfold FV;intros;refine lk (g:=286) rfl Tryz.func331 Ag1 ?_;apply Atu (DE G0) Gv AaN AoQ<;>assumption
theorem Ael:Pp (DE G0 355):=by unfold Pp;intros;refine lk (g:=355) rfl Tryz.func389 AeT ?_;apply Aqt (DE G0)<;>assumption
theorem Ac0:Rs (DE G0 356):=by unfold Rs;intros;refine lk (g:=356) rfl Tryz.func390 AfJ ?_;apply ApX (DE G0) Ael<;>assumption
theorem Aky:Mc (DE G0 328):=by unfold Mc;intros;refine lk (g:=328) rfl Tryz.func367 Ab0 ?_;apply AkO (DE G0) Ael Ac0<;>assumption
theorem Aeg:Gi (DE G0 300):=by unfold Gi;intros;refine lk (g:=300) rfl Tryz.func328 AbY ?_;apply Amw (DE G0) MQ Aky<;>assumption
theorem Vi:Gr (DE G0 256):=by unfold Gr;intros;refine lk (g:=256) rfl Tryz.func392 AdO ?_;apply Am7 (DE G0)<;>assumption
theorem VO:Hz (DE G0 260):=by unfold Hz;intros;refine lk (g:=260) rfl Tryz.func391 Adw ?_;apply AnQ (DE G0) Dl Vi MQ<;>assumption
theorem Ace:GD (DE G0 222):=by unfold GD;intros;refine lk (g:=222) rfl Tryz.func368 ZV ?_;apply Ah3 (DE G0) Dl VO<;>assumption
theorem Ak1:Xz (DE G0 223):=by unfold Xz;intros;refine lk (g:=223) rfl Tryz.func338 AjN ?_;apply AzJ (DE G0) IE<;>assumption
theorem Aln:Ml (DE G0 329):=by unfold Ml;intros;refine lk (g:=329) rfl Tryz.func370 Ah7 ?_;apply Ate (DE G0) Lf VO Vi MQ Ac0<;>assumption
theorem Aii:Kc (DE G0 330):=by unfold Kc;intros;refine lk (g:=330) rfl Tryz.func369 AeN ?_;apply AqM (DE G0) Gv IE<;>assumption
theorem AkY:Mg (DE G0 302):=by unfold Mg;intros;refine lk (g:=302) rfl Tryz.func330 YB ?_;apply Asy (DE G0) Gv Ace Ak1 Aln Aii<;>assumption
theorem Akn:Me (DE G0 280):=by unfold Me;intros;refine lk (g:=280) rfl Tryz.func291 AhA ?_;apply Asg (DE G0) Gv Aeg AaN AkY<;>assumption
theorem Aeu:Ia (DE G0 332):=by unfold Ia;intros;refine lk (g:=332) rfl Tryz.func372 AbA ?_;apply AjW (DE G0) OB<;>assumption
theorem Aqg:TW (DE G0 303):=by unfold TW;intros;refine lk (g:=303) rfl Tryz.func332 ZU ?_;apply AAt (DE G0) IC Gv AaD Aeu<;>assumption
theorem YZ:Jp (DE G0 333):=by unfold Jp;intros;refine lk (g:=333) rfl Tryz.func374 Ahu ?_;apply AsV (DE G0) DZ Lf<;>assumption
theorem AiD:JW (DE G0 304):=by unfold JW;intros;refine lk (g:=304) rfl Tryz.func333 Afr ?_;apply Aq3 (DE G0) TI OB Gv YZ IE<;>assumption
theorem VB:Gq (DE G0 337):=by unfold Gq;intros;refine lk (g:=337) rfl Tryz.func378 AdX ?_;apply AoL (DE G0) Lf<;>assumption
theorem Agd:IW (DE G0 305):=by unfold IW;intros;refine lk (g:=305) rfl Tryz.func335 Aev ?_;apply AoO (DE G0) Gv VB<;>assumption
theorem Adz:HV (DE G0 306):=by unfold HV;intros;refine lk (g:=306) rfl Tryz.func336 Abu ?_;apply Ake (DE G0) YZ VB<;>assumption
theorem Aan:KX (DE G0 334):=by unfold KX;intros;refine lk (g:=334) rfl Tryz.func375 Aai ?_;apply Avw (DE G0) Wn<;>assumption
theorem AgY:J5 (DE G0 335):=by unfold J5;intros;refine lk (g:=335) rfl Tryz.func377 XH ?_;apply ApU (DE G0) Aan AbW<;>assumption
theorem Atn:Y1 (DE G0 336):=by unfold Y1;intros;refine lk (g:=336) rfl Tryz.func376 Aga ?_;apply AB6 (DE G0) AbW<;>assumption
theorem ArT:RF (DE G0 307):=by unfold RF;intros;refine lk (g:=307) rfl Tryz.func334 Ah8 ?_;apply AAy (DE G0) X6 Aan DZ AgY Atn<;>assumption
theorem AkJ:Mh (DE G0 281):=by unfold Mh;intros;refine lk (g:=281) rfl Tryz.func292 AiP ?_;apply At4 (DE G0) MQ Aqg AiD Agd Adz ArT Adm<;>assumption
theorem Anp:Qd (DE G0 282):=by unfold Qd;intros;refine lk (g:=282) rfl Tryz.func293 AkH ?_;apply Axa (DE G0) Ak1 TI DZ<;>assumption
theorem AvQ:AgE (DE G0 252):=by unfold AgE;intros;refine lk (g:=252) rfl Tryz.func254 Auo ?_;apply AFc (DE G0) Akn AkJ Anp<;>assumption
theorem An7:Qg (DE G0 213):=by unfold Qg;intros;refine lk (g:=213) rfl Tryz.func216 Ajz ?_;apply AwV (DE G0) Oj AnY AvQ<;>assumption
theorem AqA:TY (DE G0 142):=by unfold TY;intros;refine lk (g:=142) rfl Tryz.func147 AnS ?_;apply AzE (DE G0) DZ Avt An7<;>assumption
theorem Aou:PS (DE G0 284):=by unfold PS;intros;refine lk (g:=284) rfl Tryz.func260 Ak2 ?_;apply Awo (DE G0) DZ<;>assumption
theorem AmX:Qh (DE G0 254):=by unfold Qh;intros;refine lk (g:=254) rfl Tryz.func227 AjA ?_;apply AvR (DE G0) Hw DZ Aou<;>assumption
theorem AjC:Aui (DE G0 214):=by unfold Aui;intros;refine lk (g:=214) rfl Tryz.func218 Asu ?_;apply AFs (DE G0) AmX<;>assumption
theorem Ani:Aeq (DE G0 143):=by unfold Aeq;intros;refine lk (g:=143) rfl Tryz.func148 Ako ?_;apply AvJ (DE G0) DZ AjC IE<;>assumption
theorem YH:Vq (DE G0 155):=by unfold Vq;intros;refine lk (g:=155) rfl Tryz.func219 Ai0 ?_;apply AuS (DE G0) IE<;>assumption
theorem Ajb:F4 (DE G0 144):=by unfold F4;intros;refine lk (g:=144) rfl Tryz.func149 Afs ?_;apply Aq2 (DE G0) YH<;>assumption
theorem Ann:Y7 (DE G0 72):=by unfold Y7;intros;refine lk (g:=72) rfl Tryz.func60 Ah5 ?_;apply Aum (DE G0) DR DZ AqA Ani Aav Ajb<;>assumption
theorem U9:PL (DE G0 146):=by unfold PL;intros;refine lk (g:=146) rfl Tryz.func240 AdD ?_;apply AoD (DE G0) DR Hw AjC JO Aj1<;>assumption
theorem AkI:WV (DE G0 74):=by unfold WV;intros;refine lk (g:=74) rfl Tryz.func192 Afj ?_;apply ApY (DE G0) DR Hw U9<;>assumption
theorem AmH:Y4 (DE G0 156):=by unfold Y4;intros;refine lk (g:=156) rfl Tryz.func275 AhE ?_;apply AuD (DE G0) DZ<;>assumption
theorem AlK:W9 (DE G0 82):=by unfold W9;intros;refine lk (g:=82) rfl Tryz.func241 Afm ?_;apply Aqj (DE G0) YH AmH<;>assumption
theorem Aiz:Xa (DE G0 147):=by unfold Xa;intros;refine lk (g:=147) rfl Tryz.func242 Agk ?_;apply Aq4 (DE G0) Sn Hw<;>assumption
theorem AhI:WX (DE G0 148):=by unfold WX;intros;refine lk (g:=148) rfl Tryz.func243 Ae4 ?_;apply Aqk (DE G0) Sn Hw<;>assumption
theorem Od:Md (DE G0 167):=by unfold Md;intros;refine lk (g:=167) rfl Tryz.func276 AcM ?_;apply AqQ (DE G0)<;>assumption
theorem Aa2:Pg (DE G0 149):=by unfold Pg;intros;refine lk (g:=149) rfl Tryz.func244 ZT ?_;apply AiN (DE G0) DR Od IC<;>assumption
theorem Akj:Wy (DE G0 75):=by unfold Wy;intros;refine lk (g:=75) rfl Tryz.func194 Afb ?_;apply Arq (DE G0) DR AlK Aiz U9 AhI Aa2<;>assumption
theorem Aoz:Zi (DE G0 96):=by unfold Zi;intros;refine lk (g:=96) rfl Tryz.func393 AhN ?_;apply Atd (DE G0) IC Od<;>assumption
theorem Atj:ArE (DE G0 255):=by unfold ArE;intros;refine lk (g:=255) rfl Tryz.func394 AqB ?_;apply ABL (DE G0) IC<;>assumption
theorem AhD:WY (DE G0 216):=by unfold WY;intros;refine lk (g:=216) rfl Tryz.func388 AfB ?_;apply Aqd (DE G0) Dl IE DZ Aoz Atj<;>assumption
theorem Aac:Nr (DE G0 150):=by unfold Nr;intros;refine lk (g:=150) rfl Tryz.func365 Yu ?_;apply AfN (DE G0) AhD Od<;>assumption
theorem AhU:TA (DE G0 76):=by unfold TA;intros;refine lk (g:=76) rfl Tryz.func324 Ad8 ?_;apply AnJ (DE G0) DR Aez Aac<;>assumption
theorem AeM:Ua (DE G0 151):=by unfold Ua;intros;refine lk (g:=151) rfl Tryz.func366 Adb ?_;apply AmU (DE G0) Dl DZ IE JO<;>assumption
theorem AhS:TF (DE G0 77):=by unfold TF;intros;refine lk (g:=77) rfl Tryz.func325 AcQ ?_;apply AoN (DE G0) DR AeM<;>assumption
theorem AqR:Adc (DE G0 78):=by unfold Adc;intros;refine lk (g:=78) rfl Tryz.func195 Amr ?_;apply AvI (DE G0) DR DZ YS<;>assumption
theorem Alx:WL (DE G0 79):=by unfold WL;intros;refine lk (g:=79) rfl Tryz.func326 AfL ?_;apply Aq5 (DE G0) DR DZ<;>assumption
theorem Aok:Zj (DE G0 80):=by unfold Zj;intros;refine lk (g:=80) rfl Tryz.func193 Aiv ?_;apply Atw (DE G0) DR DZ<;>assumption
theorem Ah9:TN (DE G0 27):=by unfold TN;intros;refine lk (g:=27) rfl Tryz.func290 AdJ ?_;apply AnU (DE G0) DR Ann AkI Akj AhU AhS AqR Alx Aok<;>assumption
theorem Aij:Wm (DE G0 485):=by unfold Wm;intros;refine lk (g:=485) rfl Tryz.func250 Ago ?_;apply AqI (DE G0) DR Ah9<;>assumption
theorem AkN:Zm (DE G0 541):=by unfold Zm;intros;refine KA (R:=Body (DE G0) MX) (R':=(DE G0) 541) (fun _ _ _ _ h=>lk (g:=541) rfl Tryz.func207 Aiy h) ?_;apply Aw0 (DE G0) En Yp AmJ AiQ Aij<;>assumption
theorem AbX:Gy (DE G0 540):=by unfold Gy;intros;refine Asf (R:=Body (DE G0) I4) (R':=(DE G0) 540) (fun _ _ _ _ h=>lk (g:=540) rfl Tryz.func132 ZW h) ?_;apply AjL (DE G0) AtC AkN<;>assumption
theorem Abq:Gy (DE G0 538):=by unfold Gy;intros;refine Asf (R:=Body (DE G0) JD) (R':=(DE G0) 538) (fun _ _ _ _ h=>lk (g:=538) rfl Tryz.func49 Aa0 h) ?_;apply Anb (DE G0) AbX<;>assumption
theorem AaL:K8 (DE G0 123):=by unfold K8;intros;refine lk (g:=123) rfl Tryz.func97 Ama ?_;apply Axm (DE G0)<;>assumption
theorem EO:Qo (DE G0 114):=by unfold Qo;intros;refine lk (g:=114) rfl Tryz.func105 Aml ?_;apply Az5 (DE G0)<;>assumption
theorem FY:BA (DE G0 232):=by unfold BA;intros;refine lk (g:=232) rfl Tryz.func185 AbJ ?_;apply Alc (DE G0) EO<;>assumption
theorem Asl:AqL (DE G0 389):=by unfold AqL;intros;refine lk (g:=389) rfl Tryz.func191 Tw ?_;apply AEJ (DE G0)<;>assumption
theorem Kn:PX (DE G0 188):=by unfold PX;intros;refine lk (g:=188) rfl Tryz.func104 QN ?_;apply Awg (DE G0) Asl<;>assumption
theorem AjK:Mi (DE G0 242):=by unfold Mi;intros;refine lk (g:=242) rfl Tryz.func210 AhZ ?_;apply As8 (DE G0) Kn<;>assumption
theorem Ot:DY (DE G0 190):=by unfold DY;intros;refine lk (g:=190) rfl Tryz.func135 Acn ?_;apply Anh (DE G0) AjK FY<;>assumption
theorem Ahb:Ws (DE G0 268):=by unfold Ws;intros;refine lk (g:=268) rfl Tryz.func187 Aea ?_;apply AuF (DE G0) Ot<;>assumption
theorem Z9:Np (DE G0) (DE G0 405):=by unfold Np;intros;refine lk (g:=405) rfl Tryz.func238 Mx ?_;apply AiV (DE G0)<;>assumption
theorem Nh:Ig (DE G0) (DE G0 269):=by unfold Ig;intros;refine lk (g:=269) rfl Tryz.func186 KS ?_;apply Aa8 (DE G0) Z9<;>assumption
theorem YN:Kz (DE G0 234):=by unfold Kz;intros;refine lk (g:=234) rfl Tryz.func96 Aic ?_;apply Atg (DE G0) FY Ahb Nh<;>assumption
theorem Ad0:Rv (DE G0 266):=by unfold Rv;intros;refine lk (g:=266) rfl Tryz.func239 ZM ?_;apply Aoy (DE G0) EO<;>assumption
theorem AiW:Ww (DE G0) (DE G0 404):=by unfold Ww;intros;refine lk (g:=404) rfl Tryz.func252 P7 ?_;apply Ar9 (DE G0)<;>assumption
theorem Tn:Lb (DE G0) (DE G0 267):=by unfold Lb;intros;refine lk (g:=267) rfl Tryz.func212 Nv ?_;apply AjH (DE G0) AiW<;>assumption
theorem Kq:JN (DE G0 233):=by unfold JN;intros;refine lk (g:=233) rfl Tryz.func188 Adg ?_;apply Arf (DE G0) Ad0 Tn<;>assumption
theorem Aaz:M6 (DE G0 235):=by unfold M6;intros;refine lk (g:=235) rfl Tryz.func98 Akg ?_;apply AwE (DE G0) Kq<;>assumption
theorem YQ:Jm (DE G0 236):=by unfold Jm;intros;refine lk (g:=236) rfl Tryz.func99 AdU ?_;apply AuL (DE G0) EO<;>assumption
theorem Vv:FL (DE G0 279):=by unfold FL;intros;refine lk (g:=279) rfl Tryz.func213 Acm ?_;apply Aot (DE G0) EO<;>assumption
theorem O3:Mt (DE G0 270):=by unfold Mt;intros;refine lk (g:=270) rfl Tryz.func139 Adt ?_;apply AnX (DE G0) Vv Tn<;>assumption
theorem Agy:R6 (DE G0 183):=by unfold R6;intros;refine lk (g:=183) rfl Tryz.func118 Aq6 ?_;apply ABX (DE G0) EO Kq<;>assumption
theorem AcH:Ru (DE G0 271):=by unfold Ru;intros;refine lk (g:=271) rfl Tryz.func190 Aad ?_;apply AoE (DE G0) Agy<;>assumption
theorem Ab8:Pn (DE G0) (DE G0 406):=by unfold Pn;intros;refine lk (g:=406) rfl Tryz.func203 JF ?_;apply AkC (DE G0)<;>assumption
theorem NP:IK (DE G0) (DE G0 272):=by unfold IK;intros;refine lk (g:=272) rfl Tryz.func120 I5 ?_;apply Ad1 (DE G0) Ab8<;>assumption
theorem NV:Fb (DE G0 239):=by unfold Fb;intros;refine lk (g:=239) rfl Tryz.func102 Adv ?_;apply Aof (DE G0) FY Aaz O3 AcH NP EO<;>assumption
theorem Ami:ZE (DE G0 237):=by unfold ZE;intros;refine lk (g:=237) rfl Tryz.func101 AeV ?_;apply Axn (DE G0) NV<;>assumption
theorem VJ:I7 (DE G0) (DE G0 393):=by unfold I7;intros;refine lk (g:=393) rfl Tryz.func189 Hf ?_;apply Aah (DE G0)<;>assumption
theorem SH:G7 (DE G0) (DE G0 238):=by unfold G7;intros;refine lk (g:=238) rfl Tryz.func100 Gg ?_;apply Wd (DE G0) VJ<;>assumption
theorem Qr:EB (DE G0 176):=by unfold EB;intros;refine lk (g:=176) rfl Tryz.func103 AeS ?_;apply AqF (DE G0) EO<;>assumption
theorem Aal:Nj (DE G0 184):=by unfold Nj;intros;refine lk (g:=184) rfl Tryz.func24 Al8 ?_;apply AvA (DE G0) AaL YN Aaz YQ Ami SH Qr Kn EO<;>assumption
theorem Aha:F4 (DE G0 229):=by unfold F4;intros;refine lk (g:=229) rfl Tryz.func197 Arn ?_;apply AEU (DE G0) Kn<;>assumption
theorem AiE:F4 (DE G0 175):=by unfold F4;intros;refine lk (g:=175) rfl Tryz.func108 Af0 ?_;apply AqN (DE G0) Aha<;>assumption
theorem Akc:AsD (DE G0 196):=by unfold AsD;intros;refine lk (g:=196) rfl Tryz.func136 Aoq ?_;apply ADU (DE G0) AiE<;>assumption
theorem AwU:ADY (DE G0 197):=AAn (k:=202) rfl (fun p c w=>Tryz.slices_Sort_int_none p c w) (fun b o c zs w h1 h2 h3=>Tryz.slices_Sort_int b o c zs w h1 h2 h3)
theorem An9:CompactS (DE G0 198):=ArJ (k:=208) rfl (fun p c w=>Tryz.slices_Compact_int_empty p c w) (fun b o c zs w h1 h2 h3=>Tryz.slices_Compact_int b o c zs w h1 h2 h3)
theorem Alv:ZB (DE G0 131):=by unfold ZB;intros;refine lk (g:=131) rfl Tryz.func133 Ae5 ?_;apply Aux (DE G0) Akc AwU An9<;>assumption
theorem An5:PS (DE G0 291):=by unfold PS;intros;refine lk (g:=291) rfl Tryz.func251 Amb ?_;apply Axi (DE G0) EO<;>assumption
theorem An0:Qh (DE G0 263):=by unfold Qh;intros;refine lk (g:=263) rfl Tryz.func209 AlY ?_;apply Axf (DE G0) Qr EO An5<;>assumption
theorem AkX:Zg (DE G0 245):=by unfold Zg;intros;refine lk (g:=245) rfl Tryz.func134 Ahd ?_;apply Atz (DE G0) Qr EO An0<;>assumption
theorem Xm:Te (DE G0 200):=by unfold Te;intros;refine lk (g:=200) rfl Tryz.func50 Agq ?_;apply AqG (DE G0) Alv AkX<;>assumption
theorem Aqn:Ajs (DE G0 117):=by unfold Ajs;intros;refine lk (g:=117) rfl Tryz.func92 Aop ?_;apply ACq (DE G0) EO<;>assumption
theorem An8:Ado (DE G0 350):=by unfold Ado;intros;refine lk (g:=350) rfl Tryz.func306 Aew ?_;apply Asd (DE G0)<;>assumption
theorem J6:Ma (DE G0) (DE G0 298):=by unfold Ma;intros;refine lk (g:=298) rfl Tryz.func305 Aho ?_;apply AvN (DE G0)<;>assumption
theorem Aci:Ps (DE G0 318):=by unfold Ps;intros;refine lk (g:=318) rfl Tryz.func267 Aiq ?_;apply Av7 (DE G0) An8 J6<;>assumption
theorem ApI:Aol (DE G0 354):=by unfold Aol;intros;refine lk (g:=354) rfl Tryz.func310 Awm ?_;apply AGY (DE G0) EO<;>assumption
theorem Abe:Xu (DE G0 353):=by unfold Xu;intros;refine lk (g:=353) rfl Tryz.func311 At8 ?_;apply AFK (DE G0) ApI<;>assumption
theorem Amj:AaA (DE G0 322):=by unfold AaA;intros;refine lk (g:=322) rfl Tryz.func272 AnG ?_;apply AFY (DE G0) Abe ApI<;>assumption
theorem Ai5:Ke (DE G0 319):=by unfold Ke;intros;refine lk (g:=319) rfl Tryz.func268 AeK ?_;apply Aru (DE G0) Amj<;>assumption
theorem Aqi:Ajg (DE G0 351):=by unfold Ajg;intros;refine lk (g:=351) rfl Tryz.func308 AjU ?_;apply ACl (DE G0)<;>assumption
theorem Sl:K5 (DE G0) (DE G0 352):=by unfold K5;intros;refine lk (g:=352) rfl Tryz.func307 JE ?_;apply Amu (DE G0)<;>assumption
theorem Agv:Rb (DE G0 321):=by unfold Rb;intros;refine lk (g:=321) rfl Tryz.func270 Aq1 ?_;apply ACH (DE G0) Aqi Sl<;>assumption
theorem Ld:Gc (DE G0 320):=by unfold Gc;intros;refine lk (g:=320) rfl Tryz.func269 Akb ?_;apply Awx (DE G0) EO Agv Kq<;>assumption
theorem ApT:Aqm (DE G0 323):=AuR (k:=271) rfl (fun b o c w=>Go.Eng.Ins.AJu b o c w) (fun b o c v w h=>Go.Eng.Ins.AJv b o c v w h) (fun b o c v w h=>Go.Eng.Ins.AJq b o c v w h)
theorem Aqp:AqZ (DE G0 324):=AuW (k:=273) rfl Go.Eng.Ins.AJy
theorem Ai1:JQ (DE G0 290):=by unfold JQ;intros;refine lk (g:=290) rfl Tryz.func235 Ac8 ?_;apply Aqz (DE G0) Aci Ai5 Ld Agv Amj ApT Aqp<;>assumption
theorem AnA:PZ (DE G0 261):=by unfold PZ;intros;refine lk (g:=261) rfl Tryz.func181 Al6 ?_;apply AwL (DE G0) NV Ai1<;>assumption
theorem Il:Eo (DE G0 292):=by unfold Eo;intros;refine lk (g:=292) rfl Tryz.func261 Alr ?_;apply Awz (DE G0) FY Ld<;>assumption
theorem Aap:KZ (DE G0 293):=by unfold KZ;intros;refine lk (g:=293) rfl Tryz.func263 Ae8 ?_;apply AuO (DE G0) Aci<;>assumption
theorem AAN:AGX (DE G0 325):=AF4 (k:=360) rfl (fun b off n c zs w h1 h2 h3 h4=>Tryz.slices_Max_int b off n c zs w h1 h2 h3 h4)
theorem Ap9:Ajk (DE G0 326):=by unfold Ajk;intros;refine lk (g:=326) rfl Tryz.func362 Ams ?_;apply ADg (DE G0) Kn EO<;>assumption
theorem XL:Kt (DE G0) (DE G0 327):=by unfold Kt;intros;refine lk (g:=327) rfl Tryz.func361 IY ?_;apply Aex (DE G0) Sl<;>assumption
theorem Ar8:Aq7 (DE G0 295):=by unfold Aq7;intros;refine lk (g:=295) rfl Tryz.func314 ArS ?_;apply AF3 (DE G0) AAN Ap9 XL<;>assumption
theorem Aso:Avp (DE G0 296):=AAd (k:=315) rfl (fun n c w=>Tryz.slices_Clone_int_nil n c w) (fun a c w=>Tryz.slices_Clone_int_zero a c w) (fun b off n c zs w h1 h2 h3=>Tryz.slices_Clone_int b off n c zs w h1 h2 h3)
theorem Amn:ZA (DE G0 297):=by unfold ZA;intros;refine lk (g:=297) rfl Tryz.func316 Agf ?_;apply Awi (DE G0) Kn<;>assumption
theorem An3:PG (DE G0 294):=by unfold PG;intros;refine lk (g:=294) rfl Tryz.func274 Amy ?_;apply Avm (DE G0) Agy Il Ar8 Aso Amn J6<;>assumption
theorem MG:FV (DE G0 274):=by unfold FV;intros;refine lk (g:=274) rfl Tryz.func236 AhG ?_;apply Ath (DE G0) Il Aap An3<;>assumption
theorem AdH:Pp (DE G0 357):=by unfold Pp;intros;refine lk (g:=357) rfl Tryz.func123 Tv ?_;apply ACw (DE G0)<;>assumption
theorem Akz:VZ (DE G0 371):=by unfold VZ;intros;refine lk (g:=371) rfl Tryz.func382 Ahk ?_;apply AwB (DE G0) AdH<;>assumption
theorem AiG:Wh (DE G0) (DE G0 372):=by unfold Wh;intros;refine lk (g:=372) rfl Tryz.func381 Fw ?_;apply AsA (DE G0)<;>assumption
theorem ArV:Rs (DE G0 358):=by unfold Rs;intros;refine lk (g:=358) rfl Tryz.func344 Agl ?_;apply AqP (DE G0) Akz AiG<;>assumption
theorem AlG:Mc (DE G0 340):=by unfold Mc;intros;refine lk (g:=340) rfl Tryz.func295 AbL ?_;apply Ak5 (DE G0) AdH ArV<;>assumption
theorem Ub:Gi (DE G0 314):=by unfold Gi;intros;refine lk (g:=314) rfl Tryz.func262 AaV ?_;apply AjI (DE G0) MG AlG<;>assumption
theorem Vg:Gr (DE G0 273):=by unfold Gr;intros;refine lk (g:=273) rfl Tryz.func237 Aeb ?_;apply Anl (DE G0)<;>assumption
theorem AbS:GD (DE G0 240):=by unfold GD;intros;refine lk (g:=240) rfl Tryz.func183 ZL ?_;apply Aik (DE G0) FY Vg MG<;>assumption
theorem V7:Xz (DE G0 189):=by unfold Xz;intros;refine lk (g:=189) rfl Tryz.func182 AlZ ?_;apply AvO (DE G0) Kn<;>assumption
theorem AfV:Hz (DE G0 360):=by unfold Hz;intros;refine lk (g:=360) rfl Tryz.func346 AdE ?_;apply Aod (DE G0) FY Vg MG<;>assumption
theorem AkZ:Ml (DE G0 341):=by unfold Ml;intros;refine lk (g:=341) rfl Tryz.func297 AgZ ?_;apply As5 (DE G0) Ld AfV Ub<;>assumption
theorem Afl:Tx (DE G0 359):=by unfold Tx;intros;refine lk (g:=359) rfl Tryz.func345 Abh ?_;apply Ap0 (DE G0) Kn<;>assumption
theorem AiR:Kc (DE G0 342):=by unfold Kc;intros;refine lk (g:=342) rfl Tryz.func296 Afi ?_;apply Arl (DE G0) Il V7 Afl J6<;>assumption
theorem AmG:Mg (DE G0 315):=by unfold Mg;intros;refine lk (g:=315) rfl Tryz.func264 XW ?_;apply Auf (DE G0) AbS V7 AkZ AiR<;>assumption
theorem AjO:Me (DE G0 287):=by unfold Me;intros;refine lk (g:=287) rfl Tryz.func232 AhT ?_;apply Aus (DE G0) Il Ub Aap AmG<;>assumption
theorem AjF:Zb (DE G0 374):=by unfold Zb;intros;refine lk (g:=374) rfl Tryz.func384 AeH ?_;apply Awq (DE G0) Kn<;>assumption
theorem Ant:Nk (DE G0 361):=by unfold Nk;intros;refine lk (g:=361) rfl Tryz.func348 Aj2 ?_;apply AwO (DE G0) AjF J6<;>assumption
theorem AgX:Xi (DE G0 373):=by unfold Xi;intros;refine lk (g:=373) rfl Tryz.func383 XV ?_;apply Al7 (DE G0) Vv<;>assumption
theorem AdK:Ia (DE G0 362):=by unfold Ia;intros;refine lk (g:=362) rfl Tryz.func347 AbO ?_;apply Akh (DE G0) AgX J6<;>assumption
theorem ArQ:TW (DE G0 343):=by unfold TW;intros;refine lk (g:=343) rfl Tryz.func298 ZR ?_;apply AAv (DE G0) Ot Il Ant AdK<;>assumption
theorem Yd:Jp (DE G0 369):=by unfold Jp;intros;refine lk (g:=369) rfl Tryz.func355 Ah2 ?_;apply AuB (DE G0) EO Ld<;>assumption
theorem RI:Lp (DE G0 317):=by unfold Lp;intros;refine lk (g:=317) rfl Tryz.func266 Aoc ?_;apply Az1 (DE G0)<;>assumption
theorem Aid:WR (DE G0 370):=by unfold WR;intros;refine lk (g:=370) rfl Tryz.func356 Ae7 ?_;apply Arw (DE G0) RI O3<;>assumption
theorem AiB:JW (DE G0 348):=by unfold JW;intros;refine lk (g:=348) rfl Tryz.func303 Af9 ?_;apply Aqq (DE G0) Il Yd Kn RI V7 Aid<;>assumption
theorem Vk:Gq (DE G0 367):=by unfold Gq;intros;refine lk (g:=367) rfl Tryz.func353 AcD ?_;apply Am0 (DE G0) Ld<;>assumption
theorem AvE:ADW (DE G0 419):=AAj (k:=386) rfl (fun w=>Go.Eng.Ins.AIE w) (fun n w h1 h2=>Go.Eng.Ins.AIy n w h1 h2)
theorem AdI:Ad4 (DE G0 368):=by unfold Ad4;intros;refine lk (g:=368) rfl Tryz.func354 RB ?_;apply AC1 (DE G0) AvE<;>assumption
theorem AeC:IW (DE G0 345):=by unfold IW;intros;refine lk (g:=345) rfl Tryz.func301 Aed ?_;apply An6 (DE G0) Il Vk AdI<;>assumption
theorem Adh:HV (DE G0 346):=by unfold HV;intros;refine lk (g:=346) rfl Tryz.func302 Aa6 ?_;apply AkG (DE G0) Yd Vk<;>assumption
theorem AkK:Zw (DE G0 375):=by unfold Zw;intros;refine lk (g:=375) rfl Tryz.func385 XJ ?_;apply AwK (DE G0) Kq<;>assumption
theorem AaK:KX (DE G0 364):=by unfold KX;intros;refine lk (g:=364) rfl Tryz.func350 Aab ?_;apply Axe (DE G0) AkK Nh<;>assumption
theorem Aib:J5 (DE G0 365):=by unfold J5;intros;refine lk (g:=365) rfl Tryz.func352 XE ?_;apply Aqe (DE G0) AaK Abe<;>assumption
theorem Atf:Y1 (DE G0 366):=by unfold Y1;intros;refine lk (g:=366) rfl Tryz.func351 AfG ?_;apply AC8 (DE G0) AdI Abe<;>assumption
theorem Aem:RF (DE G0 347):=by unfold RF;intros;refine lk (g:=347) rfl Tryz.func300 Ahc ?_;apply AAf (DE G0) YQ AaK EO Aib Atf<;>assumption
theorem Aif:WA (DE G0 349):=by unfold WA;intros;refine lk (g:=349) rfl Tryz.func304 AfU ?_;apply Arv (DE G0) Aem<;>assumption
theorem AsM:AqK (DE G0 316):=by unfold AqK;intros;refine lk (g:=316) rfl Tryz.func265 Aoi ?_;apply AEB (DE G0) ArQ AiB AeC Adh Aem Aif RI<;>assumption
theorem AjG:Mh (DE G0 288):=by unfold Mh;intros;refine lk (g:=288) rfl Tryz.func233 Ahi ?_;apply AsQ (DE G0) MG AsM<;>assumption
theorem Anq:Qd (DE G0 289):=by unfold Qd;intros;refine lk (g:=289) rfl Tryz.func234 AmN ?_;apply AwW (DE G0) V7 RI EO<;>assumption
theorem Avi:AgE (DE G0 262):=by unfold AgE;intros;refine lk (g:=262) rfl Tryz.func180 As9 ?_;apply AEK (DE G0) AjO AjG Anq<;>assumption
theorem Aov:Qg (DE G0 227):=by unfold Qg;intros;refine lk (g:=227) rfl Tryz.func93 Ak7 ?_;apply Axd (DE G0) NV AnA Avi<;>assumption
theorem AqT:TY (DE G0 173):=by unfold TY;intros;refine lk (g:=173) rfl Tryz.func21 AnO ?_;apply AyF (DE G0) Aqn Aov<;>assumption
theorem Aoe:AcL (DE G0 299):=by unfold AcL;intros;refine lk (g:=299) rfl Tryz.func122 Al9 ?_;apply Aww (DE G0)<;>assumption
theorem AaP:Pe (DE G0 278):=by unfold Pe;intros;refine lk (g:=278) rfl Tryz.func121 YR ?_;apply Ala (DE G0) Aoe<;>assumption
theorem AcA:Rw (DE G0 246):=by unfold Rw;intros;refine lk (g:=246) rfl Tryz.func41 AbN ?_;apply AlR (DE G0) AaP NP<;>assumption
theorem VA:Py (DE G0 201):=by unfold Py;intros;refine lk (g:=201) rfl Tryz.func51 AcI ?_;apply AoM (DE G0) AqT AcA Ot AaL YN<;>assumption
theorem Xy:SF (DE G0 202):=by unfold SF;intros;refine lk (g:=202) rfl Tryz.func52 Agb ?_;apply AqJ (DE G0) Akc<;>assumption
theorem Amq:Y9 (DE G0 247):=by unfold Y9;intros;refine lk (g:=247) rfl Tryz.func138 AfT ?_;apply AwZ (DE G0) O3 EO<;>assumption
theorem XC:Kr (DE G0) (DE G0 403):=by unfold Kr;intros;refine lk (g:=403) rfl Tryz.func211 Ip ?_;apply AcG (DE G0)<;>assumption
theorem Ux:Iq (DE G0) (DE G0 248):=by unfold Iq;intros;refine lk (g:=248) rfl Tryz.func137 Ho ?_;apply YA (DE G0) XC<;>assumption
theorem AaO:Yj (DE G0 203):=by unfold Yj;intros;refine lk (g:=203) rfl Tryz.func53 Aj4 ?_;apply Av8 (DE G0) Amq Ux<;>assumption
theorem Anj:AdP (DE G0 133):=by unfold AdP;intros;refine lk (g:=133) rfl Tryz.func17 Amd ?_;apply Av9 (DE G0) Aal Xm VA Xy AaO<;>assumption
theorem Ag9:Abv (DE G0 537):=by unfold Abv;intros;refine lk (g:=537) rfl Tryz.func8 Afz ?_;apply Ata (DE G0) AyD Abq Anj Aal Xm VA Xy AaO<;>assumption
theorem den (G0:Gl) (av:List V) (h:Aj7 av):DE G0 537 av [] (B true) []:=by
 obtain⟨bs,hb,rfl⟩:=AJt h
 exact Ag9 bs hb
end Go.Eng.T
