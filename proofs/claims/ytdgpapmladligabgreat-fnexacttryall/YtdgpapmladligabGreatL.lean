/- Own work: part 48 of the proof of FnExactTryAll. -/
import Derived.Test.YtdgpapmladligabGreatP47
import Derived.Test.YtdgpapmladligabGreatProg
import Derived.KernelRfl
set_option linter.unusedSimpArgs false
set_option linter.unusedVariables false
namespace Go.Eng.T
open Go.Proofs
set_option maxRecDepth 100000
def AGW:List (Option Nat):=[none,none,none,none,none,none,none,some 9,some 11,none,none,some 13,some 14,some 15,none,none,some 54,some 55,some 56,some 57,some 58,none,some 59,none,none,some 10,none,none,none,none,none,some 61,some 62,some 63,some 64,some 65,none,none,some 66,none,none,none,none,none,some 12,none,none,some 67,some 68,some 69,some 70,some 71,some 72,some 73,some 74,some 75,some 76,some 77,some 78,some 79,some 80,some 81,some 140,some 141,some 142,some 143,some 144,some 145,none,none,none,some 146,some 60,none,none,none,none,none,none,none,none,none,none,none,none,none,none,none,none,none,none,none,none,none,none,none,none,none,some 150,some 151,some 152,some 153,some 154,some 107,none,none,some 26,none,none,none,none,none,none,none,some 105,none,none,some 92,none,none,none,none,none,none,none,none,none,none,none,none,none,none,none,none,some 155,some 156,some 157,some 158,some 159,some 214,some 215,none,some 147,some 148,some 149,some 164,none,none,none,none,none,none,some 225,none,none,some 219,none,none,none,none,none,none,none,none,none,none,some 165,none,some 171,none,some 220,some 221,some 119,some 21,some 95,some 108,some 103,none,none,none,none,none,none,some 118,none,none,none,none,some 104,some 182,some 135,none,none,none,none,none,none,none,none,none,none,none,none,none,some 222,some 223,some 253,some 160,some 161,none,some 163,none,some 217,some 216,some 218,some 226,none,some 259,none,none,none,none,some 368,some 338,some 229,none,some 257,some 93,some 184,some 197,none,none,some 185,some 188,none,some 98,some 99,none,none,some 102,some 183,none,some 210,none,none,none,none,none,none,some 258,some 224,some 255,some 254,some 256,some 227,none,some 392,none,some 371,none,some 391,some 181,some 180,some 209,none,none,some 239,some 212,none,some 186,some 139,some 190,some 120,some 237,some 236,none,none,none,none,some 213,some 291,some 292,some 293,some 294,some 260,some 327,some 331,some 232,some 233,some 234,some 235,some 251,some 261,some 263,some 274,some 314,some 315,some 316,some 305,none,some 328,some 329,some 330,some 332,some 333,some 335,some 336,some 334,some 337,some 339,some 340,some 341,some 342,some 343,some 262,some 264,some 265,some 266,some 267,some 268,some 269,some 270,some 272,some 271,some 273,some 360,some 362,some 361,some 367,some 370,some 369,some 373,some 372,some 374,some 375,some 377,some 376,some 378,some 380,some 379,some 295,some 297,some 296,some 298,none,some 301,some 302,some 300,some 303,some 304,some 306,some 308,some 307,some 311,some 310,some 389,some 390,some 123,some 344,some 345,some 346,some 348,some 347,none,some 350,some 352,some 351,some 353,some 354,some 355,some 356,some 382,some 381,some 383,some 384,some 385,none,none,none,none,none,none,none,none,none,none,none,none,none,some 191,none,none,none,none,none,none,none,none,none,none,none,none,none,none,some 252,some 238,some 203,none,none,none,none,none,none,none,none,none,none,none,none,some 386,none,none,none,none,none,none,none,none,none,none,none,none,none,none,none,none,none,none,none,none,none,none,none,none,none,none,none,none,none,none,none,none,none,none,none,none,none,none,none,none,none,none,none,none,none,none,none,none,none,none,none,none,none,none,none,none,none,none,none,none,none,none,none,none,none,none,none,none,none,none,none,none,none,none,none,none,none,none,none,none,none,none,none,none,none,none,none,none,none,none,none,none,none,none,none,none,none,none,none,some 3,none,none,none,none,none,none,none,none,none,none,none,none,none,none,none,none,none,none,none,none,none,none]
def Ae:Nat→Option FuncId:=fun g=>AGW.getD g none
theorem Axk:Tryz.prog.follows .mixedOrders=true:=by kernel_rfl
theorem hFl:AGW.all (fun o=>match o with | some f=>okF Tryz.prog f | none=>true)=true:=by kernel_rfl
theorem hF:∀g f,Ae g=some f→okF Tryz.prog f=true:=by
 intro g f h
 have:=List.all_eq_true.1 hFl (some f) (by
  unfold Ae at h
  rw[List.getD_eq_getElem?_getD]at h
  cases hg:AGW[g]? with
  | none=>simp[hg]at h
  | some o=>simp[hg]at h;subst h;exact List.mem_of_getElem? hg)
 exact this
abbrev G0:Gl:=⟨fun _=>False,fun _=>none⟩
abbrev DD:Dn:=Den Tryz.prog Ae G0
theorem lk {g:Nat} {f:FuncId} {fn:Func} {st:List Tmp} {sf:Bl} (hg:Ae g=some f) (hfn:Tryz.prog.funcs[f]? =some fn) (hm:Bp Tryz.prog Ae st sf fn=true) {a:List V} {gi:List O} {r:V} {o:List O}
 (h:Body DD sf a gi r o):DD g a gi r o:=
 ACb Axk (fun _ _ _ _ _ h=>h) hF (fun id hid=>by rw[hg]at hid;cases hid;exact hfn) hm h
theorem AnC:Bp Tryz.prog Ae Akf WZ Tryz.f143=true:=by kernel_rfl
theorem AlT:Bp Tryz.prog Ae Ai2 Uq Tryz.f144=true:=by kernel_rfl
theorem AeJ:Bp Tryz.prog Ae AcJ QY Tryz.f145=true:=by kernel_rfl
theorem Akl:Bp Tryz.prog Ae Ahp Un Tryz.f59=true:=by kernel_rfl
theorem AuJ:Bp Tryz.prog Ae Ap7 AbI Tryz.f146=true:=by kernel_rfl
theorem AwT:Bp Tryz.prog Ae AuU AfM Tryz.f226=true:=by kernel_rfl
theorem Axj:Bp Tryz.prog Ae Asj AeO Tryz.f256=true:=by kernel_rfl
theorem AlB:Bp Tryz.prog Ae Ahg Ut Tryz.f217=true:=by kernel_rfl
theorem AdR:Bp Tryz.prog Ae Acb O7 Tryz.f224=true:=by kernel_rfl
theorem AnH:Bp Tryz.prog Ae Ald Wt Tryz.f259=true:=by kernel_rfl
theorem Ap4:Bp Tryz.prog Ae AnD Y0 Tryz.f225=true:=by kernel_rfl
theorem Abf:Bp Tryz.prog Ae Z4 MP Tryz.f161=true:=by kernel_rfl
theorem AcP:Bp Tryz.prog Ae AbD OO Tryz.f160=true:=by kernel_rfl
theorem Aw4:Bp Tryz.prog Ae AtU AfO Tryz.f379=true:=by kernel_rfl
theorem AuI:Bp Tryz.prog Ae AqC AbQ Tryz.f380=true:=by kernel_rfl
theorem AnW:Bp Tryz.prog Ae Ak3 V3 Tryz.f343=true:=by kernel_rfl
theorem AeF:Bp Tryz.prog Ae AcZ Qu Tryz.f340=true:=by kernel_rfl
theorem Ans:Bp Tryz.prog Ae AlX Xh Tryz.f337=true:=by kernel_rfl
theorem Arj:Bp Tryz.prog Ae Ano X4 Tryz.f165=true:=by kernel_rfl
theorem Aj0:Bp Tryz.prog Ae AiT U4 Tryz.f373=true:=by kernel_rfl
theorem Ame:Bp Tryz.prog Ae Aja Uz Tryz.f341=true:=by kernel_rfl
theorem Ap3:Bp Tryz.prog Ae An4 XU Tryz.f339=true:=by kernel_rfl
theorem AjQ:Bp Tryz.prog Ae AhX Ug Tryz.f342=true:=by kernel_rfl
theorem AfR:Bp Tryz.prog Ae Ad9 Q8 Tryz.f294=true:=by kernel_rfl
theorem Ak8:Bp Tryz.prog Ae AhP Ud Tryz.f255=true:=by kernel_rfl
theorem Ak9:Bp Tryz.prog Ae Ah4 Uj Tryz.f327=true:=by kernel_rfl
theorem Ain:Bp Tryz.prog Ae AeE Si Tryz.f329=true:=by kernel_rfl
theorem Alu:Bp Tryz.prog Ae Aip Uw Tryz.f371=true:=by kernel_rfl
theorem Ag1:Bp Tryz.prog Ae Agh Tk Tryz.f331=true:=by kernel_rfl
theorem AeT:Bp Tryz.prog Ae Ads Rf Tryz.f389=true:=by kernel_rfl
theorem AfJ:Bp Tryz.prog Ae Aey Qk Tryz.f390=true:=by kernel_rfl
theorem Ab0:Bp Tryz.prog Ae ZI Na Tryz.f367=true:=by kernel_rfl
theorem AbY:Bp Tryz.prog Ae Aag MZ Tryz.f328=true:=by kernel_rfl
theorem AdO:Bp Tryz.prog Ae AaT Oh Tryz.f392=true:=by kernel_rfl
theorem Adw:Bp Tryz.prog Ae Aa4 Oa Tryz.f391=true:=by kernel_rfl
theorem ZV:Bp Tryz.prog Ae YF LZ Tryz.f368=true:=by kernel_rfl
theorem AjN:Bp Tryz.prog Ae Ahr U5 Tryz.f338=true:=by kernel_rfl
theorem Ah7:Bp Tryz.prog Ae Afh Tp Tryz.f370=true:=by kernel_rfl
theorem AeN:Bp Tryz.prog Ae AdB Qi Tryz.f369=true:=by kernel_rfl
theorem YB:Bp Tryz.prog Ae XF KO Tryz.f330=true:=by kernel_rfl
theorem AhA:Bp Tryz.prog Ae Ae2 Sb Tryz.f291=true:=by kernel_rfl
theorem Ahx:Bp Tryz.prog Ae AfX Tf Tryz.f229=true:=by kernel_rfl
theorem Aeh:Bp Tryz.prog Ae Abo NU Tryz.f171=true:=by kernel_rfl
theorem AbA:Bp Tryz.prog Ae Aaf MB Tryz.f372=true:=by kernel_rfl
theorem ZU:Bp Tryz.prog Ae XY L6 Tryz.f332=true:=by kernel_rfl
theorem Ahu:Bp Tryz.prog Ae Ae1 SB Tryz.f374=true:=by kernel_rfl
theorem Afr:Bp Tryz.prog Ae AcU Rh Tryz.f333=true:=by kernel_rfl
theorem AdX:Bp Tryz.prog Ae Ab5 Ox Tryz.f378=true:=by kernel_rfl
theorem Aev:Bp Tryz.prog Ae Ab3 O9 Tryz.f335=true:=by kernel_rfl
theorem Abu:Bp Tryz.prog Ae Aaj MW Tryz.f336=true:=by kernel_rfl
theorem AcK:Bp Tryz.prog Ae AaX OD Tryz.f163=true:=by kernel_rfl
theorem Aai:Bp Tryz.prog Ae X0 L8 Tryz.f375=true:=by kernel_rfl
theorem XH:Bp Tryz.prog Ae WW J2 Tryz.f377=true:=by kernel_rfl
theorem Aga:Bp Tryz.prog Ae AcX Qy Tryz.f376=true:=by kernel_rfl
theorem Ah8:Bp Tryz.prog Ae Agn RZ Tryz.f334=true:=by kernel_rfl
theorem AiP:Bp Tryz.prog Ae AfZ Sw Tryz.f292=true:=by kernel_rfl
theorem AkH:Bp Tryz.prog Ae Ah0 Ui Tryz.f293=true:=by kernel_rfl
theorem Auo:Bp Tryz.prog Ae AqS Abk Tryz.f254=true:=by kernel_rfl
theorem Ajz:Bp Tryz.prog Ae Ahq U8 Tryz.f216=true:=by kernel_rfl
theorem AnS:Bp Tryz.prog Ae Alj Wo Tryz.f147=true:=by kernel_rfl
theorem Afx:Bp Tryz.prog Ae Ac7 Ql Tryz.f164=true:=by kernel_rfl
theorem Ak2:Bp Tryz.prog Ae AiZ Ur Tryz.f260=true:=by kernel_rfl
theorem AjA:Bp Tryz.prog Ae AiY Uy Tryz.f227=true:=by kernel_rfl
theorem Asu:Bp Tryz.prog Ae Ap2 AbK Tryz.f218=true:=by kernel_rfl
theorem Ako:Bp Tryz.prog Ae Ag7 UB Tryz.f148=true:=by kernel_rfl
theorem Ai0:Bp Tryz.prog Ae AfA RU Tryz.f219=true:=by kernel_rfl
theorem Afs:Bp Tryz.prog Ae AcE QG Tryz.f149=true:=by kernel_rfl
theorem Ah5:Bp Tryz.prog Ae Ae3 Sm Tryz.f60=true:=by kernel_rfl
theorem AiC:Bp Tryz.prog Ae AhY QV Tryz.f10=true:=by kernel_rfl
theorem AdM:Bp Tryz.prog Ae AcA OH Tryz.f119=true:=by kernel_rfl
theorem Ws:Bp Tryz.prog Ae Ua Ic Tryz.f154=true:=by kernel_rfl
theorem Yn:Bp Tryz.prog Ae VJ IX Tryz.f153=true:=by kernel_rfl
theorem AaS:Bp Tryz.prog Ae YN JZ Tryz.f107=true:=by kernel_rfl
theorem AbN:Bp Tryz.prog Ae Zt Lj Tryz.f66=true:=by kernel_rfl
theorem Aml:Bp Tryz.prog Ae Aio U3 Tryz.f105=true:=by kernel_rfl
theorem Aop:Bp Tryz.prog Ae AjD V8 Tryz.f92=true:=by kernel_rfl
theorem AbJ:Bp Tryz.prog Ae ZJ MK Tryz.f185=true:=by kernel_rfl
theorem ZM:Bp Tryz.prog Ae YG LW Tryz.f239=true:=by kernel_rfl
theorem P7:Bp Tryz.prog Ae O0 F5 Tryz.f252=true:=by kernel_rfl
theorem Nv:Bp Tryz.prog Ae Mw Fq Tryz.f212=true:=by kernel_rfl
theorem Adg:Bp Tryz.prog Ae Ab6 OA Tryz.f188=true:=by kernel_rfl
theorem Akg:Bp Tryz.prog Ae Ag0 UF Tryz.f98=true:=by kernel_rfl
theorem Acm:Bp Tryz.prog Ae Abx Ov Tryz.f213=true:=by kernel_rfl
theorem Adt:Bp Tryz.prog Ae Ab1 OW Tryz.f139=true:=by kernel_rfl
theorem Aq6:Bp Tryz.prog Ae Aow XQ Tryz.f118=true:=by kernel_rfl
theorem Aad:Bp Tryz.prog Ae Yv LM Tryz.f190=true:=by kernel_rfl
theorem JF:Bp Tryz.prog Ae Jv Dx Tryz.f203=true:=by kernel_rfl
theorem I5:Bp Tryz.prog Ae IU CW Tryz.f120=true:=by kernel_rfl
theorem Adv:Bp Tryz.prog Ae Abt OT Tryz.f102=true:=by kernel_rfl
theorem Aew:Bp Tryz.prog Ae AbU OZ Tryz.f306=true:=by kernel_rfl
theorem Aho:Bp Tryz.prog Ae Afa Sd Tryz.f305=true:=by kernel_rfl
theorem Aiq:Bp Tryz.prog Ae Afk SQ Tryz.f267=true:=by kernel_rfl
theorem Awm:Bp Tryz.prog Ae Auq Afo Tryz.f310=true:=by kernel_rfl
theorem At8:Bp Tryz.prog Ae Ara Abp Tryz.f311=true:=by kernel_rfl
theorem AnG:Bp Tryz.prog Ae AmA V4 Tryz.f272=true:=by kernel_rfl
theorem AeK:Bp Tryz.prog Ae AdT Rc Tryz.f268=true:=by kernel_rfl
theorem AjU:Bp Tryz.prog Ae Aht UL Tryz.f308=true:=by kernel_rfl
theorem JE:Bp Tryz.prog Ae Ju Du Tryz.f307=true:=by kernel_rfl
theorem Aq1:Bp Tryz.prog Ae Am8 Yt Tryz.f270=true:=by kernel_rfl
theorem Akb:Bp Tryz.prog Ae AiU Ul Tryz.f269=true:=by kernel_rfl
theorem Ac8:Bp Tryz.prog Ae AbT OI Tryz.f235=true:=by kernel_rfl
theorem Al6:Bp Tryz.prog Ae Ai4 UE Tryz.f181=true:=by kernel_rfl
theorem Alr:Bp Tryz.prog Ae AhJ Uf Tryz.f261=true:=by kernel_rfl
theorem Ae8:Bp Tryz.prog Ae Acx QF Tryz.f263=true:=by kernel_rfl
theorem Tw:Bp Tryz.prog Ae Sr Ij Tryz.f191=true:=by kernel_rfl
theorem QN:Bp Tryz.prog Ae Qc Gj Tryz.f104=true:=by kernel_rfl
theorem Ams:Bp Tryz.prog Ae Ahl Ue Tryz.f362=true:=by kernel_rfl
theorem IY:Bp Tryz.prog Ae IV CX Tryz.f361=true:=by kernel_rfl
theorem ArS:Bp Tryz.prog Ae Aon Ya Tryz.f314=true:=by kernel_rfl
theorem Agf:Bp Tryz.prog Ae AdC Ri Tryz.f316=true:=by kernel_rfl
theorem Amy:Bp Tryz.prog Ae Ah6 UA Tryz.f274=true:=by kernel_rfl
theorem AhG:Bp Tryz.prog Ae AeR SL Tryz.f236=true:=by kernel_rfl
theorem Tv:Bp Tryz.prog Ae R8 Ih Tryz.f123=true:=by kernel_rfl
theorem Ahk:Bp Tryz.prog Ae AeL Sv Tryz.f382=true:=by kernel_rfl
theorem Fw:Bp Tryz.prog Ae Fs Bt Tryz.f381=true:=by kernel_rfl
theorem Agl:Bp Tryz.prog Ae Aeo Rk Tryz.f344=true:=by kernel_rfl
theorem AbL:Bp Tryz.prog Ae Z5 M4 Tryz.f295=true:=by kernel_rfl
theorem AaV:Bp Tryz.prog Ae ZP MJ Tryz.f262=true:=by kernel_rfl
theorem Aeb:Bp Tryz.prog Ae AaY NT Tryz.f237=true:=by kernel_rfl
theorem ZL:Bp Tryz.prog Ae Ym LP Tryz.f183=true:=by kernel_rfl
theorem AlZ:Bp Tryz.prog Ae Ahm UG Tryz.f182=true:=by kernel_rfl
theorem AdE:Bp Tryz.prog Ae Ab2 NR Tryz.f346=true:=by kernel_rfl
theorem AgZ:Bp Tryz.prog Ae Afu Tg Tryz.f297=true:=by kernel_rfl
theorem Abh:Bp Tryz.prog Ae Z6 M9 Tryz.f345=true:=by kernel_rfl
theorem Afi:Bp Tryz.prog Ae Acy Rj Tryz.f296=true:=by kernel_rfl
theorem XW:Bp Tryz.prog Ae XB KU Tryz.f264=true:=by kernel_rfl
theorem AhT:Bp Tryz.prog Ae AeW SA Tryz.f232=true:=by kernel_rfl
theorem AhZ:Bp Tryz.prog Ae AeQ Ti Tryz.f210=true:=by kernel_rfl
theorem Acn:Bp Tryz.prog Ae AbV O4 Tryz.f135=true:=by kernel_rfl
theorem AeH:Bp Tryz.prog Ae AdA Qm Tryz.f384=true:=by kernel_rfl
theorem Aj2:Bp Tryz.prog Ae Ai6 UC Tryz.f348=true:=by kernel_rfl
theorem XV:Bp Tryz.prog Ae XD KJ Tryz.f383=true:=by kernel_rfl
theorem AbO:Bp Tryz.prog Ae ZO NA Tryz.f347=true:=by kernel_rfl
theorem ZR:Bp Tryz.prog Ae YX LV Tryz.f298=true:=by kernel_rfl
theorem Ah2:Bp Tryz.prog Ae AfK Sk Tryz.f355=true:=by kernel_rfl
theorem Aoc:Bp Tryz.prog Ae Al2 V9 Tryz.f266=true:=by kernel_rfl
theorem Ae7:Bp Tryz.prog Ae Adk QC Tryz.f356=true:=by kernel_rfl
theorem Af9:Bp Tryz.prog Ae AdY Qx Tryz.f303=true:=by kernel_rfl
theorem AcD:Bp Tryz.prog Ae Abj OY Tryz.f353=true:=by kernel_rfl
theorem RB:Bp Tryz.prog Ae QS GZ Tryz.f354=true:=by kernel_rfl
theorem Aed:Bp Tryz.prog Ae AaZ N8 Tryz.f301=true:=by kernel_rfl
theorem Aa6:Bp Tryz.prog Ae Z7 Nb Tryz.f302=true:=by kernel_rfl
theorem AdU:Bp Tryz.prog Ae AbR OG Tryz.f99=true:=by kernel_rfl
theorem XJ:Bp Tryz.prog Ae Wu J8 Tryz.f385=true:=by kernel_rfl
theorem Mx:Bp Tryz.prog Ae LD EM Tryz.f238=true:=by kernel_rfl
theorem KS:Bp Tryz.prog Ae Kv Em Tryz.f186=true:=by kernel_rfl
theorem Aab:Bp Tryz.prog Ae XR LH Tryz.f350=true:=by kernel_rfl
theorem XE:Bp Tryz.prog Ae Xe Ki Tryz.f352=true:=by kernel_rfl
theorem AfG:Bp Tryz.prog Ae Ac6 Q7 Tryz.f351=true:=by kernel_rfl
theorem Ahc:Bp Tryz.prog Ae Agg S9 Tryz.f300=true:=by kernel_rfl
theorem AfU:Bp Tryz.prog Ae Acr Qn Tryz.f304=true:=by kernel_rfl
theorem Aoi:Bp Tryz.prog Ae AkV WC Tryz.f265=true:=by kernel_rfl
theorem Ahi:Bp Tryz.prog Ae Ae9 RX Tryz.f233=true:=by kernel_rfl
theorem AmN:Bp Tryz.prog Ae AiK UU Tryz.f234=true:=by kernel_rfl
theorem As9:Bp Tryz.prog Ae AqH AbP Tryz.f180=true:=by kernel_rfl
theorem Ak7:Bp Tryz.prog Ae Aih UR Tryz.f93=true:=by kernel_rfl
theorem AnO:Bp Tryz.prog Ae AlD WG Tryz.f21=true:=by kernel_rfl
theorem AeS:Bp Tryz.prog Ae AcF Qq Tryz.f103=true:=by kernel_rfl
theorem Amb:Bp Tryz.prog Ae Aig U6 Tryz.f251=true:=by kernel_rfl
theorem AlY:Bp Tryz.prog Ae Ag8 U7 Tryz.f209=true:=by kernel_rfl
theorem Amx:Bp Tryz.prog Ae AkE Xy Tryz.f184=true:=by kernel_rfl
theorem AfL:Bp Tryz.prog Ae AdG Qp Tryz.f95=true:=by kernel_rfl
theorem Arn:Bp Tryz.prog Ae Anw YM Tryz.f197=true:=by kernel_rfl
theorem Af0:Bp Tryz.prog Ae Adu QD Tryz.f108=true:=by kernel_rfl
theorem Ae4:Bp Tryz.prog Ae Abq O8 Tryz.f26=true:=by kernel_rfl
theorem Ais:Bp Tryz.prog Ae AhV RD Tryz.f12=true:=by kernel_rfl
theorem Aj8:Bp Tryz.prog Ae AgT RL Tryz.f54=true:=by kernel_rfl
theorem Alk:Bp Tryz.prog Ae Ai8 Ux Tryz.f253=true:=by kernel_rfl
theorem Aj5:Bp Tryz.prog Ae AhS QL Tryz.f214=true:=by kernel_rfl
theorem ZE:Bp Tryz.prog Ae YR JY Tryz.f140=true:=by kernel_rfl
theorem Yk:Bp Tryz.prog Ae Wd JC Tryz.f55=true:=by kernel_rfl
theorem AbC:Bp Tryz.prog Ae Zu MC Tryz.f56=true:=by kernel_rfl
theorem Aj4:Bp Tryz.prog Ae AhK Sg Tryz.f215=true:=by kernel_rfl
theorem AeU:Bp Tryz.prog Ae Acp Pt Tryz.f141=true:=by kernel_rfl
theorem AcM:Bp Tryz.prog Ae AaO KA Tryz.f57=true:=by kernel_rfl
theorem AdN:Bp Tryz.prog Ae Adi Pf Tryz.f142=true:=by kernel_rfl
theorem Aby:Bp Tryz.prog Ae Zm Lx Tryz.f58=true:=by kernel_rfl
theorem AhD:Bp Tryz.prog Ae Ad8 Qa Tryz.f9=true:=by kernel_rfl
theorem AiN:Bp Tryz.prog Ae Agk Rl Tryz.f61=true:=by kernel_rfl
theorem AlU:Bp Tryz.prog Ae Aiy Uv Tryz.f257=true:=by kernel_rfl
theorem Aju:Bp Tryz.prog Ae Ahh QZ Tryz.f220=true:=by kernel_rfl
theorem Aa0:Bp Tryz.prog Ae Yu Kr Tryz.f150=true:=by kernel_rfl
theorem YD:Bp Tryz.prog Ae Wl Jk Tryz.f62=true:=by kernel_rfl
theorem Ac5:Bp Tryz.prog Ae ZN MI Tryz.f63=true:=by kernel_rfl
theorem Ajn:Bp Tryz.prog Ae Ahd SH Tryz.f221=true:=by kernel_rfl
theorem Aez:Bp Tryz.prog Ae AcW Pe Tryz.f151=true:=by kernel_rfl
theorem Ac1:Bp Tryz.prog Ae AaH LY Tryz.f64=true:=by kernel_rfl
theorem AeY:Bp Tryz.prog Ae Ac4 Py Tryz.f152=true:=by kernel_rfl
theorem AcS:Bp Tryz.prog Ae Zq K8 Tryz.f65=true:=by kernel_rfl
theorem Agm:Bp Tryz.prog Ae AdJ Qz Tryz.f11=true:=by kernel_rfl
theorem Aiw:Bp Tryz.prog Ae AfN Rt Tryz.f67=true:=by kernel_rfl
theorem Alv:Bp Tryz.prog Ae Aj7 UQ Tryz.f258=true:=by kernel_rfl
theorem Aj3:Bp Tryz.prog Ae Agb Rw Tryz.f222=true:=by kernel_rfl
theorem Aah:Bp Tryz.prog Ae YA JO Tryz.f155=true:=by kernel_rfl
theorem Yp:Bp Tryz.prog Ae VP Jt Tryz.f68=true:=by kernel_rfl
theorem AcQ:Bp Tryz.prog Ae Aay Md Tryz.f69=true:=by kernel_rfl
theorem Ail:Bp Tryz.prog Ae AgW SI Tryz.f223=true:=by kernel_rfl
theorem AdQ:Bp Tryz.prog Ae Aa2 OP Tryz.f156=true:=by kernel_rfl
theorem AcG:Bp Tryz.prog Ae ZT KT Tryz.f70=true:=by kernel_rfl
theorem Ad6:Bp Tryz.prog Ae Adr OV Tryz.f157=true:=by kernel_rfl
theorem Abz:Bp Tryz.prog Ae Zg MR Tryz.f71=true:=by kernel_rfl
theorem AfT:Bp Tryz.prog Ae Aet Qj Tryz.f13=true:=by kernel_rfl
theorem AeB:Bp Tryz.prog Ae AcI Pg Tryz.f72=true:=by kernel_rfl
theorem Aen:Bp Tryz.prog Ae Adx Pj Tryz.f158=true:=by kernel_rfl
theorem UW:Bp Tryz.prog Ae Tj H7 Tryz.f73=true:=by kernel_rfl
theorem Xa:Bp Tryz.prog Ae V5 JA Tryz.f74=true:=by kernel_rfl
theorem YO:Bp Tryz.prog Ae Wy JD Tryz.f75=true:=by kernel_rfl
theorem Xm:Bp Tryz.prog Ae WO I7 Tryz.f76=true:=by kernel_rfl
theorem Adl:Bp Tryz.prog Ae Zz KF Tryz.f14=true:=by kernel_rfl
theorem AeV:Bp Tryz.prog Ae AcO Pb Tryz.f77=true:=by kernel_rfl
theorem AdP:Bp Tryz.prog Ae Acs Pd Tryz.f159=true:=by kernel_rfl
theorem Uh:Bp Tryz.prog Ae TA HY Tryz.f78=true:=by kernel_rfl
theorem XK:Bp Tryz.prog Ae VA Jy Tryz.f79=true:=by kernel_rfl
theorem XC:Bp Tryz.prog Ae WL I4 Tryz.f80=true:=by kernel_rfl
theorem Yj:Bp Tryz.prog Ae WV Iq Tryz.f81=true:=by kernel_rfl
theorem Adb:Bp Tryz.prog Ae ZW KN Tryz.f15=true:=by kernel_rfl
theorem TP:Bp Tryz.prog Ae Tz Ho Tryz.f3=true:=by kernel_rfl
theorem AhL:TK (DD 65):=by unfold TK;intros;refine lk (g:=65) rfl Tryz.func143 AnC ?_;apply ADw _<;>assumption
theorem Sn:NZ (DD 66):=by unfold NZ;intros;refine lk (g:=66) rfl Tryz.func144 AlT ?_;apply AAe _<;>assumption
theorem Aav:VN (DD 67):=by unfold VN;intros;refine lk (g:=67) rfl Tryz.func145 AeJ ?_;apply Auz _<;>assumption
theorem DR:Ga (DD 22):=by unfold Ga;intros;refine lk (g:=22) rfl Tryz.func59 Akl ?_;apply AzU _ AhL Sn Aav<;>assumption
theorem DZ:Qo (DD 71):=by unfold Qo;intros;refine lk (g:=71) rfl Tryz.func146 AuJ ?_;apply AHp _<;>assumption
theorem Aj1:Aup (DD 215):=by unfold Aup;intros;refine lk (g:=215) rfl Tryz.func226 AwT ?_;apply AHU _<;>assumption
theorem Aws:Axz (DD 253):=by unfold Axz;intros;refine lk (g:=253) rfl Tryz.func256 Axj ?_;apply AHM _<;>assumption
theorem Avt:AxR (DD 212):=by unfold AxR;intros;refine lk (g:=212) rfl Tryz.func217 AlB ?_;apply AAz _ Aj1 Aws<;>assumption
theorem OB:FL (DD 250):=by unfold FL;intros;refine lk (g:=250) rfl Tryz.func224 AdR ?_;apply AoB _ DZ<;>assumption
theorem Wn:Zo (DD 217):=by unfold Zo;intros;refine lk (g:=217) rfl Tryz.func259 AnH ?_;apply ABF _ DZ<;>assumption
theorem YS:R6 (DD 152):=by unfold R6;intros;refine lk (g:=152) rfl Tryz.func225 Ap4 ?_;apply ADR _ DZ Wn<;>assumption
theorem Dl:BA (DD 208):=by unfold BA;intros;refine lk (g:=208) rfl Tryz.func161 Abf ?_;apply Alh _ DZ<;>assumption
theorem Oj:Fb (DD 207):=by unfold Fb;intros;refine lk (g:=207) rfl Tryz.func160 AcP ?_;apply Am6 _ DZ OB YS Dl<;>assumption
theorem Apk:Aol (DD 339):=by unfold Aol;intros;refine lk (g:=339) rfl Tryz.func379 Aw4 ?_;apply AG2 _ DZ<;>assumption
theorem AbW:Xu (DD 338):=by unfold Xu;intros;refine lk (g:=338) rfl Tryz.func380 AuI ?_;apply AE3 _ Apk<;>assumption
theorem AmB:AaA (DD 313):=by unfold AaA;intros;refine lk (g:=313) rfl Tryz.func343 AnW ?_;apply AFI _ AbW Apk<;>assumption
theorem Ahn:Ke (DD 310):=by unfold Ke;intros;refine lk (g:=310) rfl Tryz.func340 AeF ?_;apply AqW _ AmB<;>assumption
theorem Adm:Lp (DD 308):=by unfold Lp;intros;refine lk (g:=308) rfl Tryz.func337 Ans ?_;apply AAk _<;>assumption
theorem IE:PX (DD 166):=by unfold PX;intros;refine lk (g:=166) rfl Tryz.func165 Arj ?_;apply AE8 _<;>assumption
theorem AaD:Nk (DD 331):=by unfold Nk;intros;refine lk (g:=331) rfl Tryz.func373 Aj0 ?_;apply Avy _ IE<;>assumption
theorem Acw:Ps (DD 311):=by unfold Ps;intros;refine lk (g:=311) rfl Tryz.func341 Ame ?_;apply AAp _ Adm AaD<;>assumption
theorem TI:Rb (DD 309):=by unfold Rb;intros;refine lk (g:=309) rfl Tryz.func339 Ap3 ?_;apply ACe _<;>assumption
theorem Lf:Gc (DD 312):=by unfold Gc;intros;refine lk (g:=312) rfl Tryz.func342 AjQ ?_;apply AvM _ DZ Wn TI<;>assumption
theorem Ahj:JQ (DD 283):=by unfold JQ;intros;refine lk (g:=283) rfl Tryz.func294 AfR ?_;apply AqV _ Ahn Acw Lf TI AmB<;>assumption
theorem AnY:PZ (DD 251):=by unfold PZ;intros;refine lk (g:=251) rfl Tryz.func255 Ak8 ?_;apply Awu _ Oj Ahj<;>assumption
theorem Gv:Eo (DD 285):=by unfold Eo;intros;refine lk (g:=285) rfl Tryz.func327 Ak9 ?_;apply AwA _ Dl Lf<;>assumption
theorem AaN:KZ (DD 301):=by unfold KZ;intros;refine lk (g:=301) rfl Tryz.func329 Ain ?_;apply Aw7 _ Acw<;>assumption
theorem AoQ:PG (DD 258):=by unfold PG;intros;refine lk (g:=258) rfl Tryz.func371 Alu ?_;apply Avn _ YS Gv IE DZ<;>assumption
theorem MQ:FV (DD 286):=by unfold FV;intros;refine lk (g:=286) rfl Tryz.func331 Ag1 ?_;apply Atu _ Gv AaN AoQ<;>assumption
theorem Ael:Pp (DD 355):=by unfold Pp;intros;refine lk (g:=355) rfl Tryz.func389 AeT ?_;apply Aqt _<;>assumption
theorem Ac0:Rs (DD 356):=by unfold Rs;intros;refine lk (g:=356) rfl Tryz.func390 AfJ ?_;apply ApX _ Ael<;>assumption
theorem Aky:Mc (DD 328):=by unfold Mc;intros;refine lk (g:=328) rfl Tryz.func367 Ab0 ?_;apply AkO _ Ael Ac0<;>assumption
theorem Aeg:Gi (DD 300):=by unfold Gi;intros;refine lk (g:=300) rfl Tryz.func328 AbY ?_;apply Amw _ MQ Aky<;>assumption
theorem Vi:Gr (DD 256):=by unfold Gr;intros;refine lk (g:=256) rfl Tryz.func392 AdO ?_;apply Am7 _<;>assumption
theorem VO:Hz (DD 260):=by unfold Hz;intros;refine lk (g:=260) rfl Tryz.func391 Adw ?_;apply AnQ _ Dl Vi MQ<;>assumption
theorem Ace:GD (DD 222):=by unfold GD;intros;refine lk (g:=222) rfl Tryz.func368 ZV ?_;apply Ah3 _ Dl VO<;>assumption
theorem Ak1:Xz (DD 223):=by unfold Xz;intros;refine lk (g:=223) rfl Tryz.func338 AjN ?_;apply AzJ _ IE<;>assumption
theorem Aln:Ml (DD 329):=by unfold Ml;intros;refine lk (g:=329) rfl Tryz.func370 Ah7 ?_;apply Ate _ Lf VO Vi MQ Ac0<;>assumption
theorem Aii:Kc (DD 330):=by unfold Kc;intros;refine lk (g:=330) rfl Tryz.func369 AeN ?_;apply AqM _ Gv IE<;>assumption
theorem AkY:Mg (DD 302):=by unfold Mg;intros;refine lk (g:=302) rfl Tryz.func330 YB ?_;apply Asy _ Gv Ace Ak1 Aln Aii<;>assumption
theorem Akn:Me (DD 280):=by unfold Me;intros;refine lk (g:=280) rfl Tryz.func291 AhA ?_;apply Asg _ Gv Aeg AaN AkY<;>assumption
theorem AkW:Mi (DD 224):=by unfold Mi;intros;refine lk (g:=224) rfl Tryz.func229 Ahx ?_;apply AsS _ IE<;>assumption
theorem IC:DY (DD 168):=by unfold DY;intros;refine lk (g:=168) rfl Tryz.func171 Aeh ?_;apply AnE _ AkW Dl<;>assumption
theorem Aeu:Ia (DD 332):=by unfold Ia;intros;refine lk (g:=332) rfl Tryz.func372 AbA ?_;apply AjW _ OB<;>assumption
theorem Aqg:TW (DD 303):=by unfold TW;intros;refine lk (g:=303) rfl Tryz.func332 ZU ?_;apply AAt _ IC Gv AaD Aeu<;>assumption
theorem YZ:Jp (DD 333):=by unfold Jp;intros;refine lk (g:=333) rfl Tryz.func374 Ahu ?_;apply AsV _ DZ Lf<;>assumption
theorem AiD:JW (DD 304):=by unfold JW;intros;refine lk (g:=304) rfl Tryz.func333 Afr ?_;apply Aq3 _ TI OB Gv YZ IE<;>assumption
theorem VB:Gq (DD 337):=by unfold Gq;intros;refine lk (g:=337) rfl Tryz.func378 AdX ?_;apply AoL _ Lf<;>assumption
theorem Agd:IW (DD 305):=by unfold IW;intros;refine lk (g:=305) rfl Tryz.func335 Aev ?_;apply AoO _ Gv VB<;>assumption
theorem Adz:HV (DD 306):=by unfold HV;intros;refine lk (g:=306) rfl Tryz.func336 Abu ?_;apply Ake _ YZ VB<;>assumption
theorem X6:Jm (DD 210):=by unfold Jm;intros;refine lk (g:=210) rfl Tryz.func163 AcK ?_;apply Atl _ DZ<;>assumption
theorem Aan:KX (DD 334):=by unfold KX;intros;refine lk (g:=334) rfl Tryz.func375 Aai ?_;apply Avw _ Wn<;>assumption
theorem AgY:J5 (DD 335):=by unfold J5;intros;refine lk (g:=335) rfl Tryz.func377 XH ?_;apply ApU _ Aan AbW<;>assumption
theorem Atn:Y1 (DD 336):=by unfold Y1;intros;refine lk (g:=336) rfl Tryz.func376 Aga ?_;apply AB6 _ AbW<;>assumption
theorem ArT:RF (DD 307):=by unfold RF;intros;refine lk (g:=307) rfl Tryz.func334 Ah8 ?_;apply AAy _ X6 Aan DZ AgY Atn<;>assumption
theorem AkJ:Mh (DD 281):=by unfold Mh;intros;refine lk (g:=281) rfl Tryz.func292 AiP ?_;apply At4 _ MQ Aqg AiD Agd Adz ArT Adm<;>assumption
theorem Anp:Qd (DD 282):=by unfold Qd;intros;refine lk (g:=282) rfl Tryz.func293 AkH ?_;apply Axa _ Ak1 TI DZ<;>assumption
theorem AvQ:AgE (DD 252):=by unfold AgE;intros;refine lk (g:=252) rfl Tryz.func254 Auo ?_;apply AFc _ Akn AkJ Anp<;>assumption
theorem An7:Qg (DD 213):=by unfold Qg;intros;refine lk (g:=213) rfl Tryz.func216 Ajz ?_;apply AwV _ Oj AnY AvQ<;>assumption
theorem AqA:TY (DD 142):=by unfold TY;intros;refine lk (g:=142) rfl Tryz.func147 AnS ?_;apply AzE _ DZ Avt An7<;>assumption
theorem Hw:EB (DD 145):=by unfold EB;intros;refine lk (g:=145) rfl Tryz.func164 Afx ?_;apply Ap5 _ DZ<;>assumption
theorem Aou:PS (DD 284):=by unfold PS;intros;refine lk (g:=284) rfl Tryz.func260 Ak2 ?_;apply Awo _ DZ<;>assumption
theorem AmX:Qh (DD 254):=by unfold Qh;intros;refine lk (g:=254) rfl Tryz.func227 AjA ?_;apply AvR _ Hw DZ Aou<;>assumption
theorem AjC:Aui (DD 214):=by unfold Aui;intros;refine lk (g:=214) rfl Tryz.func218 Asu ?_;apply AFs _ AmX<;>assumption
theorem Ani:Aeq (DD 143):=by unfold Aeq;intros;refine lk (g:=143) rfl Tryz.func148 Ako ?_;apply AvJ _ DZ AjC IE<;>assumption
theorem YH:Vq (DD 155):=by unfold Vq;intros;refine lk (g:=155) rfl Tryz.func219 Ai0 ?_;apply AuS _ IE<;>assumption
theorem Ajb:F4 (DD 144):=by unfold F4;intros;refine lk (g:=144) rfl Tryz.func149 Afs ?_;apply Aq2 _ YH<;>assumption
theorem Ann:Y7 (DD 72):=by unfold Y7;intros;refine lk (g:=72) rfl Tryz.func60 Ah5 ?_;apply Aum _ DR DZ AqA Ani Aav Ajb<;>assumption
theorem AmW:PV (DD 25):=by unfold PV;intros;refine lk (g:=25) rfl Tryz.func10 AiC ?_;apply Apu _ DR Ann<;>assumption
theorem Amh:Afp (DD 172):=by unfold Afp;intros;refine lk (g:=172) rfl Tryz.func119 AdM ?_;apply Aoh _<;>assumption
theorem Ab9:TK (DD 102):=by unfold TK;intros;refine lk (g:=102) rfl Tryz.func154 Ws ?_;apply Ag2 _ Amh<;>assumption
theorem Ae0:NZ (DD 101):=by unfold NZ;intros;refine lk (g:=101) rfl Tryz.func153 Yn ?_;apply AiQ _<;>assumption
theorem UM:VN (DD 103):=by unfold VN;intros;refine lk (g:=103) rfl Tryz.func107 AaS ?_;apply AkX _<;>assumption
theorem AaP:Ga (DD 38):=by unfold Ga;intros;refine lk (g:=38) rfl Tryz.func66 AbN ?_;apply AmM _ Ab9 Ae0 UM<;>assumption
theorem EO:Qo (DD 114):=by unfold Qo;intros;refine lk (g:=114) rfl Tryz.func105 Aml ?_;apply Az5 _<;>assumption
theorem Aqn:Ajs (DD 117):=by unfold Ajs;intros;refine lk (g:=117) rfl Tryz.func92 Aop ?_;apply ACq _ EO<;>assumption
theorem FY:BA (DD 232):=by unfold BA;intros;refine lk (g:=232) rfl Tryz.func185 AbJ ?_;apply Alc _ EO<;>assumption
theorem Ad0:Rv (DD 266):=by unfold Rv;intros;refine lk (g:=266) rfl Tryz.func239 ZM ?_;apply Aoy _ EO<;>assumption
theorem AiW:Ww DD (DD 404):=by unfold Ww;intros;refine lk (g:=404) rfl Tryz.func252 P7 ?_;apply Ar9 _<;>assumption
theorem Tn:Lb DD (DD 267):=by unfold Lb;intros;refine lk (g:=267) rfl Tryz.func212 Nv ?_;apply AjH _ AiW<;>assumption
theorem Kq:JN (DD 233):=by unfold JN;intros;refine lk (g:=233) rfl Tryz.func188 Adg ?_;apply Arf _ Ad0 Tn<;>assumption
theorem Aaz:M6 (DD 235):=by unfold M6;intros;refine lk (g:=235) rfl Tryz.func98 Akg ?_;apply AwE _ Kq<;>assumption
theorem Vv:FL (DD 279):=by unfold FL;intros;refine lk (g:=279) rfl Tryz.func213 Acm ?_;apply Aot _ EO<;>assumption
theorem O3:Mt (DD 270):=by unfold Mt;intros;refine lk (g:=270) rfl Tryz.func139 Adt ?_;apply AnX _ Vv Tn<;>assumption
theorem Agy:R6 (DD 183):=by unfold R6;intros;refine lk (g:=183) rfl Tryz.func118 Aq6 ?_;apply ABX _ EO Kq<;>assumption
theorem AcH:Ru (DD 271):=by unfold Ru;intros;refine lk (g:=271) rfl Tryz.func190 Aad ?_;apply AoE _ Agy<;>assumption
theorem Ab8:Pn DD (DD 406):=by unfold Pn;intros;refine lk (g:=406) rfl Tryz.func203 JF ?_;apply AkC _<;>assumption
theorem NP:IK DD (DD 272):=by unfold IK;intros;refine lk (g:=272) rfl Tryz.func120 I5 ?_;apply Ad1 _ Ab8<;>assumption
theorem NV:Fb (DD 239):=by unfold Fb;intros;refine lk (g:=239) rfl Tryz.func102 Adv ?_;apply Aof _ FY Aaz O3 AcH NP EO<;>assumption
theorem An8:Ado (DD 350):=by unfold Ado;intros;refine lk (g:=350) rfl Tryz.func306 Aew ?_;apply Asd _<;>assumption
theorem J6:Ma DD (DD 298):=by unfold Ma;intros;refine lk (g:=298) rfl Tryz.func305 Aho ?_;apply AvN _<;>assumption
theorem Aci:Ps (DD 318):=by unfold Ps;intros;refine lk (g:=318) rfl Tryz.func267 Aiq ?_;apply Av7 _ An8 J6<;>assumption
theorem ApI:Aol (DD 354):=by unfold Aol;intros;refine lk (g:=354) rfl Tryz.func310 Awm ?_;apply AGY _ EO<;>assumption
theorem Abe:Xu (DD 353):=by unfold Xu;intros;refine lk (g:=353) rfl Tryz.func311 At8 ?_;apply AFK _ ApI<;>assumption
theorem Amj:AaA (DD 322):=by unfold AaA;intros;refine lk (g:=322) rfl Tryz.func272 AnG ?_;apply AFY _ Abe ApI<;>assumption
theorem Ai5:Ke (DD 319):=by unfold Ke;intros;refine lk (g:=319) rfl Tryz.func268 AeK ?_;apply Aru _ Amj<;>assumption
theorem Aqi:Ajg (DD 351):=by unfold Ajg;intros;refine lk (g:=351) rfl Tryz.func308 AjU ?_;apply ACl _<;>assumption
theorem Sl:K5 DD (DD 352):=by unfold K5;intros;refine lk (g:=352) rfl Tryz.func307 JE ?_;apply Amu _<;>assumption
theorem Agv:Rb (DD 321):=by unfold Rb;intros;refine lk (g:=321) rfl Tryz.func270 Aq1 ?_;apply ACH _ Aqi Sl<;>assumption
theorem Ld:Gc (DD 320):=by unfold Gc;intros;refine lk (g:=320) rfl Tryz.func269 Akb ?_;apply Awx _ EO Agv Kq<;>assumption
theorem ApT:Aqm (DD 323):=AuR (k:=271) rfl (fun b o c w=>Go.Eng.Ins.AJu b o c w) (fun b o c v w h=>Go.Eng.Ins.AJv b o c v w h) (fun b o c v w h=>Go.Eng.Ins.AJq b o c v w h)
theorem Aqp:AqZ (DD 324):=AuW (k:=273) rfl Go.Eng.Ins.AJy
theorem Ai1:JQ (DD 290):=by unfold JQ;intros;refine lk (g:=290) rfl Tryz.func235 Ac8 ?_;apply Aqz _ Aci Ai5 Ld Agv Amj ApT Aqp<;>assumption
theorem AnA:PZ (DD 261):=by unfold PZ;intros;refine lk (g:=261) rfl Tryz.func181 Al6 ?_;apply AwL _ NV Ai1<;>assumption
theorem Il:Eo (DD 292):=by unfold Eo;intros;refine lk (g:=292) rfl Tryz.func261 Alr ?_;apply Awz _ FY Ld<;>assumption
theorem Aap:KZ (DD 293):=by unfold KZ;intros;refine lk (g:=293) rfl Tryz.func263 Ae8 ?_;apply AuO _ Aci<;>assumption
theorem AAN:AGX (DD 325):=AF4 (k:=360) rfl (fun b off n c zs w h1 h2 h3 h4=>Tryz.slices_Max_int b off n c zs w h1 h2 h3 h4)
theorem Asl:AqL (DD 389):=by unfold AqL;intros;refine lk (g:=389) rfl Tryz.func191 Tw ?_;apply AEJ _<;>assumption
theorem Kn:PX (DD 188):=by unfold PX;intros;refine lk (g:=188) rfl Tryz.func104 QN ?_;apply Awg _ Asl<;>assumption
theorem Ap9:Ajk (DD 326):=by unfold Ajk;intros;refine lk (g:=326) rfl Tryz.func362 Ams ?_;apply ADg _ Kn EO<;>assumption
theorem XL:Kt DD (DD 327):=by unfold Kt;intros;refine lk (g:=327) rfl Tryz.func361 IY ?_;apply Aex _ Sl<;>assumption
theorem Ar8:Aq7 (DD 295):=by unfold Aq7;intros;refine lk (g:=295) rfl Tryz.func314 ArS ?_;apply AF3 _ AAN Ap9 XL<;>assumption
theorem Aso:Avp (DD 296):=AAd (k:=315) rfl (fun n c w=>Tryz.slices_Clone_int_nil n c w) (fun a c w=>Tryz.slices_Clone_int_zero a c w) (fun b off n c zs w h1 h2 h3=>Tryz.slices_Clone_int b off n c zs w h1 h2 h3)
theorem Amn:ZA (DD 297):=by unfold ZA;intros;refine lk (g:=297) rfl Tryz.func316 Agf ?_;apply Awi _ Kn<;>assumption
theorem An3:PG (DD 294):=by unfold PG;intros;refine lk (g:=294) rfl Tryz.func274 Amy ?_;apply Avm _ Agy Il Ar8 Aso Amn J6<;>assumption
theorem MG:FV (DD 274):=by unfold FV;intros;refine lk (g:=274) rfl Tryz.func236 AhG ?_;apply Ath _ Il Aap An3<;>assumption
theorem AdH:Pp (DD 357):=by unfold Pp;intros;refine lk (g:=357) rfl Tryz.func123 Tv ?_;apply ACw _<;>assumption
theorem Akz:VZ (DD 371):=by unfold VZ;intros;refine lk (g:=371) rfl Tryz.func382 Ahk ?_;apply AwB _ AdH<;>assumption
theorem AiG:Wh DD (DD 372):=by unfold Wh;intros;refine lk (g:=372) rfl Tryz.func381 Fw ?_;apply AsA _<;>assumption
theorem ArV:Rs (DD 358):=by unfold Rs;intros;refine lk (g:=358) rfl Tryz.func344 Agl ?_;apply AqP _ Akz AiG<;>assumption
theorem AlG:Mc (DD 340):=by unfold Mc;intros;refine lk (g:=340) rfl Tryz.func295 AbL ?_;apply Ak5 _ AdH ArV<;>assumption
theorem Ub:Gi (DD 314):=by unfold Gi;intros;refine lk (g:=314) rfl Tryz.func262 AaV ?_;apply AjI _ MG AlG<;>assumption
theorem Vg:Gr (DD 273):=by unfold Gr;intros;refine lk (g:=273) rfl Tryz.func237 Aeb ?_;apply Anl _<;>assumption
theorem AbS:GD (DD 240):=by unfold GD;intros;refine lk (g:=240) rfl Tryz.func183 ZL ?_;apply Aik _ FY Vg MG<;>assumption
theorem V7:Xz (DD 189):=by unfold Xz;intros;refine lk (g:=189) rfl Tryz.func182 AlZ ?_;apply AvO _ Kn<;>assumption
theorem AfV:Hz (DD 360):=by unfold Hz;intros;refine lk (g:=360) rfl Tryz.func346 AdE ?_;apply Aod _ FY Vg MG<;>assumption
theorem AkZ:Ml (DD 341):=by unfold Ml;intros;refine lk (g:=341) rfl Tryz.func297 AgZ ?_;apply As5 _ Ld AfV Ub<;>assumption
theorem Afl:Tx (DD 359):=by unfold Tx;intros;refine lk (g:=359) rfl Tryz.func345 Abh ?_;apply Ap0 _ Kn<;>assumption
theorem AiR:Kc (DD 342):=by unfold Kc;intros;refine lk (g:=342) rfl Tryz.func296 Afi ?_;apply Arl _ Il V7 Afl J6<;>assumption
theorem AmG:Mg (DD 315):=by unfold Mg;intros;refine lk (g:=315) rfl Tryz.func264 XW ?_;apply Auf _ AbS V7 AkZ AiR<;>assumption
theorem AjO:Me (DD 287):=by unfold Me;intros;refine lk (g:=287) rfl Tryz.func232 AhT ?_;apply Aus _ Il Ub Aap AmG<;>assumption
theorem AjK:Mi (DD 242):=by unfold Mi;intros;refine lk (g:=242) rfl Tryz.func210 AhZ ?_;apply As8 _ Kn<;>assumption
theorem Ot:DY (DD 190):=by unfold DY;intros;refine lk (g:=190) rfl Tryz.func135 Acn ?_;apply Anh _ AjK FY<;>assumption
theorem AjF:Zb (DD 374):=by unfold Zb;intros;refine lk (g:=374) rfl Tryz.func384 AeH ?_;apply Awq _ Kn<;>assumption
theorem Ant:Nk (DD 361):=by unfold Nk;intros;refine lk (g:=361) rfl Tryz.func348 Aj2 ?_;apply AwO _ AjF J6<;>assumption
theorem AgX:Xi (DD 373):=by unfold Xi;intros;refine lk (g:=373) rfl Tryz.func383 XV ?_;apply Al7 _ Vv<;>assumption
theorem AdK:Ia (DD 362):=by unfold Ia;intros;refine lk (g:=362) rfl Tryz.func347 AbO ?_;apply Akh _ AgX J6<;>assumption
theorem ArQ:TW (DD 343):=by unfold TW;intros;refine lk (g:=343) rfl Tryz.func298 ZR ?_;apply AAv _ Ot Il Ant AdK<;>assumption
theorem Yd:Jp (DD 369):=by unfold Jp;intros;refine lk (g:=369) rfl Tryz.func355 Ah2 ?_;apply AuB _ EO Ld<;>assumption
theorem RI:Lp (DD 317):=by unfold Lp;intros;refine lk (g:=317) rfl Tryz.func266 Aoc ?_;apply Az1 _<;>assumption
theorem Aid:WR (DD 370):=by unfold WR;intros;refine lk (g:=370) rfl Tryz.func356 Ae7 ?_;apply Arw _ RI O3<;>assumption
theorem AiB:JW (DD 348):=by unfold JW;intros;refine lk (g:=348) rfl Tryz.func303 Af9 ?_;apply Aqq _ Il Yd Kn RI V7 Aid<;>assumption
theorem Vk:Gq (DD 367):=by unfold Gq;intros;refine lk (g:=367) rfl Tryz.func353 AcD ?_;apply Am0 _ Ld<;>assumption
theorem AvE:ADW (DD 419):=AAj (k:=386) rfl (fun w=>Go.Eng.Ins.AIE w) (fun n w h1 h2=>Go.Eng.Ins.AIy n w h1 h2)
theorem AdI:Ad4 (DD 368):=by unfold Ad4;intros;refine lk (g:=368) rfl Tryz.func354 RB ?_;apply AC1 _ AvE<;>assumption
theorem AeC:IW (DD 345):=by unfold IW;intros;refine lk (g:=345) rfl Tryz.func301 Aed ?_;apply An6 _ Il Vk AdI<;>assumption
theorem Adh:HV (DD 346):=by unfold HV;intros;refine lk (g:=346) rfl Tryz.func302 Aa6 ?_;apply AkG _ Yd Vk<;>assumption
theorem YQ:Jm (DD 236):=by unfold Jm;intros;refine lk (g:=236) rfl Tryz.func99 AdU ?_;apply AuL _ EO<;>assumption
theorem AkK:Zw (DD 375):=by unfold Zw;intros;refine lk (g:=375) rfl Tryz.func385 XJ ?_;apply AwK _ Kq<;>assumption
theorem Z9:Np DD (DD 405):=by unfold Np;intros;refine lk (g:=405) rfl Tryz.func238 Mx ?_;apply AiV _<;>assumption
theorem Nh:Ig DD (DD 269):=by unfold Ig;intros;refine lk (g:=269) rfl Tryz.func186 KS ?_;apply Aa8 _ Z9<;>assumption
theorem AaK:KX (DD 364):=by unfold KX;intros;refine lk (g:=364) rfl Tryz.func350 Aab ?_;apply Axe _ AkK Nh<;>assumption
theorem Aib:J5 (DD 365):=by unfold J5;intros;refine lk (g:=365) rfl Tryz.func352 XE ?_;apply Aqe _ AaK Abe<;>assumption
theorem Atf:Y1 (DD 366):=by unfold Y1;intros;refine lk (g:=366) rfl Tryz.func351 AfG ?_;apply AC8 _ AdI Abe<;>assumption
theorem Aem:RF (DD 347):=by unfold RF;intros;refine lk (g:=347) rfl Tryz.func300 Ahc ?_;apply AAf _ YQ AaK EO Aib Atf<;>assumption
theorem Aif:WA (DD 349):=by unfold WA;intros;refine lk (g:=349) rfl Tryz.func304 AfU ?_;apply Arv _ Aem<;>assumption
theorem AsM:AqK (DD 316):=by unfold AqK;intros;refine lk (g:=316) rfl Tryz.func265 Aoi ?_;apply AEB _ ArQ AiB AeC Adh Aem Aif RI<;>assumption
theorem AjG:Mh (DD 288):=by unfold Mh;intros;refine lk (g:=288) rfl Tryz.func233 Ahi ?_;apply AsQ _ MG AsM<;>assumption
theorem Anq:Qd (DD 289):=by unfold Qd;intros;refine lk (g:=289) rfl Tryz.func234 AmN ?_;apply AwW _ V7 RI EO<;>assumption
theorem Avi:AgE (DD 262):=by unfold AgE;intros;refine lk (g:=262) rfl Tryz.func180 As9 ?_;apply AEK _ AjO AjG Anq<;>assumption
theorem Aov:Qg (DD 227):=by unfold Qg;intros;refine lk (g:=227) rfl Tryz.func93 Ak7 ?_;apply Axd _ NV AnA Avi<;>assumption
theorem AqT:TY (DD 173):=by unfold TY;intros;refine lk (g:=173) rfl Tryz.func21 AnO ?_;apply AyF _ Aqn Aov<;>assumption
theorem Qr:EB (DD 176):=by unfold EB;intros;refine lk (g:=176) rfl Tryz.func103 AeS ?_;apply AqF _ EO<;>assumption
theorem An5:PS (DD 291):=by unfold PS;intros;refine lk (g:=291) rfl Tryz.func251 Amb ?_;apply Axi _ EO<;>assumption
theorem An0:Qh (DD 263):=by unfold Qh;intros;refine lk (g:=263) rfl Tryz.func209 AlY ?_;apply Axf _ Qr EO An5<;>assumption
theorem AoM:Aui (DD 228):=by unfold Aui;intros;refine lk (g:=228) rfl Tryz.func184 Amx ?_;apply ArR _ An0<;>assumption
theorem AiM:Aeq (DD 174):=by unfold Aeq;intros;refine lk (g:=174) rfl Tryz.func95 AfL ?_;apply AoD _ Aqn AoM Kn<;>assumption
theorem Aha:F4 (DD 229):=by unfold F4;intros;refine lk (g:=229) rfl Tryz.func197 Arn ?_;apply AEU _ Kn<;>assumption
theorem AiE:F4 (DD 175):=by unfold F4;intros;refine lk (g:=175) rfl Tryz.func108 Af0 ?_;apply AqN _ Aha<;>assumption
theorem Af2:Y7 (DD 106):=by unfold Y7;intros;refine lk (g:=106) rfl Tryz.func26 Ae4 ?_;apply Ana _ AaP Aqn AqT AiM UM AiE<;>assumption
theorem Anm:PV (DD 44):=by unfold PV;intros;refine lk (g:=44) rfl Tryz.func12 Ais ?_;apply Apz _ AaP Af2<;>assumption
theorem Ie:NI (DD 16):=by unfold NI;intros;refine lk (g:=16) rfl Tryz.func54 Aj8 ?_;apply AqR _<;>assumption
theorem Anv:Alx (DD 206):=by unfold Alx;intros;refine lk (g:=206) rfl Tryz.func253 Alk ?_;apply ArJ _ Ie<;>assumption
theorem Alb:Afm (DD 139):=by unfold Afm;intros;refine lk (g:=139) rfl Tryz.func214 Aj5 ?_;apply AqO _ Anv<;>assumption
theorem Aee:P8 (DD 62):=by unfold P8;intros;refine lk (g:=62) rfl Tryz.func140 ZE ?_;apply Ama _ Ie Alb<;>assumption
theorem Abv:NY (DD 17):=by unfold NY;intros;refine lk (g:=17) rfl Tryz.func55 Yk ?_;apply Aij _ Aee<;>assumption
theorem AfB:Q0 (DD 18):=by unfold Q0;intros;refine lk (g:=18) rfl Tryz.func56 AbC ?_;apply AmP _ Ie<;>assumption
theorem Ala:Afq (DD 140):=by unfold Afq;intros;refine lk (g:=140) rfl Tryz.func215 Aj4 ?_;apply Aqu _ Ie<;>assumption
theorem W9:QJ (DD 63):=by unfold QJ;intros;refine lk (g:=63) rfl Tryz.func141 AeU ?_;apply AoN _ Ala Ie<;>assumption
theorem AhN:Te (DD 19):=by unfold Te;intros;refine lk (g:=19) rfl Tryz.func57 AcM ?_;apply Anf _ W9<;>assumption
theorem Ajx:UX (DD 64):=by unfold UX;intros;refine lk (g:=64) rfl Tryz.func142 AdN ?_;apply An9 _ W9<;>assumption
theorem Afz:QU (DD 20):=by unfold QU;intros;refine lk (g:=20) rfl Tryz.func58 Aby ?_;apply AmZ _ Ajx<;>assumption
theorem AmQ:Zj (DD 7):=by unfold Zj;intros;refine lk (g:=7) rfl Tryz.func9 AhD ?_;apply ApY _ Ie Abv AfB AhN Afz<;>assumption
theorem Ip:Oz (DD 31):=by unfold Oz;intros;refine lk (g:=31) rfl Tryz.func61 AiN ?_;apply Arp _<;>assumption
theorem Amr:AkB (DD 226):=by unfold AkB;intros;refine lk (g:=226) rfl Tryz.func257 AlU ?_;apply Asz _ Ip<;>assumption
theorem Al9:Afb (DD 170):=by unfold Afb;intros;refine lk (g:=170) rfl Tryz.func220 Aju ?_;apply AqQ _ Amr<;>assumption
theorem Ad7:P9 (DD 98):=by unfold P9;intros;refine lk (g:=98) rfl Tryz.func150 Aa0 ?_;apply Akx _ Ip Al9<;>assumption
theorem AcL:Nj (DD 32):=by unfold Nj;intros;refine lk (g:=32) rfl Tryz.func62 YD ?_;apply AjL _ Ad7<;>assumption
theorem AhE:SX (DD 33):=by unfold SX;intros;refine lk (g:=33) rfl Tryz.func63 Ac5 ?_;apply AnB _ Ip<;>assumption
theorem Akr:Afj (DD 171):=by unfold Afj;intros;refine lk (g:=171) rfl Tryz.func221 Ajn ?_;apply AqG _ Ip<;>assumption
theorem WX:QE (DD 99):=by unfold QE;intros;refine lk (g:=99) rfl Tryz.func151 Aez ?_;apply AoK _ Akr Ip<;>assumption
theorem Ago:QR (DD 34):=by unfold QR;intros;refine lk (g:=34) rfl Tryz.func64 Ac1 ?_;apply AmJ _ WX<;>assumption
theorem Agj:UZ (DD 100):=by unfold UZ;intros;refine lk (g:=100) rfl Tryz.func152 AeY ?_;apply AoA _ WX<;>assumption
theorem Ahw:Q6 (DD 35):=by unfold Q6;intros;refine lk (g:=35) rfl Tryz.func65 AcS ?_;apply AmU _ Agj<;>assumption
theorem AmE:Zi (DD 8):=by unfold Zi;intros;refine lk (g:=8) rfl Tryz.func11 Agm ?_;apply App _ Ip AcL AhE Ago Ahw<;>assumption
theorem Ii:Pp (DD 47):=by unfold Pp;intros;refine lk (g:=47) rfl Tryz.func67 Aiw ?_;apply Aqk _<;>assumption
theorem Anb:Amk (DD 249):=by unfold Amk;intros;refine lk (g:=249) rfl Tryz.func258 Alv ?_;apply Asn _ Ii<;>assumption
theorem Alf:Afc (DD 204):=by unfold Afc;intros;refine lk (g:=204) rfl Tryz.func222 Aj3 ?_;apply Aqr _ Anb<;>assumption
theorem Abn:Pz (DD 134):=by unfold Pz;intros;refine lk (g:=134) rfl Tryz.func155 Aah ?_;apply AkL _ Ii Alf<;>assumption
theorem Abb:Oo (DD 48):=by unfold Oo;intros;refine lk (g:=48) rfl Tryz.func68 Yp ?_;apply Aj6 _ Abn<;>assumption
theorem Ags:QW (DD 49):=by unfold QW;intros;refine lk (g:=49) rfl Tryz.func69 AcQ ?_;apply AmR _ Ii<;>assumption
theorem Amd:Afy (DD 205):=by unfold Afy;intros;refine lk (g:=205) rfl Tryz.func223 Ail ?_;apply AqJ _ Ii<;>assumption
theorem UJ:QH (DD 135):=by unfold QH;intros;refine lk (g:=135) rfl Tryz.func156 AdQ ?_;apply AoX _ Amd Ii<;>assumption
theorem Ahb:RA (DD 50):=by unfold RA;intros;refine lk (g:=50) rfl Tryz.func70 AcG ?_;apply Am9 _ UJ<;>assumption
theorem AfF:U9 (DD 136):=by unfold U9;intros;refine lk (g:=136) rfl Tryz.func157 Ad6 ?_;apply Aoe _ UJ<;>assumption
theorem Ahs:RV (DD 51):=by unfold RV;intros;refine lk (g:=51) rfl Tryz.func71 Abz ?_;apply Anj _ AfF<;>assumption
theorem AlK:Z8 (DD 11):=by unfold Z8;intros;refine lk (g:=11) rfl Tryz.func13 AfT ?_;apply ApZ _ Ii Abb Ags Ahb Ahs<;>assumption
theorem Gy:G6 (DD 52):=by unfold G6;intros;refine lk (g:=52) rfl Tryz.func72 AeB ?_;apply AoG _<;>assumption
theorem AhI:U0 (DD 137):=by unfold U0;intros;refine lk (g:=137) rfl Tryz.func158 Aen ?_;apply Aoq _ Gy<;>assumption
theorem Yf:IA (DD 53):=by unfold IA;intros;refine lk (g:=53) rfl Tryz.func73 UW ?_;apply AeZ _ Gy AhI<;>assumption
theorem Adc:Od (DD 54):=by unfold Od;intros;refine lk (g:=54) rfl Tryz.func74 Xa ?_;apply AjR _ Gy<;>assumption
theorem AcY:N9 (DD 55):=by unfold N9;intros;refine lk (g:=55) rfl Tryz.func75 YO ?_;apply AiA _ Gy<;>assumption
theorem AbM:Oc (DD 56):=by unfold Oc;intros;refine lk (g:=56) rfl Tryz.func76 Xm ?_;apply Ajw _ Gy<;>assumption
theorem Ag9:R7 (DD 12):=by unfold R7;intros;refine lk (g:=12) rfl Tryz.func14 Adl ?_;apply AmC _ Gy Yf Adc AcY AbM<;>assumption
theorem Gz:He (DD 57):=by unfold He;intros;refine lk (g:=57) rfl Tryz.func77 AeV ?_;apply Aoz _<;>assumption
theorem AfE:Vo (DD 138):=by unfold Vo;intros;refine lk (g:=138) rfl Tryz.func159 AdP ?_;apply An2 _ Gz<;>assumption
theorem Y9:Ja (DD 58):=by unfold Ja;intros;refine lk (g:=58) rfl Tryz.func78 Uh ?_;apply AeM _ Gz AfE<;>assumption
theorem Adf:Nr (DD 59):=by unfold Nr;intros;refine lk (g:=59) rfl Tryz.func79 XK ?_;apply Aiv _ Gz<;>assumption
theorem AbX:Nw (DD 60):=by unfold Nw;intros;refine lk (g:=60) rfl Tryz.func80 XC ?_;apply Aiz _ Gz<;>assumption
theorem Abc:MX (DD 61):=by unfold MX;intros;refine lk (g:=61) rfl Tryz.func81 Yj ?_;apply Ai9 _ Gz<;>assumption
theorem Ag3:SF (DD 13):=by unfold SF;intros;refine lk (g:=13) rfl Tryz.func15 Adb ?_;apply Anr _ Gz Y9 Adf AbX Abc<;>assumption
theorem Wm:O5 (DD 519):=by unfold O5;intros;refine lk (g:=519) rfl Tryz.func3 TP ?_;apply AeX _ AmW Anm AmQ AmE AlK Ag9 Ag3<;>assumption
theorem den (av:List V) (h:ADj [Afd] av):DD 519 av [] (B true) []:=by
 obtain⟨v0,r0,h0,hr0,rfl⟩:=h
 obtain⟨x0,rfl,l0,w0⟩:=ArB h0
 have z:r0=[]:=hr0
 subst z
 apply Wm<;>assumption
end Go.Eng.T
