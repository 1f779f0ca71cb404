/- Own work: part 48 of the proof of FnExactStepDial. -/
import Derived.Test.YtdgpapmladligaaGreatP47
import Derived.Test.YtdgpapmladligaaGreatProg
import Derived.KernelRfl
set_option linter.unusedSimpArgs false
set_option linter.unusedVariables false
namespace Go.Eng.T
open Go.Proofs
set_option maxRecDepth 100000
def ADO:List (Option Nat):=[none,none,none,none,none,none,none,some 41,some 43,none,none,some 45,some 48,some 53,none,none,some 97,some 98,some 99,some 100,some 101,none,some 125,none,none,none,none,none,none,none,none,some 104,some 105,some 106,some 107,some 108,none,none,some 58,none,none,none,none,none,none,none,none,some 109,some 110,some 111,some 112,some 113,some 117,some 118,some 119,some 120,some 121,some 124,some 130,some 131,some 132,some 133,some 164,some 165,some 166,some 179,some 180,some 127,none,none,none,some 79,some 51,none,none,none,none,none,none,none,none,none,none,none,none,none,none,none,none,none,none,none,none,none,none,none,none,none,some 169,some 170,some 171,some 140,some 141,some 129,none,none,some 52,none,none,none,none,none,none,none,some 70,none,none,some 90,none,none,none,none,none,none,none,none,none,none,none,none,none,none,none,none,some 172,some 47,some 173,some 178,some 183,some 211,some 212,none,some 46,some 126,some 128,some 75,none,none,none,none,none,none,some 152,none,none,some 182,none,none,none,none,none,none,none,none,none,none,some 76,none,some 103,none,some 213,some 214,some 190,some 32,some 35,some 38,some 15,none,none,none,none,none,none,some 149,none,none,none,none,some 69,some 61,some 20,none,none,none,none,none,none,none,none,none,none,none,none,none,some 215,some 116,some 251,some 71,some 72,none,some 74,none,some 115,some 114,some 181,some 176,none,some 197,none,none,none,none,some 163,some 162,some 168,none,some 252,some 91,some 59,some 94,none,none,some 81,some 145,none,some 64,some 65,none,none,some 68,some 161,none,some 82,none,none,none,none,none,none,some 253,some 151,some 175,some 174,some 177,some 220,none,some 250,none,some 299,none,some 210,some 160,some 159,some 17,none,none,some 195,some 194,none,some 143,some 147,some 148,some 86,some 209,some 208,none,none,none,none,some 196,some 216,some 217,some 218,some 219,some 269,some 254,some 249,some 204,some 205,some 206,some 207,some 80,some 232,some 238,some 203,some 233,some 234,some 236,some 235,none,some 255,some 256,some 257,some 258,some 259,some 261,some 262,some 260,some 263,some 264,some 265,some 266,some 267,some 268,some 237,some 239,some 240,some 241,some 242,some 243,some 244,some 245,some 247,some 246,some 248,some 278,some 280,some 279,some 300,some 302,some 301,some 304,some 303,some 305,some 306,some 308,some 307,some 309,some 311,some 310,some 281,some 283,some 282,some 284,none,some 287,some 288,some 286,some 289,some 290,some 291,some 293,some 292,some 296,some 295,some 332,some 333,some 315,some 316,some 317,some 318,some 320,some 319,none,some 322,some 324,some 323,some 325,some 326,some 327,some 328,some 337,some 336,some 338,some 339,some 340,none,none,none,none,none,none,none,none,none,none,none,none,none,some 150,none,none,none,none,none,none,none,none,none,none,none,none,none,none,some 224,some 193,some 157,none,none,none,none,none,none,none,none,none,none,none,none,some 341,none,none,none,none,none,none,none,none,none,none,none,none,none,none,none,none,none,none,none,none,none,none,none,none,none,none,none,none,none,none,none,none,none,none,none,none,none,none,none,none,none,none,none,none,none,none,none,none,none,none,none,none,none,none,none,none,none,none,none,none,none,none,none,none,none,none,none,none,none,none,none,none,none,none,none,none,none,none,none,none,none,none,none,none,none,none,none,none,none,none,none,none,none,none,none,some 8,none,none,none,none,none,none,none,none,none,none,none,none,none,none,none,none,none,none,none,none,none,none,none,none,none,none]
def Ai:Nat→Option FuncId:=fun g=>ADO.getD g none
theorem Auv:Tryz.prog.follows .mixedOrders=true:=by kernel_rfl
theorem hFl:ADO.all (fun o=>match o with | some f=>okF Tryz.prog f | none=>true)=true:=by kernel_rfl
theorem hF:∀g f,Ai g=some f→okF Tryz.prog f=true:=by
 intro g f h
 have:=List.all_eq_true.1 hFl (some f) (by
  unfold Ai at h
  rw[List.getD_eq_getElem?_getD]at h
  cases hg:ADO[g]? with
  | none=>simp[hg]at h
  | some o=>simp[hg]at h;subst h;exact List.mem_of_getElem? hg)
 exact this
abbrev G0:Gl:=⟨fun _=>False,fun _=>none⟩
abbrev DD:Dn:=Den Tryz.prog Ai G0
theorem lk {g:Nat} {f:FuncId} {fn:Func} {st:List Tmp} {sf:Bw} (hg:Ai g=some f) (hfn:Tryz.prog.funcs[f]? =some fn) (hm:BI Tryz.prog Ai st sf fn=true) {a:List V} {gi:List O} {r:V} {o:List O}
 (h:Body DD sf a gi r o):DD g a gi r o:=
 AAl Auv (fun _ _ _ _ _ h=>h) hF (fun id hid=>by rw[hg]at hid;cases hid;exact hfn) hm h
theorem Ams:BI Tryz.prog Ai Aim Vo Tryz.f179=true:=by kernel_rfl
theorem Ah9:BI Tryz.prog Ai AgT Sc Tryz.f180=true:=by kernel_rfl
theorem Ac4:BI Tryz.prog Ai AbK OJ Tryz.f127=true:=by kernel_rfl
theorem AiG:BI Tryz.prog Ai AfN SE Tryz.f125=true:=by kernel_rfl
theorem AqK:BI Tryz.prog Ai Aof Zl Tryz.f79=true:=by kernel_rfl
theorem AtM:BI Tryz.prog Ai Ara AdW Tryz.f176=true:=by kernel_rfl
theorem AsQ:BI Tryz.prog Ai Arb Aei Tryz.f177=true:=by kernel_rfl
theorem AhJ:BI Tryz.prog Ai Ag2 R6 Tryz.f115=true:=by kernel_rfl
theorem AbU:BI Tryz.prog Ai ZA MW Tryz.f151=true:=by kernel_rfl
theorem Alp:BI Tryz.prog Ai AhX Uv Tryz.f197=true:=by kernel_rfl
theorem AoF:BI Tryz.prog Ai Ak5 Xk Tryz.f152=true:=by kernel_rfl
theorem ZC:BI Tryz.prog Ai Yk Mr Tryz.f72=true:=by kernel_rfl
theorem AaZ:BI Tryz.prog Ai Zy Nj Tryz.f71=true:=by kernel_rfl
theorem Atg:BI Tryz.prog Ai Aq6 Adm Tryz.f310=true:=by kernel_rfl
theorem Aq8:BI Tryz.prog Ai An2 ZR Tryz.f311=true:=by kernel_rfl
theorem AlG:BI Tryz.prog Ai AhC U0 Tryz.f268=true:=by kernel_rfl
theorem AcT:BI Tryz.prog Ai Acd O0 Tryz.f265=true:=by kernel_rfl
theorem Amb:BI Tryz.prog Ai Ain Va Tryz.f263=true:=by kernel_rfl
theorem Aoa:BI Tryz.prog Ai Al4 WL Tryz.f76=true:=by kernel_rfl
theorem AjO:BI Tryz.prog Ai AgX Sz Tryz.f304=true:=by kernel_rfl
theorem AiO:BI Tryz.prog Ai AgD Td Tryz.f266=true:=by kernel_rfl
theorem AnJ:BI Tryz.prog Ai AlN WR Tryz.f264=true:=by kernel_rfl
theorem Aig:BI Tryz.prog Ai AfU Sv Tryz.f267=true:=by kernel_rfl
theorem AdI:BI Tryz.prog Ai AbG O4 Tryz.f219=true:=by kernel_rfl
theorem Aj9:BI Tryz.prog Ai Afo Sd Tryz.f175=true:=by kernel_rfl
theorem AhZ:BI Tryz.prog Ai Agr Sj Tryz.f254=true:=by kernel_rfl
theorem AfE:BI Tryz.prog Ai Adp Rk Tryz.f256=true:=by kernel_rfl
theorem Ajn:BI Tryz.prog Ai AfB R9 Tryz.f299=true:=by kernel_rfl
theorem AfG:BI Tryz.prog Ai AcR Q0 Tryz.f249=true:=by kernel_rfl
theorem Aez:BI Tryz.prog Ai AaE Pf Tryz.f332=true:=by kernel_rfl
theorem Ael:BI Tryz.prog Ai AbC Pq Tryz.f333=true:=by kernel_rfl
theorem Zq:BI Tryz.prog Ai Ya MN Tryz.f300=true:=by kernel_rfl
theorem YR:BI Tryz.prog Ai XU ML Tryz.f255=true:=by kernel_rfl
theorem AcB:BI Tryz.prog Ai Y8 Nn Tryz.f250=true:=by kernel_rfl
theorem Aa3:BI Tryz.prog Ai ZI Nt Tryz.f210=true:=by kernel_rfl
theorem Yi:BI Tryz.prog Ai WH KL Tryz.f163=true:=by kernel_rfl
theorem AiD:BI Tryz.prog Ai Af2 Si Tryz.f162=true:=by kernel_rfl
theorem Aff:BI Tryz.prog Ai AcS Rm Tryz.f302=true:=by kernel_rfl
theorem Aer:BI Tryz.prog Ai Abr OQ Tryz.f301=true:=by kernel_rfl
theorem VZ:BI Tryz.prog Ai VT JW Tryz.f257=true:=by kernel_rfl
theorem Ag3:BI Tryz.prog Ai AdH Rl Tryz.f216=true:=by kernel_rfl
theorem AfW:BI Tryz.prog Ai Aen QE Tryz.f168=true:=by kernel_rfl
theorem Ab3:BI Tryz.prog Ai Aae M0 Tryz.f103=true:=by kernel_rfl
theorem Zp:BI Tryz.prog Ai X0 Mc Tryz.f303=true:=by kernel_rfl
theorem XW:BI Tryz.prog Ai WI KS Tryz.f258=true:=by kernel_rfl
theorem AgY:BI Tryz.prog Ai AdY Q5 Tryz.f305=true:=by kernel_rfl
theorem Aeb:BI Tryz.prog Ai AbL Pn Tryz.f259=true:=by kernel_rfl
theorem AaF:BI Tryz.prog Ai Aab Nz Tryz.f309=true:=by kernel_rfl
theorem Acp:BI Tryz.prog Ai ZU NM Tryz.f261=true:=by kernel_rfl
theorem Zv:BI Tryz.prog Ai X7 Mi Tryz.f262=true:=by kernel_rfl
theorem AaH:BI Tryz.prog Ai ZH M8 Tryz.f74=true:=by kernel_rfl
theorem Ye:BI Tryz.prog Ai WY KM Tryz.f306=true:=by kernel_rfl
theorem VK:BI Tryz.prog Ai Vs Jh Tryz.f308=true:=by kernel_rfl
theorem AdU:BI Tryz.prog Ai Aav Pb Tryz.f307=true:=by kernel_rfl
theorem Afn:BI Tryz.prog Ai Ac8 QO Tryz.f260=true:=by kernel_rfl
theorem Agt:BI Tryz.prog Ai Ad1 Ra Tryz.f217=true:=by kernel_rfl
theorem Aiv:BI Tryz.prog Ai Agv SS Tryz.f218=true:=by kernel_rfl
theorem ApH:BI Tryz.prog Ai AoA Zk Tryz.f174=true:=by kernel_rfl
theorem AhH:BI Tryz.prog Ai Af4 Sq Tryz.f114=true:=by kernel_rfl
theorem AkL:BI Tryz.prog Ai Ajo Uw Tryz.f46=true:=by kernel_rfl
theorem AdA:BI Tryz.prog Ai Aa6 OV Tryz.f75=true:=by kernel_rfl
theorem Ah3:BI Tryz.prog Ai Aga SV Tryz.f269=true:=by kernel_rfl
theorem AiF:BI Tryz.prog Ai Ae7 SK Tryz.f220=true:=by kernel_rfl
theorem Arv:BI Tryz.prog Ai Aoq Aak Tryz.f181=true:=by kernel_rfl
theorem AjT:BI Tryz.prog Ai AfY SG Tryz.f126=true:=by kernel_rfl
theorem AfP:BI Tryz.prog Ai Adg QJ Tryz.f182=true:=by kernel_rfl
theorem AcU:BI Tryz.prog Ai Abk OT Tryz.f128=true:=by kernel_rfl
theorem Agn:BI Tryz.prog Ai AcV QK Tryz.f51=true:=by kernel_rfl
theorem Afi:BI Tryz.prog Ai Adn Q6 Tryz.f190=true:=by kernel_rfl
theorem Yu:BI Tryz.prog Ai V9 Kw Tryz.f141=true:=by kernel_rfl
theorem YS:BI Tryz.prog Ai Yr Lx Tryz.f140=true:=by kernel_rfl
theorem AbA:BI Tryz.prog Ai Zn Nl Tryz.f129=true:=by kernel_rfl
theorem AcP:BI Tryz.prog Ai AbV OB Tryz.f58=true:=by kernel_rfl
theorem Aip:BI Tryz.prog Ai AgF RY Tryz.f70=true:=by kernel_rfl
theorem Ak1:BI Tryz.prog Ai Ajz UE Tryz.f90=true:=by kernel_rfl
theorem Aal:BI Tryz.prog Ai Yv Mh Tryz.f81=true:=by kernel_rfl
theorem XZ:BI Tryz.prog Ai V6 Kz Tryz.f195=true:=by kernel_rfl
theorem NZ:BI Tryz.prog Ai Na FC Tryz.f224=true:=by kernel_rfl
theorem Ls:BI Tryz.prog Ai Lh ER Tryz.f194=true:=by kernel_rfl
theorem Abm:BI Tryz.prog Ai YU NC Tryz.f145=true:=by kernel_rfl
theorem AjA:BI Tryz.prog Ai AgA Sl Tryz.f64=true:=by kernel_rfl
theorem Aaz:BI Tryz.prog Ai Z6 Ng Tryz.f196=true:=by kernel_rfl
theorem Aa8:BI Tryz.prog Ai Y9 NF Tryz.f147=true:=by kernel_rfl
theorem AnU:BI Tryz.prog Ai Al9 Wv Tryz.f149=true:=by kernel_rfl
theorem Yj:BI Tryz.prog Ai WT KI Tryz.f148=true:=by kernel_rfl
theorem IE:BI Tryz.prog Ai Ir Dv Tryz.f157=true:=by kernel_rfl
theorem Hu:BI Tryz.prog Ai G9 Da Tryz.f86=true:=by kernel_rfl
theorem AbZ:BI Tryz.prog Ai ZG Ni Tryz.f68=true:=by kernel_rfl
theorem Abx:BI Tryz.prog Ai ZW NA Tryz.f291=true:=by kernel_rfl
theorem Afw:BI Tryz.prog Ai AcN Q9 Tryz.f235=true:=by kernel_rfl
theorem Af7:BI Tryz.prog Ai Ac2 QM Tryz.f242=true:=by kernel_rfl
theorem Auy:BI Tryz.prog Ai ArI AdL Tryz.f295=true:=by kernel_rfl
theorem ArF:BI Tryz.prog Ai Ao7 Zc Tryz.f296=true:=by kernel_rfl
theorem AlU:BI Tryz.prog Ai Ai7 U6 Tryz.f247=true:=by kernel_rfl
theorem Adv:BI Tryz.prog Ai Aas Po Tryz.f243=true:=by kernel_rfl
theorem Aki:BI Tryz.prog Ai Afp SA Tryz.f293=true:=by kernel_rfl
theorem IC:BI Tryz.prog Ai Iw Du Tryz.f292=true:=by kernel_rfl
theorem Aod:BI Tryz.prog Ai AkB WS Tryz.f245=true:=by kernel_rfl
theorem Ajf:BI Tryz.prog Ai Afx SI Tryz.f244=true:=by kernel_rfl
theorem Aax:BI Tryz.prog Ai ZQ Nw Tryz.f207=true:=by kernel_rfl
theorem AhF:BI Tryz.prog Ai Ag1 Sn Tryz.f160=true:=by kernel_rfl
theorem AjB:BI Tryz.prog Ai AfJ Sg Tryz.f232=true:=by kernel_rfl
theorem Ado:BI Tryz.prog Ai AaI OU Tryz.f238=true:=by kernel_rfl
theorem Rt:BI Tryz.prog Ai QI GH Tryz.f150=true:=by kernel_rfl
theorem O9:BI Tryz.prog Ai Oh FM Tryz.f69=true:=by kernel_rfl
theorem AhL:BI Tryz.prog Ai AgZ SB Tryz.f280=true:=by kernel_rfl
theorem Ht:BI Tryz.prog Ai G7 CY Tryz.f279=true:=by kernel_rfl
theorem AoZ:BI Tryz.prog Ai Alh Xj Tryz.f233=true:=by kernel_rfl
theorem Ac0:BI Tryz.prog Ai Abt Pz Tryz.f236=true:=by kernel_rfl
theorem Ajq:BI Tryz.prog Ai AfK Ta Tryz.f203=true:=by kernel_rfl
theorem AgK:BI Tryz.prog Ai Aes Qq Tryz.f208=true:=by kernel_rfl
theorem Rs:BI Tryz.prog Ai Rj GD Tryz.f315=true:=by kernel_rfl
theorem Af3:BI Tryz.prog Ai Adi QC Tryz.f337=true:=by kernel_rfl
theorem EU:BI Tryz.prog Ai EQ BA Tryz.f336=true:=by kernel_rfl
theorem Ad8:BI Tryz.prog Ai Acl OC Tryz.f316=true:=by kernel_rfl
theorem YX:BI Tryz.prog Ai X4 LF Tryz.f281=true:=by kernel_rfl
theorem Y0:BI Tryz.prog Ai XT LH Tryz.f237=true:=by kernel_rfl
theorem Abd:BI Tryz.prog Ai ZP NI Tryz.f209=true:=by kernel_rfl
theorem Yl:BI Tryz.prog Ai Wy KN Tryz.f161=true:=by kernel_rfl
theorem AiA:BI Tryz.prog Ai AfV Sk Tryz.f61=true:=by kernel_rfl
theorem AaM:BI Tryz.prog Ai Zf Nk Tryz.f318=true:=by kernel_rfl
theorem AgQ:BI Tryz.prog Ai Aev Rf Tryz.f283=true:=by kernel_rfl
theorem Aan:BI Tryz.prog Ai Yw Lr Tryz.f317=true:=by kernel_rfl
theorem AcG:BI Tryz.prog Ai Abg Pj Tryz.f282=true:=by kernel_rfl
theorem WZ:BI Tryz.prog Ai VJ JM Tryz.f239=true:=by kernel_rfl
theorem AgC:BI Tryz.prog Ai AdJ QX Tryz.f204=true:=by kernel_rfl
theorem AgE:BI Tryz.prog Ai Aex QF Tryz.f82=true:=by kernel_rfl
theorem Ab4:BI Tryz.prog Ai Zt MS Tryz.f20=true:=by kernel_rfl
theorem Aek:BI Tryz.prog Ai Aay Pe Tryz.f339=true:=by kernel_rfl
theorem AhK:BI Tryz.prog Ai Afb SF Tryz.f320=true:=by kernel_rfl
theorem WM:BI Tryz.prog Ai VX JU Tryz.f338=true:=by kernel_rfl
theorem Aaf:BI Tryz.prog Ai Yh MO Tryz.f319=true:=by kernel_rfl
theorem Yy:BI Tryz.prog Ai WK KJ Tryz.f284=true:=by kernel_rfl
theorem AfS:BI Tryz.prog Ai Adt QV Tryz.f327=true:=by kernel_rfl
theorem AkT:BI Tryz.prog Ai Ajj UX Tryz.f241=true:=by kernel_rfl
theorem Adz:BI Tryz.prog Ai Aa9 Pt Tryz.f328=true:=by kernel_rfl
theorem AcX:BI Tryz.prog Ai Ab6 Px Tryz.f289=true:=by kernel_rfl
theorem Ab5:BI Tryz.prog Ai Zg Nf Tryz.f325=true:=by kernel_rfl
theorem Qf:BI Tryz.prog Ai OO Gc Tryz.f326=true:=by kernel_rfl
theorem AbP:BI Tryz.prog Ai Zr NK Tryz.f287=true:=by kernel_rfl
theorem Y6:BI Tryz.prog Ai X8 Me Tryz.f288=true:=by kernel_rfl
theorem Ack:BI Tryz.prog Ai Zi MX Tryz.f65=true:=by kernel_rfl
theorem VL:BI Tryz.prog Ai Ut Jm Tryz.f340=true:=by kernel_rfl
theorem Li:BI Tryz.prog Ai KO EI Tryz.f193=true:=by kernel_rfl
theorem JV:BI Tryz.prog Ai JC Ef Tryz.f143=true:=by kernel_rfl
theorem X5:BI Tryz.prog Ai Ww KA Tryz.f322=true:=by kernel_rfl
theorem VN:BI Tryz.prog Ai Vg I7 Tryz.f324=true:=by kernel_rfl
theorem AdR:BI Tryz.prog Ai AbY Ps Tryz.f323=true:=by kernel_rfl
theorem Afv:BI Tryz.prog Ai AcH Qo Tryz.f286=true:=by kernel_rfl
theorem Adh:BI Tryz.prog Ai AbE O7 Tryz.f290=true:=by kernel_rfl
theorem AlM:BI Tryz.prog Ai Ajr UO Tryz.f240=true:=by kernel_rfl
theorem Agx:BI Tryz.prog Ai AcI Qv Tryz.f205=true:=by kernel_rfl
theorem AiJ:BI Tryz.prog Ai Agd Tf Tryz.f206=true:=by kernel_rfl
theorem Aqe:BI Tryz.prog Ai Apt Z8 Tryz.f159=true:=by kernel_rfl
theorem AhQ:BI Tryz.prog Ai AfT R8 Tryz.f91=true:=by kernel_rfl
theorem AkS:BI Tryz.prog Ai AhI Vz Tryz.f32=true:=by kernel_rfl
theorem AcQ:BI Tryz.prog Ai Ab2 Pm Tryz.f15=true:=by kernel_rfl
theorem AiV:BI Tryz.prog Ai AfA Sw Tryz.f80=true:=by kernel_rfl
theorem AjZ:BI Tryz.prog Ai Afs SN Tryz.f17=true:=by kernel_rfl
theorem Aq5:BI Tryz.prog Ai Apk Z7 Tryz.f59=true:=by kernel_rfl
theorem AjK:BI Tryz.prog Ai Agk Te Tryz.f35=true:=by kernel_rfl
theorem AnL:BI Tryz.prog Ai AlY WC Tryz.f94=true:=by kernel_rfl
theorem Ad4:BI Tryz.prog Ai Abj O3 Tryz.f38=true:=by kernel_rfl
theorem Afy:BI Tryz.prog Ai Aef QW Tryz.f52=true:=by kernel_rfl
theorem Amf:BI Tryz.prog Ai Ajh U4 Tryz.f97=true:=by kernel_rfl
theorem AoY:BI Tryz.prog Ai Al2 Wp Tryz.f251=true:=by kernel_rfl
theorem Alc:BI Tryz.prog Ai Ah5 Uo Tryz.f211=true:=by kernel_rfl
theorem Abu:BI Tryz.prog Ai Zu MZ Tryz.f164=true:=by kernel_rfl
theorem Z0:BI Tryz.prog Ai Yq MI Tryz.f98=true:=by kernel_rfl
theorem Ady:BI Tryz.prog Ai Acg OY Tryz.f99=true:=by kernel_rfl
theorem Ak7:BI Tryz.prog Ai Aj2 UL Tryz.f212=true:=by kernel_rfl
theorem AgO:BI Tryz.prog Ai Adk Q7 Tryz.f165=true:=by kernel_rfl
theorem Ac3:BI Tryz.prog Ai Abw OA Tryz.f100=true:=by kernel_rfl
theorem AgW:BI Tryz.prog Ai Ad2 QH Tryz.f166=true:=by kernel_rfl
theorem AdP:BI Tryz.prog Ai AbQ O6 Tryz.f101=true:=by kernel_rfl
theorem AjJ:BI Tryz.prog Ai Agg Sr Tryz.f41=true:=by kernel_rfl
theorem AkU:BI Tryz.prog Ai AjN Ul Tryz.f104=true:=by kernel_rfl
theorem Aol:BI Tryz.prog Ai Alx Xn Tryz.f252=true:=by kernel_rfl
theorem Al7:BI Tryz.prog Ai Akg UF Tryz.f213=true:=by kernel_rfl
theorem Acz:BI Tryz.prog Ai Zj Ny Tryz.f169=true:=by kernel_rfl
theorem ZN:BI Tryz.prog Ai XR Mx Tryz.f105=true:=by kernel_rfl
theorem Aea:BI Tryz.prog Ai AaW OZ Tryz.f106=true:=by kernel_rfl
theorem Al3:BI Tryz.prog Ai Aiz UQ Tryz.f214=true:=by kernel_rfl
theorem Afk:BI Tryz.prog Ai AdZ QT Tryz.f170=true:=by kernel_rfl
theorem AdX:BI Tryz.prog Ai AaD OG Tryz.f107=true:=by kernel_rfl
theorem Af9:BI Tryz.prog Ai Ad3 Ri Tryz.f171=true:=by kernel_rfl
theorem Aed:BI Tryz.prog Ai AbN OX Tryz.f108=true:=by kernel_rfl
theorem Aiu:BI Tryz.prog Ai AgM Sm Tryz.f43=true:=by kernel_rfl
theorem Amg:BI Tryz.prog Ai Air U7 Tryz.f109=true:=by kernel_rfl
theorem Aov:BI Tryz.prog Ai AlT Xa Tryz.f253=true:=by kernel_rfl
theorem AlK:BI Tryz.prog Ai Ajm Vm Tryz.f215=true:=by kernel_rfl
theorem Acr:BI Tryz.prog Ai YW Nr Tryz.f172=true:=by kernel_rfl
theorem Aac:BI Tryz.prog Ai X6 Mg Tryz.f110=true:=by kernel_rfl
theorem AcL:BI Tryz.prog Ai AcA OH Tryz.f111=true:=by kernel_rfl
theorem Aml:BI Tryz.prog Ai Aj4 Vw Tryz.f116=true:=by kernel_rfl
theorem AfC:BI Tryz.prog Ai Ad9 Rn Tryz.f47=true:=by kernel_rfl
theorem Adf:BI Tryz.prog Ai AbB OI Tryz.f112=true:=by kernel_rfl
theorem Afj:BI Tryz.prog Ai Ads Rb Tryz.f173=true:=by kernel_rfl
theorem AdS:BI Tryz.prog Ai Aaw Py Tryz.f113=true:=by kernel_rfl
theorem AhM:BI Tryz.prog Ai Aft R5 Tryz.f45=true:=by kernel_rfl
theorem Ae8:BI Tryz.prog Ai Ac9 QZ Tryz.f117=true:=by kernel_rfl
theorem Af6:BI Tryz.prog Ai AdM QB Tryz.f178=true:=by kernel_rfl
theorem V8:BI Tryz.prog Ai VW JI Tryz.f118=true:=by kernel_rfl
theorem Y1:BI Tryz.prog Ai X9 MC Tryz.f119=true:=by kernel_rfl
theorem Zm:BI Tryz.prog Ai Ym Lv Tryz.f120=true:=by kernel_rfl
theorem ZV:BI Tryz.prog Ai Yo LK Tryz.f121=true:=by kernel_rfl
theorem AcM:BI Tryz.prog Ai AaA Pp Tryz.f48=true:=by kernel_rfl
theorem Af8:BI Tryz.prog Ai Ad0 Rh Tryz.f124=true:=by kernel_rfl
theorem AfI:BI Tryz.prog Ai Aeg QR Tryz.f183=true:=by kernel_rfl
theorem Wm:BI Tryz.prog Ai VU JY Tryz.f130=true:=by kernel_rfl
theorem Z5:BI Tryz.prog Ai XY LJ Tryz.f131=true:=by kernel_rfl
theorem Aah:BI Tryz.prog Ai Yc Md Tryz.f132=true:=by kernel_rfl
theorem Aaj:BI Tryz.prog Ai Yn Lp Tryz.f133=true:=by kernel_rfl
theorem Aeh:BI Tryz.prog Ai AbH O5 Tryz.f53=true:=by kernel_rfl
theorem UC:BI Tryz.prog Ai TM Iy Tryz.f8=true:=by kernel_rfl
theorem Agz:Hg (DD 65):=by unfold Hg;intros;refine lk (g:=65) rfl Tryz.func179 Ams ?_;apply Azc _<;>assumption
theorem Akc:Jq (DD 66):=by unfold Jq;intros;refine lk (g:=66) rfl Tryz.func180 Ah9 ?_;apply AwL _<;>assumption
theorem YH:Ij (DD 67):=by unfold Ij;intros;refine lk (g:=67) rfl Tryz.func127 Ac4 ?_;apply AqG _<;>assumption
theorem AnM:Og (DD 22):=by unfold Og;intros;refine lk (g:=22) rfl Tryz.func125 AiG ?_;apply Av5 _ Agz Akc YH<;>assumption
theorem Gi:Uk (DD 71):=by unfold Uk;intros;refine lk (g:=71) rfl Tryz.func79 AqK ?_;apply AEM _<;>assumption
theorem AtW:AuR (DD 215):=by unfold AuR;intros;refine lk (g:=215) rfl Tryz.func176 AtM ?_;apply AEr _<;>assumption
theorem AsZ:AuV (DD 253):=by unfold AuV;intros;refine lk (g:=253) rfl Tryz.func177 AsQ ?_;apply AEt _<;>assumption
theorem AsC:Avs (DD 212):=by unfold Avs;intros;refine lk (g:=212) rfl Tryz.func115 AhJ ?_;apply Awd _ AtW AsZ<;>assumption
theorem NH:Ff (DD 250):=by unfold Ff;intros;refine lk (g:=250) rfl Tryz.func151 AbU ?_;apply AkQ _ Gi<;>assumption
theorem Vv:XB (DD 217):=by unfold XB;intros;refine lk (g:=217) rfl Tryz.func197 Alp ?_;apply AzN _ Gi<;>assumption
theorem AeN:RZ (DD 152):=by unfold RZ;intros;refine lk (g:=152) rfl Tryz.func152 AoF ?_;apply Azi _ Gi Vv<;>assumption
theorem Gu:CB (DD 208):=by unfold CB;intros;refine lk (g:=208) rfl Tryz.func72 ZC ?_;apply AhN _ Gi<;>assumption
theorem Tg:FV (DD 207):=by unfold FV;intros;refine lk (g:=207) rfl Tryz.func71 AaZ ?_;apply AlS _ Gi NH AeN Gu<;>assumption
theorem AmL:Amm (DD 339):=by unfold Amm;intros;refine lk (g:=339) rfl Tryz.func310 Atg ?_;apply AD1 _ Gi<;>assumption
theorem Aag:VG (DD 338):=by unfold VG;intros;refine lk (g:=338) rfl Tryz.func311 Aq8 ?_;apply ACo _ AmL<;>assumption
theorem Akm:Yz (DD 313):=by unfold Yz;intros;refine lk (g:=313) rfl Tryz.func268 AlG ?_;apply ABW _ Aag AmL<;>assumption
theorem AfX:Jo (DD 310):=by unfold Jo;intros;refine lk (g:=310) rfl Tryz.func265 AcT ?_;apply Apc _ Akm<;>assumption
theorem Aa0:Kq (DD 308):=by unfold Kq;intros;refine lk (g:=308) rfl Tryz.func263 Amb ?_;apply Axb _<;>assumption
theorem Lf:QA (DD 166):=by unfold QA;intros;refine lk (g:=166) rfl Tryz.func76 Aoa ?_;apply AB5 _<;>assumption
theorem YQ:Mq (DD 331):=by unfold Mq;intros;refine lk (g:=331) rfl Tryz.func304 AjO ?_;apply Auh _ Lf<;>assumption
theorem AaS:NR (DD 311):=by unfold NR;intros;refine lk (g:=311) rfl Tryz.func266 AiO ?_;apply AwT _ Aa0 YQ<;>assumption
theorem Rx:O8 (DD 309):=by unfold O8;intros;refine lk (g:=309) rfl Tryz.func264 AnJ ?_;apply Azd _<;>assumption
theorem J3:FE (DD 312):=by unfold FE;intros;refine lk (g:=312) rfl Tryz.func267 Aig ?_;apply Aum _ Gi Vv Rx<;>assumption
theorem AfF:Jl (DD 283):=by unfold Jl;intros;refine lk (g:=283) rfl Tryz.func219 AdI ?_;apply Anr _ AfX AaS J3 Rx Akm<;>assumption
theorem Amn:Oi (DD 251):=by unfold Oi;intros;refine lk (g:=251) rfl Tryz.func175 Aj9 ?_;apply Atq _ Tg AfF<;>assumption
theorem FT:Eh (DD 285):=by unfold Eh;intros;refine lk (g:=285) rfl Tryz.func254 AhZ ?_;apply AtZ _ Gu J3<;>assumption
theorem YN:J8 (DD 301):=by unfold J8;intros;refine lk (g:=301) rfl Tryz.func256 AfE ?_;apply Atr _ AaS<;>assumption
theorem Ak8:Oe (DD 258):=by unfold Oe;intros;refine lk (g:=258) rfl Tryz.func299 Ajn ?_;apply AsE _ AeN FT Lf Gi<;>assumption
theorem MP:Fv (DD 286):=by unfold Fv;intros;refine lk (g:=286) rfl Tryz.func249 AfG ?_;apply Aq0 _ FT YN Ak8<;>assumption
theorem AaQ:FK (DD 355):=by unfold FK;intros;refine lk (g:=355) rfl Tryz.func332 Aez ?_;apply AoV _<;>assumption
theorem AaC:P6 (DD 356):=by unfold P6;intros;refine lk (g:=356) rfl Tryz.func333 Ael ?_;apply AnI _ AaQ<;>assumption
theorem Ajw:KZ (DD 328):=by unfold KZ;intros;refine lk (g:=328) rfl Tryz.func300 Zq ?_;apply AiC _ AaQ AaC<;>assumption
theorem Ab0:FN (DD 300):=by unfold FN;intros;refine lk (g:=300) rfl Tryz.func255 YR ?_;apply Ai0 _ MP Ajw<;>assumption
theorem Tj:FR (DD 256):=by unfold FR;intros;refine lk (g:=256) rfl Tryz.func250 AcB ?_;apply AlI _<;>assumption
theorem TH:Gq (DD 260):=by unfold Gq;intros;refine lk (g:=260) rfl Tryz.func210 Aa3 ?_;apply AkK _ Gu Tj MP<;>assumption
theorem ZL:FQ (DD 222):=by unfold FQ;intros;refine lk (g:=222) rfl Tryz.func163 Yi ?_;apply AgU _ Gu TH<;>assumption
theorem AiE:VH (DD 223):=by unfold VH;intros;refine lk (g:=223) rfl Tryz.func162 AiD ?_;apply AvL _ Lf<;>assumption
theorem Aio:Ld (DD 329):=by unfold Ld;intros;refine lk (g:=329) rfl Tryz.func302 Aff ?_;apply Aq2 _ J3 TH Tj MP AaC<;>assumption
theorem Agu:IY (DD 330):=by unfold IY;intros;refine lk (g:=330) rfl Tryz.func301 Aer ?_;apply Aph _ FT Lf<;>assumption
theorem AiQ:K3 (DD 302):=by unfold K3;intros;refine lk (g:=302) rfl Tryz.func257 VZ ?_;apply AqE _ FT ZL AiE Aio Agu<;>assumption
theorem Akr:Lb (DD 280):=by unfold Lb;intros;refine lk (g:=280) rfl Tryz.func216 Ag3 ?_;apply Arq _ FT Ab0 YN AiQ<;>assumption
theorem AhU:KW (DD 224):=by unfold KW;intros;refine lk (g:=224) rfl Tryz.func168 AfW ?_;apply Ar0 _ Lf<;>assumption
theorem Aec:Hf (DD 168):=by unfold Hf;intros;refine lk (g:=168) rfl Tryz.func103 Ab3 ?_;apply AkR _ AhU Gu<;>assumption
theorem Abi:Gy (DD 332):=by unfold Gy;intros;refine lk (g:=332) rfl Tryz.func303 Zp ?_;apply Ai9 _ NH<;>assumption
theorem Aoc:RP (DD 303):=by unfold RP;intros;refine lk (g:=303) rfl Tryz.func258 XW ?_;apply AvM _ Aec FT YQ Abi<;>assumption
theorem Wx:Ik (DD 333):=by unfold Ik;intros;refine lk (g:=333) rfl Tryz.func305 AgY ?_;apply Aqu _ Gi J3<;>assumption
theorem AgH:Ji (DD 304):=by unfold Ji;intros;refine lk (g:=304) rfl Tryz.func259 Aeb ?_;apply AnT _ Rx NH FT Wx Lf<;>assumption
theorem Ti:FX (DD 337):=by unfold FX;intros;refine lk (g:=337) rfl Tryz.func309 AaF ?_;apply Aky _ J3<;>assumption
theorem Aeo:He (DD 305):=by unfold He;intros;refine lk (g:=305) rfl Tryz.func261 Acp ?_;apply Alw _ FT Ti<;>assumption
theorem Acn:Gv (DD 306):=by unfold Gv;intros;refine lk (g:=306) rfl Tryz.func262 Zv ?_;apply AjH _ Wx Ti<;>assumption
theorem AiT:K9 (DD 210):=by unfold K9;intros;refine lk (g:=210) rfl Tryz.func74 AaH ?_;apply ArG _ Gi<;>assumption
theorem YD:J5 (DD 334):=by unfold J5;intros;refine lk (g:=334) rfl Tryz.func306 Ye ?_;apply Atb _ Vv<;>assumption
theorem Af1:I5 (DD 335):=by unfold I5;intros;refine lk (g:=335) rfl Tryz.func308 VK ?_;apply AnA _ YD Aag<;>assumption
theorem Ar6:Xp (DD 336):=by unfold Xp;intros;refine lk (g:=336) rfl Tryz.func307 AdU ?_;apply AAH _ Aag<;>assumption
theorem AnQ:Qd (DD 307):=by unfold Qd;intros;refine lk (g:=307) rfl Tryz.func260 Afn ?_;apply Awn _ AiT YD Gi Af1 Ar6<;>assumption
theorem Ajc:KU (DD 281):=by unfold KU;intros;refine lk (g:=281) rfl Tryz.func217 Agt ?_;apply ApE _ MP Aoc AgH Aeo Acn AnQ Aa0<;>assumption
theorem AlX:Ot (DD 282):=by unfold Ot;intros;refine lk (g:=282) rfl Tryz.func218 Aiv ?_;apply AtF _ AiE Rx Gi<;>assumption
theorem AtL:AeR (DD 252):=by unfold AeR;intros;refine lk (g:=252) rfl Tryz.func174 ApH ?_;apply ACk _ Akr Ajc AlX<;>assumption
theorem Amc:N7 (DD 213):=by unfold N7;intros;refine lk (g:=213) rfl Tryz.func114 AhH ?_;apply Ats _ Tg Amn AtL<;>assumption
theorem Apg:RL (DD 142):=by unfold RL;intros;refine lk (g:=142) rfl Tryz.func46 AkL ?_;apply AwJ _ Gi AsC Amc<;>assumption
theorem AgP:I6 (DD 145):=by unfold I6;intros;refine lk (g:=145) rfl Tryz.func75 AdA ?_;apply An9 _ Gi<;>assumption
theorem Alb:Oq (DD 284):=by unfold Oq;intros;refine lk (g:=284) rfl Tryz.func269 Ah3 ?_;apply At0 _ Gi<;>assumption
theorem Ak9:Oy (DD 254):=by unfold Oy;intros;refine lk (g:=254) rfl Tryz.func220 AiF ?_;apply Auo _ AgP Gi Alb<;>assumption
theorem Auc:Ae2 (DD 214):=by unfold Ae2;intros;refine lk (g:=214) rfl Tryz.func181 Arv ?_;apply AB8 _ Ak9<;>assumption
theorem Ak6:Oo (DD 143):=by unfold Oo;intros;refine lk (g:=143) rfl Tryz.func126 AjT ?_;apply Atv _ Gi Auc Lf<;>assumption
theorem Ahz:XK (DD 155):=by unfold XK;intros;refine lk (g:=155) rfl Tryz.func182 AfP ?_;apply Ap7 _ Lf<;>assumption
theorem Afl:Fz (DD 144):=by unfold Fz;intros;refine lk (g:=144) rfl Tryz.func128 AcU ?_;apply Anq _ Ahz<;>assumption
theorem Alr:KV (DD 72):=by unfold KV;intros;refine lk (g:=72) rfl Tryz.func51 Agn ?_;apply Ap9 _ AnM Gi Apg Ak6 YH Afl<;>assumption
theorem Ao6:Ahp (DD 172):=by unfold Ahp;intros;refine lk (g:=172) rfl Tryz.func190 Afi ?_;apply Auk _<;>assumption
theorem AcJ:Hg (DD 102):=by unfold Hg;intros;refine lk (g:=102) rfl Tryz.func141 Yu ?_;apply Ahx _ Ao6<;>assumption
theorem Af5:Jq (DD 101):=by unfold Jq;intros;refine lk (g:=101) rfl Tryz.func140 YS ?_;apply Amh _<;>assumption
theorem WX:Ij (DD 103):=by unfold Ij;intros;refine lk (g:=103) rfl Tryz.func129 AbA ?_;apply AnY _<;>assumption
theorem Ant:Og (DD 38):=by unfold Og;intros;refine lk (g:=38) rfl Tryz.func58 AcP ?_;apply ApK _ AcJ Af5 WX<;>assumption
theorem FH:Uk (DD 114):=by unfold Uk;intros;refine lk (g:=114) rfl Tryz.func70 Aip ?_;apply Av3 _<;>assumption
theorem Vk:XH (DD 117):=by unfold XH;intros;refine lk (g:=117) rfl Tryz.func90 Ak1 ?_;apply AzT _ FH<;>assumption
theorem Gw:CB (DD 232):=by unfold CB;intros;refine lk (g:=232) rfl Tryz.func81 Aal ?_;apply AhG _ FH<;>assumption
theorem AaN:PZ (DD 266):=by unfold PZ;intros;refine lk (g:=266) rfl Tryz.func195 XZ ?_;apply Ald _ FH<;>assumption
theorem Agb:U2 DD (DD 404):=by unfold U2;intros;refine lk (g:=404) rfl Tryz.func224 NZ ?_;apply ArO _<;>assumption
theorem QY:J2 DD (DD 267):=by unfold J2;intros;refine lk (g:=267) rfl Tryz.func194 Ls ?_;apply AjC _ Agb<;>assumption
theorem JG:II (DD 233):=by unfold II;intros;refine lk (g:=233) rfl Tryz.func145 Abm ?_;apply Aox _ AaN QY<;>assumption
theorem AkX:Ab9 (DD 235):=by unfold Ab9;intros;refine lk (g:=235) rfl Tryz.func64 AjA ?_;apply Auq _ JG<;>assumption
theorem Tp:Ff (DD 279):=by unfold Ff;intros;refine lk (g:=279) rfl Tryz.func196 Aaz ?_;apply Alv _ FH<;>assumption
theorem TK:Ou (DD 270):=by unfold Ou;intros;refine lk (g:=270) rfl Tryz.func147 Aa8 ?_;apply Akz _ Tp QY<;>assumption
theorem Ae1:RZ (DD 183):=by unfold RZ;intros;refine lk (g:=183) rfl Tryz.func149 AnU ?_;apply AyX _ FH JG<;>assumption
theorem AbX:Qc (DD 271):=by unfold Qc;intros;refine lk (g:=271) rfl Tryz.func148 Yj ?_;apply AlC _ Ae1<;>assumption
theorem Zz:NS DD (DD 406):=by unfold NS;intros;refine lk (g:=406) rfl Tryz.func157 IE ?_;apply AjI _<;>assumption
theorem VO:Jw DD (DD 272):=by unfold Jw;intros;refine lk (g:=272) rfl Tryz.func86 Hu ?_;apply Aca _ Zz<;>assumption
theorem Tk:FV (DD 239):=by unfold FV;intros;refine lk (g:=239) rfl Tryz.func68 AbZ ?_;apply AlR _ Gw AkX TK AbX VO FH<;>assumption
theorem Al1:AaV (DD 350):=by unfold AaV;intros;refine lk (g:=350) rfl Tryz.func291 Abx ?_;apply Aqj _<;>assumption
theorem Jc:K8 DD (DD 298):=by unfold K8;intros;refine lk (g:=298) rfl Tryz.func235 Afw ?_;apply Asy _<;>assumption
theorem Ach:NR (DD 318):=by unfold NR;intros;refine lk (g:=318) rfl Tryz.func242 Af7 ?_;apply AtE _ Al1 Jc<;>assumption
theorem AmX:Amm (DD 354):=by unfold Amm;intros;refine lk (g:=354) rfl Tryz.func295 Auy ?_;apply AEq _ FH<;>assumption
theorem Zd:VG (DD 353):=by unfold VG;intros;refine lk (g:=353) rfl Tryz.func296 ArF ?_;apply AB2 _ AmX<;>assumption
theorem Ail:Yz (DD 322):=by unfold Yz;intros;refine lk (g:=322) rfl Tryz.func247 AlU ?_;apply AC4 _ Zd AmX<;>assumption
theorem Agl:Jo (DD 319):=by unfold Jo;intros;refine lk (g:=319) rfl Tryz.func243 Adv ?_;apply AoS _ Ail<;>assumption
theorem Aou:Ahi (DD 351):=by unfold Ahi;intros;refine lk (g:=351) rfl Tryz.func293 Aki ?_;apply Ay1 _<;>assumption
theorem Qw:J4 DD (DD 352):=by unfold J4;intros;refine lk (g:=352) rfl Tryz.func292 IC ?_;apply Ah0 _<;>assumption
theorem AeA:O8 (DD 321):=by unfold O8;intros;refine lk (g:=321) rfl Tryz.func245 Aod ?_;apply Azx _ Aou Qw<;>assumption
theorem Ka:FE (DD 320):=by unfold FE;intros;refine lk (g:=320) rfl Tryz.func244 Ajf ?_;apply Ath _ FH AeA JG<;>assumption
theorem Anv:AoE (DD 323):=Aqq (k:=246) rfl (fun b o c w=>Go.Eng.Ins.AGv b o c w) (fun b o c v w h=>Go.Eng.Ins.AGn b o c v w h) (fun b o c v w h=>Go.Eng.Ins.AGo b o c v w h)
theorem AnD:AoG (DD 324):=ApI (k:=248) rfl Go.Eng.Ins.AGs
theorem Afc:Jl (DD 290):=by unfold Jl;intros;refine lk (g:=290) rfl Tryz.func207 Aax ?_;apply AoW _ Ach Agl Ka AeA Ail Anv AnD<;>assumption
theorem Alf:Oi (DD 261):=by unfold Oi;intros;refine lk (g:=261) rfl Tryz.func160 AhF ?_;apply As8 _ Tk Afc<;>assumption
theorem GI:Eh (DD 292):=by unfold Eh;intros;refine lk (g:=292) rfl Tryz.func232 AjB ?_;apply At8 _ Gw Ka<;>assumption
theorem YE:J8 (DD 293):=by unfold J8;intros;refine lk (g:=293) rfl Tryz.func238 Ado ?_;apply Aqx _ Ach<;>assumption
theorem AvY:AD9 (DD 325):=ADc (k:=278) rfl (fun b off n c zs w h1 h2 h3 h4=>Tryz.slices_Max_int b off n c zs w h1 h2 h3 h4)
theorem ArQ:Anx (DD 389):=by unfold Anx;intros;refine lk (g:=389) rfl Tryz.func150 Rt ?_;apply ACQ _<;>assumption
theorem Jy:QA (DD 188):=by unfold QA;intros;refine lk (g:=188) rfl Tryz.func69 O9 ?_;apply As7 _ ArQ<;>assumption
theorem Aow:Ahb (DD 326):=by unfold Ahb;intros;refine lk (g:=326) rfl Tryz.func280 AhL ?_;apply Azf _ Jy FH<;>assumption
theorem VQ:JB DD (DD 327):=by unfold JB;intros;refine lk (g:=327) rfl Tryz.func279 Ht ?_;apply AcC _ Qw<;>assumption
theorem ApM:AoD (DD 295):=by unfold AoD;intros;refine lk (g:=295) rfl Tryz.func233 AoZ ?_;apply ACT _ AvY Aow VQ<;>assumption
theorem Ar3:AtN (DD 296):=Aw5 (k:=234) rfl (fun n c w=>Tryz.slices_Clone_int_nil n c w) (fun a c w=>Tryz.slices_Clone_int_zero a c w) (fun b off n c zs w h1 h2 h3=>Tryz.slices_Clone_int b off n c zs w h1 h2 h3)
theorem Ai5:Xr (DD 297):=by unfold Xr;intros;refine lk (g:=297) rfl Tryz.func236 Ac0 ?_;apply As1 _ Jy<;>assumption
theorem AkD:Oe (DD 294):=by unfold Oe;intros;refine lk (g:=294) rfl Tryz.func203 Ajq ?_;apply Aus _ Ae1 GI ApM Ar3 Ai5 Jc<;>assumption
theorem LA:Fv (DD 274):=by unfold Fv;intros;refine lk (g:=274) rfl Tryz.func208 AgK ?_;apply ArE _ GI YE AkD<;>assumption
theorem AcE:FK (DD 357):=by unfold FK;intros;refine lk (g:=357) rfl Tryz.func315 Rs ?_;apply AzW _<;>assumption
theorem Aj3:Tz (DD 371):=by unfold Tz;intros;refine lk (g:=371) rfl Tryz.func337 Af3 ?_;apply At5 _ AcE<;>assumption
theorem Afz:UZ DD (DD 372):=by unfold UZ;intros;refine lk (g:=372) rfl Tryz.func336 EU ?_;apply Aql _<;>assumption
theorem Ano:P6 (DD 358):=by unfold P6;intros;refine lk (g:=358) rfl Tryz.func316 Ad8 ?_;apply Aoe _ Aj3 Afz<;>assumption
theorem Ajt:KZ (DD 340):=by unfold KZ;intros;refine lk (g:=340) rfl Tryz.func281 YX ?_;apply Ajx _ AcE Ano<;>assumption
theorem RI:FN (DD 314):=by unfold FN;intros;refine lk (g:=314) rfl Tryz.func237 Y0 ?_;apply AjP _ LA Ajt<;>assumption
theorem Ud:FR (DD 273):=by unfold FR;intros;refine lk (g:=273) rfl Tryz.func209 Abd ?_;apply AkI _<;>assumption
theorem Y2:FQ (DD 240):=by unfold FQ;intros;refine lk (g:=240) rfl Tryz.func161 Yl ?_;apply Afh _ Gw Ud LA<;>assumption
theorem Um:VH (DD 189):=by unfold VH;intros;refine lk (g:=189) rfl Tryz.func61 AiA ?_;apply Aun _ Jy<;>assumption
theorem Ada:Gq (DD 360):=by unfold Gq;intros;refine lk (g:=360) rfl Tryz.func318 AaM ?_;apply Ama _ Gw Ud LA<;>assumption
theorem Akj:Ld (DD 341):=by unfold Ld;intros;refine lk (g:=341) rfl Tryz.func283 AgQ ?_;apply ArJ _ Ka Ada RI<;>assumption
theorem Aej:RQ (DD 359):=by unfold RQ;intros;refine lk (g:=359) rfl Tryz.func317 Aan ?_;apply AnB _ Jy<;>assumption
theorem Af0:IY (DD 342):=by unfold IY;intros;refine lk (g:=342) rfl Tryz.func282 AcG ?_;apply AoR _ GI Um Aej Jc<;>assumption
theorem Aic:K3 (DD 315):=by unfold K3;intros;refine lk (g:=315) rfl Tryz.func239 WZ ?_;apply ArX _ Y2 Um Akj Af0<;>assumption
theorem AjD:Lb (DD 287):=by unfold Lb;intros;refine lk (g:=287) rfl Tryz.func204 AgC ?_;apply Arh _ GI RI YE Aic<;>assumption
theorem Ajg:KW (DD 242):=by unfold KW;intros;refine lk (g:=242) rfl Tryz.func82 AgE ?_;apply ArV _ Jy<;>assumption
theorem AcK:Hf (DD 190):=by unfold Hf;intros;refine lk (g:=190) rfl Tryz.func20 Ab4 ?_;apply Al0 _ Ajg Gw<;>assumption
theorem Ako:XQ (DD 374):=by unfold XQ;intros;refine lk (g:=374) rfl Tryz.func339 Aek ?_;apply AtP _ Jy<;>assumption
theorem AkP:Mq (DD 361):=by unfold Mq;intros;refine lk (g:=361) rfl Tryz.func320 AhK ?_;apply As0 _ Ako Jc<;>assumption
theorem Afe:U3 (DD 373):=by unfold U3;intros;refine lk (g:=373) rfl Tryz.func338 WM ?_;apply Aj1 _ Tp<;>assumption
theorem Abe:Gy (DD 362):=by unfold Gy;intros;refine lk (g:=362) rfl Tryz.func319 Aaf ?_;apply Ajk _ Afe Jc<;>assumption
theorem An7:RP (DD 343):=by unfold RP;intros;refine lk (g:=343) rfl Tryz.func284 Yy ?_;apply AvI _ AcK GI AkP Abe<;>assumption
theorem WO:Ik (DD 369):=by unfold Ik;intros;refine lk (g:=369) rfl Tryz.func327 AfS ?_;apply Aqv _ FH Ka<;>assumption
theorem Qe:Kq (DD 317):=by unfold Kq;intros;refine lk (g:=317) rfl Tryz.func241 AkT ?_;apply AwW _<;>assumption
theorem Ag0:UD (DD 370):=by unfold UD;intros;refine lk (g:=370) rfl Tryz.func328 Adz ?_;apply AnK _ Qe TK<;>assumption
theorem AfM:Ji (DD 348):=by unfold Ji;intros;refine lk (g:=348) rfl Tryz.func289 AcX ?_;apply AnR _ GI WO Jy Qe Um Ag0<;>assumption
theorem TA:FX (DD 367):=by unfold FX;intros;refine lk (g:=367) rfl Tryz.func325 Ab5 ?_;apply AlA _ Ka<;>assumption
theorem AsU:AyJ (DD 419):=AvA (k:=341) rfl (fun w=>Go.Eng.Ins.AFY w) (fun n w h1 h2=>Go.Eng.Ins.AFI n w h1 h2)
theorem Abf:Ab8 (DD 368):=by unfold Ab8;intros;refine lk (g:=368) rfl Tryz.func326 Qf ?_;apply Azl _ AsU<;>assumption
theorem Aee:He (DD 345):=by unfold He;intros;refine lk (g:=345) rfl Tryz.func287 AbP ?_;apply Al6 _ GI TA Abf<;>assumption
theorem Abv:Gv (DD 346):=by unfold Gv;intros;refine lk (g:=346) rfl Tryz.func288 Y6 ?_;apply Ah7 _ WO TA<;>assumption
theorem Aj0:K9 (DD 236):=by unfold K9;intros;refine lk (g:=236) rfl Tryz.func65 Ack ?_;apply AqU _ FH<;>assumption
theorem AjG:XF (DD 375):=by unfold XF;intros;refine lk (g:=375) rfl Tryz.func340 VL ?_;apply Atl _ JG<;>assumption
theorem Yx:LY DD (DD 405):=by unfold LY;intros;refine lk (g:=405) rfl Tryz.func193 Li ?_;apply Afq _<;>assumption
theorem Us:IB DD (DD 269):=by unfold IB;intros;refine lk (g:=269) rfl Tryz.func143 JV ?_;apply ZM _ Yx<;>assumption
theorem YC:J5 (DD 364):=by unfold J5;intros;refine lk (g:=364) rfl Tryz.func322 X5 ?_;apply Auj _ AjG Us<;>assumption
theorem AgS:I5 (DD 365):=by unfold I5;intros;refine lk (g:=365) rfl Tryz.func324 VN ?_;apply Ao8 _ YC Zd<;>assumption
theorem ArM:Xp (DD 366):=by unfold Xp;intros;refine lk (g:=366) rfl Tryz.func323 AdR ?_;apply AzH _ Abf Zd<;>assumption
theorem Aby:Qd (DD 347):=by unfold Qd;intros;refine lk (g:=347) rfl Tryz.func286 Afv ?_;apply Axy _ Aj0 YC FH AgS ArM<;>assumption
theorem AgV:UH (DD 349):=by unfold UH;intros;refine lk (g:=349) rfl Tryz.func290 Adh ?_;apply AnV _ Aby<;>assumption
theorem ArD:Apd (DD 316):=by unfold Apd;intros;refine lk (g:=316) rfl Tryz.func240 AlM ?_;apply ACO _ An7 AfM Aee Abv Aby AgV Qe<;>assumption
theorem Akl:KU (DD 288):=by unfold KU;intros;refine lk (g:=288) rfl Tryz.func205 Agx ?_;apply ArH _ LA ArD<;>assumption
theorem Amk:Ot (DD 289):=by unfold Ot;intros;refine lk (g:=289) rfl Tryz.func206 AiJ ?_;apply AsH _ Um Qe FH<;>assumption
theorem At2:AeR (DD 262):=by unfold AeR;intros;refine lk (g:=262) rfl Tryz.func159 Aqe ?_;apply ACS _ AjD Akl Amk<;>assumption
theorem Ala:N7 (DD 227):=by unfold N7;intros;refine lk (g:=227) rfl Tryz.func91 AhQ ?_;apply As2 _ Tk Alf At2<;>assumption
theorem An3:RL (DD 173):=by unfold RL;intros;refine lk (g:=173) rfl Tryz.func32 AkS ?_;apply Awi _ Vk Ala<;>assumption
theorem Agp:I6 (DD 176):=by unfold I6;intros;refine lk (g:=176) rfl Tryz.func15 AcQ ?_;apply AoB _ FH<;>assumption
theorem AkM:Oq (DD 291):=by unfold Oq;intros;refine lk (g:=291) rfl Tryz.func80 AiV ?_;apply Atk _ FH<;>assumption
theorem Al8:Oy (DD 263):=by unfold Oy;intros;refine lk (g:=263) rfl Tryz.func17 AjZ ?_;apply As6 _ Agp FH AkM<;>assumption
theorem AtH:Ae2 (DD 228):=by unfold Ae2;intros;refine lk (g:=228) rfl Tryz.func59 Aq5 ?_;apply ACY _ Al8<;>assumption
theorem Alg:Oo (DD 174):=by unfold Oo;intros;refine lk (g:=174) rfl Tryz.func35 AjK ?_;apply Atu _ Vk AtH Jy<;>assumption
theorem Afa:Fz (DD 229):=by unfold Fz;intros;refine lk (g:=229) rfl Tryz.func94 AnL ?_;apply ABD _ Jy<;>assumption
theorem AgN:Fz (DD 175):=by unfold Fz;intros;refine lk (g:=175) rfl Tryz.func38 Ad4 ?_;apply Aoi _ Afa<;>assumption
theorem Ah8:KV (DD 106):=by unfold KV;intros;refine lk (g:=106) rfl Tryz.func52 Afy ?_;apply ArL _ Ant Vk An3 Alg WX AgN<;>assumption
theorem K7:P9 (DD 16):=by unfold P9;intros;refine lk (g:=16) rfl Tryz.func97 Amf ?_;apply Azh _<;>assumption
theorem Aqz:Anu (DD 206):=by unfold Anu;intros;refine lk (g:=206) rfl Tryz.func251 AoY ?_;apply ABR _ K7<;>assumption
theorem AoC:Ahd (DD 139):=by unfold Ahd;intros;refine lk (g:=139) rfl Tryz.func211 Alc ?_;apply AyB _ Aqz<;>assumption
theorem Ags:RN (DD 62):=by unfold RN;intros;refine lk (g:=62) rfl Tryz.func164 Abu ?_;apply AnG _ K7 AoC<;>assumption
theorem Ade:PY (DD 17):=by unfold PY;intros;refine lk (g:=17) rfl Tryz.func98 Z0 ?_;apply AlD _ Ags<;>assumption
theorem Ah2:U1 (DD 18):=by unfold U1;intros;refine lk (g:=18) rfl Tryz.func99 Ady ?_;apply AqW _ K7<;>assumption
theorem AoH:Aht (DD 140):=by unfold Aht;intros;refine lk (g:=140) rfl Tryz.func212 Ak7 ?_;apply Azw _ K7<;>assumption
theorem YI:TS (DD 63):=by unfold TS;intros;refine lk (g:=63) rfl Tryz.func165 AgO ?_;apply Aul _ AoH K7<;>assumption
theorem AjF:Vu (DD 19):=by unfold Vu;intros;refine lk (g:=19) rfl Tryz.func100 Ac3 ?_;apply Aqi _ YI<;>assumption
theorem AkA:XP (DD 64):=by unfold XP;intros;refine lk (g:=64) rfl Tryz.func166 AgW ?_;apply At6 _ YI<;>assumption
theorem AiH:Ux (DD 20):=by unfold Ux;intros;refine lk (g:=20) rfl Tryz.func101 AdP ?_;apply Aqy _ AkA<;>assumption
theorem ApF:AbJ (DD 7):=by unfold AbJ;intros;refine lk (g:=7) rfl Tryz.func41 AjJ ?_;apply AwQ _ K7 Ade Ah2 AjF AiH<;>assumption
theorem KT:Qa (DD 31):=by unfold Qa;intros;refine lk (g:=31) rfl Tryz.func104 AkU ?_;apply AAP _<;>assumption
theorem Aqs:AoM (DD 226):=by unfold AoM;intros;refine lk (g:=226) rfl Tryz.func252 Aol ?_;apply ABH _ KT<;>assumption
theorem Aoh:Ahn (DD 170):=by unfold Ahn;intros;refine lk (g:=170) rfl Tryz.func213 Al7 ?_;apply Az7 _ Aqs<;>assumption
theorem AgL:RJ (DD 98):=by unfold RJ;intros;refine lk (g:=98) rfl Tryz.func169 Acz ?_;apply An8 _ KT Aoh<;>assumption
theorem Adq:PL (DD 32):=by unfold PL;intros;refine lk (g:=32) rfl Tryz.func105 ZN ?_;apply AlF _ AgL<;>assumption
theorem Ake:Uy (DD 33):=by unfold Uy;intros;refine lk (g:=33) rfl Tryz.func106 Aea ?_;apply ArB _ KT<;>assumption
theorem AnS:Ahv (DD 171):=by unfold Ahv;intros;refine lk (g:=171) rfl Tryz.func214 Al3 ?_;apply AAv _ KT<;>assumption
theorem YK:TL (DD 99):=by unfold TL;intros;refine lk (g:=99) rfl Tryz.func170 Afk ?_;apply Atn _ AnS KT<;>assumption
theorem AjS:UY (DD 34):=by unfold UY;intros;refine lk (g:=34) rfl Tryz.func107 AdX ?_;apply Arj _ YK<;>assumption
theorem AiM:XL (DD 100):=by unfold XL;intros;refine lk (g:=100) rfl Tryz.func171 Af9 ?_;apply Aup _ YK<;>assumption
theorem AiK:UG (DD 35):=by unfold UG;intros;refine lk (g:=35) rfl Tryz.func108 Aed ?_;apply ApO _ AiM<;>assumption
theorem ApZ:Ace (DD 8):=by unfold Ace;intros;refine lk (g:=8) rfl Tryz.func43 Aiu ?_;apply AvE _ KT Adq Ake AjS AiK<;>assumption
theorem Le:FK (DD 47):=by unfold FK;intros;refine lk (g:=47) rfl Tryz.func109 Amg ?_;apply AAi _<;>assumption
theorem ApP:AnP (DD 249):=by unfold AnP;intros;refine lk (g:=249) rfl Tryz.func253 Aov ?_;apply ACs _ Le<;>assumption
theorem AoU:Ag6 (DD 204):=by unfold Ag6;intros;refine lk (g:=204) rfl Tryz.func215 AlK ?_;apply AyY _ ApP<;>assumption
theorem Ad5:Rv (DD 134):=by unfold Rv;intros;refine lk (g:=134) rfl Tryz.func172 Acr ?_;apply AnC _ Le AoU<;>assumption
theorem Adw:PX (DD 48):=by unfold PX;intros;refine lk (g:=48) rfl Tryz.func110 Aac ?_;apply Ak2 _ Ad5<;>assumption
theorem AjU:Vr (DD 49):=by unfold Vr;intros;refine lk (g:=49) rfl Tryz.func111 AcL ?_;apply Arp _ Le<;>assumption
theorem An1:Ahh (DD 205):=by unfold Ahh;intros;refine lk (g:=205) rfl Tryz.func116 Aml ?_;apply AyQ _ Le<;>assumption
theorem Wh:Tm (DD 135):=by unfold Tm;intros;refine lk (g:=135) rfl Tryz.func47 AfC ?_;apply AtV _ An1 Le<;>assumption
theorem Aje:UW (DD 50):=by unfold UW;intros;refine lk (g:=50) rfl Tryz.func112 Adf ?_;apply Arz _ Wh<;>assumption
theorem Ajp:XO (DD 136):=by unfold XO;intros;refine lk (g:=136) rfl Tryz.func173 Afj ?_;apply AsK _ Wh<;>assumption
theorem Ai6:Vn (DD 51):=by unfold Vn;intros;refine lk (g:=51) rfl Tryz.func113 AdS ?_;apply Aqf _ Ajp<;>assumption
theorem Apf:AaY (DD 11):=by unfold AaY;intros;refine lk (g:=11) rfl Tryz.func45 AhM ?_;apply Aw7 _ Le Adw AjU Aje Ai6<;>assumption
theorem Im:Js (DD 52):=by unfold Js;intros;refine lk (g:=52) rfl Tryz.func117 Ae8 ?_;apply AsI _<;>assumption
theorem Aik:Xu (DD 137):=by unfold Xu;intros;refine lk (g:=137) rfl Tryz.func178 Af6 ?_;apply Aty _ Im<;>assumption
theorem Y7:LQ (DD 53):=by unfold LQ;intros;refine lk (g:=53) rfl Tryz.func118 V8 ?_;apply Agy _ Im Aik<;>assumption
theorem Adb:PK (DD 54):=by unfold PK;intros;refine lk (g:=54) rfl Tryz.func119 Y1 ?_;apply Aln _ Im<;>assumption
theorem AdG:Qb (DD 55):=by unfold Qb;intros;refine lk (g:=55) rfl Tryz.func120 Zm ?_;apply Alm _ Im<;>assumption
theorem AdK:PI (DD 56):=by unfold PI;intros;refine lk (g:=56) rfl Tryz.func121 ZV ?_;apply Alq _ Im<;>assumption
theorem Aka:Vy (DD 12):=by unfold Vy;intros;refine lk (g:=12) rfl Tryz.func48 AcM ?_;apply Ari _ Im Y7 Adb AdG AdK<;>assumption
theorem Il:JA (DD 57):=by unfold JA;intros;refine lk (g:=57) rfl Tryz.func124 Af8 ?_;apply AtC _<;>assumption
theorem AjV:XC (DD 138):=by unfold XC;intros;refine lk (g:=138) rfl Tryz.func183 AfI ?_;apply Atm _ Il<;>assumption
theorem Ze:Mt (DD 58):=by unfold Mt;intros;refine lk (g:=58) rfl Tryz.func130 Wm ?_;apply AgG _ Il AjV<;>assumption
theorem Adc:PO (DD 59):=by unfold PO;intros;refine lk (g:=59) rfl Tryz.func131 Z5 ?_;apply AlQ _ Il<;>assumption
theorem AdF:PS (DD 60):=by unfold PS;intros;refine lk (g:=60) rfl Tryz.func132 Aah ?_;apply Alz _ Il<;>assumption
theorem AcO:PW (DD 61):=by unfold PW;intros;refine lk (g:=61) rfl Tryz.func133 Aaj ?_;apply AkE _ Il<;>assumption
theorem AjE:Vi (DD 13):=by unfold Vi;intros;refine lk (g:=13) rfl Tryz.func53 Aeh ?_;apply Ark _ Il Ze Adc AdF AcO<;>assumption
theorem VP:M4 (DD 515):=by unfold M4;intros;refine lk (g:=515) rfl Tryz.func8 UC ?_;apply Abn _ Alr Ah8 ApF ApZ Apf Aka AjE<;>assumption
theorem den (av:List V) (h:AuJ [Ag9,.int .i64] av):DD 515 av [] (B true) []:=by
 obtain⟨v0,r0,h0,hr0,rfl⟩:=h
 obtain⟨x0,rfl,l0,w0⟩:=Ayy h0
 obtain⟨v1,r1,h1,hr1,rfl⟩:=hr0
 obtain⟨x1,rfl,w1⟩:=AGq h1
 have z:r1=[]:=hr1
 subst z
 apply VP<;>assumption
end Go.Eng.T
