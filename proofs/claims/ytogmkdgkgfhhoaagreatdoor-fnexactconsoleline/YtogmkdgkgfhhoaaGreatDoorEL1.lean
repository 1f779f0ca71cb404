/- Own work: part 25 of the proof of FnExactConsoleLine. -/
import Derived.Test.YtogmkdgkgfhhoaaGreatDoorEP12
import Derived.Test.YtogmkdgkgfhhoaaGreatDoorEP13
import Derived.Test.YtogmkdgkgfhhoaaGreatDoorEP14
import Derived.Test.YtogmkdgkgfhhoaaGreatDoorEP15
import Derived.Test.YtogmkdgkgfhhoaaGreatDoorEP16
import Derived.Test.YtogmkdgkgfhhoaaGreatDoorEP17
import Derived.Test.YtogmkdgkgfhhoaaGreatDoorEP18
import Derived.Test.YtogmkdgkgfhhoaaGreatDoorEP20
import Derived.Test.YtogmkdgkgfhhoaaGreatDoorEP21
import Derived.Test.YtogmkdgkgfhhoaaGreatDoorEP22
import Derived.Test.YtogmkdgkgfhhoaaGreatDoorEP23
import Derived.Test.YtogmkdgkgfhhoaaGreatDoorEEngAU
import Derived.Test.YtogmkdgkgfhhoaaGreatDoorProg
import Derived.KernelRfl
set_option linter.unusedSimpArgs false
set_option linter.unusedVariables false
namespace Go.Eng.T
open Go.Proofs Go.Lib
set_option maxRecDepth 100000
def Ap3:List (Option Nat):=[none,none,none,none,none,none,some 6,some 30,some 32,some 31,some 19,some 33,some 34,some 35,some 46,none,some 74,some 75,some 76,some 77,some 78,some 79,some 80,some 81,some 82,some 83,some 84,some 85,some 86,some 87,some 88,some 89,some 90,some 91,some 92,some 93,some 47,some 45,some 48,some 49,some 50,some 51,some 52,some 53,some 54,some 55,some 56,some 94,some 95,some 96,some 97,some 98,some 99,some 100,some 101,some 102,some 103,some 104,some 105,some 106,some 107,some 108,some 155,some 156,some 157,some 158,some 159,some 160,some 161,some 163,some 162,some 164,some 165,some 166,some 167,some 168,some 169,some 170,some 171,some 172,some 173,some 174,some 176,some 175,some 178,some 177,some 179,some 180,some 181,some 183,some 182,some 184,some 186,some 185,some 187,some 189,some 188,some 190,some 191,some 192,some 193,some 121,some 122,some 123,some 124,some 125,some 126,some 127,some 128,some 129,some 130,some 131,some 132,some 133,some 66,some 22,some 134,some 135,some 13,some 136,some 37,some 137,some 15,some 139,some 138,some 140,some 9,some 142,some 141,some 143,some 144,some 145,some 16,some 146,some 194,some 195,some 196,some 197,some 198,some 251,some 252,some 253,some 254,some 255,some 256,some 257,some 258,some 259,some 260,some 261,some 262,some 263,some 264,some 265,some 266,some 267,some 268,some 269,some 270,some 216,some 271,some 272,some 273,some 274,some 275,some 276,some 277,some 278,some 279,some 280,some 281,some 282,some 221,some 223,some 224,some 225,some 226,some 227,some 228,some 229,some 230,some 231,some 232,some 72,some 233,some 111,some 234,some 38,some 235,some 236,some 237,some 238,some 10,some 239,some 240,some 241,some 242,some 243,some 244,some 12,some 245,some 246,some 247,some 248,some 283,some 284,some 330,some 331,some 332,some 333,some 334,some 335,some 337,some 336,some 338,some 339,some 340,some 341,some 342,some 343,some 344,some 345,some 346,some 299,some 347,some 348,some 349,some 310,some 311,some 312,some 313,some 314,some 67,some 151,some 315,some 68,some 316,some 318,some 317,some 23,some 319,some 112,some 321,some 322,some 323,some 326,some 327,some 329,some 328,some 350,some 359,some 409,some 110,some 410,some 411,some 412,some 413,some 414,some 356,some 415,some 416,some 382,some 381,some 383,some 384,some 385,some 249,some 152,some 387,some 386,some 69,some 71,some 70,some 390,some 389,some 391,some 392,some 393,some 406,some 153,some 205,some 206,some 207,some 449,some 450,some 288,some 292,some 429,some 430,some 431,some 432,some 433,some 437,some 438,some 394,some 439,some 440,some 442,some 441,some 407,some 289,some 290,some 291,some 293,some 294,some 296,some 297,some 295,some 298,some 300,some 472,some 353,some 351,some 473,some 456,some 457,some 458,some 459,some 460,some 461,some 462,some 463,some 465,some 464,some 466,some 468,some 470,some 469,some 352,some 355,some 354,some 358,some 357,some 360,some 361,some 363,some 362,some 364,some 419,some 451,some 474,some 476,some 475,some 477,none,some 480,some 481,some 479,some 482,some 483,some 484,some 486,some 485,some 489,some 488,some 417,some 418,some 57,some 493,some 494,some 495,some 497,some 496,none,some 499,some 501,some 500,some 502,some 503,some 504,some 505,some 510,some 509,some 511,some 512,some 513,none,none,none,none,none,none,none,none,none,none,none,none,none,some 320,none,none,none,some 388,none,none,none,none,none,none,none,none,none,some 408,some 250,some 436,some 154,none,none,none,none,none,none,none,none,none,none,none,none,some 514,none,none,none,none,none,none,none,none,none,none,none,none,none,none,none,none,none,none,none,none,none,none,none,none,none,none,none,none,none,none,none,none,none,none,none,none,none,none,none,none,none,none,none,none,none,none,none,none,none,none,none,none,none,none,none,none,none,none,none,none,none,none,none,none,none,none,none,none,none,none,none,none,none,none,none,none,none,none,none,none,none,none,none,none,none,none,none,none,none,none,none,none,none,none,none,none,none,none,none,none,none,none,none,none,none,none,none,none,none,none,none,none,none,none,none,none,none,none,none,none,none,none,none,none,none,none,none,none,none,none,none,none,none,none,none,none,none,none,none,none,none,none,none,none,none]
def Ae:Nat->Option FuncId:=fun g=>Ap3.getD g none
theorem AhQ:Tryz.prog.follows .mixedOrders=true:=by kernel_rfl
theorem hFl:Ap3.all (fun o=>match o with | some f=>okF Tryz.prog f | none=>true)=true:=by kernel_rfl
theorem hF:∀g f,Ae g=some f->okF Tryz.prog f=true:=by
 intro g f h
 have:=List.all_eq_true.1 hFl (some f) (by
  unfold Ae at h
  rw[List.getD_eq_getElem?_getD]at h
  cases hg:Ap3[g]? with
  | none=>simp[hg]at h
  | some o=>simp[hg]at h;subst h;exact List.mem_of_getElem? hg)
 exact this
theorem ApV:Tryz.prog.globalNamed "internal/strconv.uint64pow10"=some 1:=by kernel_rfl
theorem Al7:(Tryz.prog.globals[1]?).map (·.type)=some 338:=by kernel_rfl
theorem Aqe:Tryz.prog.cellsOf 338=20:=by kernel_rfl
theorem cellsE:Tryz.prog.cellsOf 302=1:=by kernel_rfl
abbrev AKr (W:Go.World) (b:Nat):Prop:=∃e,W.cell? ⟨b,0,none⟩=some e/\(e= .nilIface∨∃te pe,e= .iface te pe)
structure Tb (W:Go.World):Prop where
 tab:TabIs Tryz.prog W "internal/strconv.uint64pow10" .u64 pow10Tab
 es:AKr W 4
 er:AKr W 5
 ml:∃m,W.cell? ⟨0,0,none⟩=some (.int .i64 m)
theorem Akg {W w:Go.World} (hw:∀b,(AeK W) b->b<w.heap.size/\w.heap[b]? =(AeK W).is b) {b:Nat} {e:Value} (h:W.cell? ⟨b,0,none⟩=some e):w.cell? ⟨b,0,none⟩=some e:=by
 have hb:w.heap[b]? =W.heap[b]? :=(hw b (lt_of_cell h)).2
 rw[<-h]
 simp only[World.cell?,hb]
abbrev DE (W:Go.World):Dn:=Den Tryz.prog Ae (AeK W)
theorem lk {W:Go.World} {g:Nat} {f:FuncId} {fn:Func} (st:List Tmp) (sf:Cm) (hfn:Tryz.prog.funcs[f]? =some fn) {a:List V} {gi:List O} {r:V} {o:List O}
 (h:Body (DE W) sf a gi r o) (hg:Ae g=some f:=by rfl) (hm:CQ Tryz.prog Ae st sf fn=true:=by kernel_rfl):DE W g a gi r o:=
 Ame AhQ (fun _ _ _ _ _ h=>h) hF (fun id hid=>by rw[hg]at hid;cases hid;exact hfn) hm h
variable {W:Go.World}
theorem AOU (ht:Tb W):AOq (DE W 21):=by unfold AOq;intros;refine lk AM6 AL3 Tryz.func79 ?_;apply AO2 _<;>assumption
theorem Yq (ht:Tb W):MF (DE W 65):=by unfold MF;intros;refine lk AbO OM Tryz.func158 ?_;apply Anh _<;>assumption
theorem Mh (ht:Tb W):Je (DE W 66):=by unfold Je;intros;refine lk Zo NA Tryz.func159 ?_;apply Alw _<;>assumption
theorem SK (ht:Tb W):NY (DE W 67):=by unfold NY;intros;refine lk Uo KY Tryz.func160 ?_;apply Af8 _<;>assumption
theorem CP (ht:Tb W):EF (DE W 22):=by unfold EF;intros;refine lk Y6 Na Tryz.func80 ?_;apply Aka _ (Yq ht) (Mh ht) (SK ht)<;>assumption
theorem CU (ht:Tb W):Vf (DE W 71):=by unfold Vf;intros;refine lk Aen TW Tryz.func164 ?_;apply Aqt _<;>assumption
theorem AxQ (ht:Tb W):EB (DE W 93):=by unfold EB;intros;refine lk AMR ALC Tryz.func185 ?_;apply AOy _<;>assumption
theorem AN3 (ht:Tb W):ABY (DE W 68):=by unfold ABY;intros;refine lk ANd ALY Tryz.func161 ?_;apply AOK _ (CU ht) (AxQ ht)<;>assumption
theorem ANq (ht:Tb W):AIO ANU (DE W 23):=by unfold AIO;intros;refine lk ANn AMe Tryz.func81 ?_;apply APe _ (AN3 ht)<;>assumption
theorem ANb (ht:Tb W):Aud (DE W 69):=by unfold Aud;intros;refine lk AMC AIJ Tryz.func163 ?_;apply ANN _<;>assumption
theorem Jg (ht:Tb W):Ib (DE W 250):=by unfold Ib;intros;refine lk TJ Jh Tryz.func359 ?_;apply Ach _ (CU ht)<;>assumption
theorem PO (ht:Tb W):RN (DE W 217):=by unfold RN;intros;refine lk Aaj OW Tryz.func341 ?_;apply Am2 _ (CU ht)<;>assumption
theorem Q0 (ht:Tb W):XD (DE W 152):=by unfold XD;intros;refine lk AcF QE Tryz.func264 ?_;apply AnQ _ (CU ht) (PO ht)<;>assumption
theorem Cn (ht:Tb W):Dr (DE W 208):=by unfold Dr;intros;refine lk Sv I6 Tryz.func332 ?_;apply AaQ _ (CU ht)<;>assumption
theorem Jl (ht:Tb W):Ij (DE W 207):=by unfold Ij;intros;refine lk Ti JC Tryz.func331 ?_;apply Ac1 _ (CU ht) (Jg ht) (Q0 ht) (Cn ht)<;>assumption
theorem AcO (ht:Tb W):VF (DE W 209):=by unfold VF;intros;refine lk Y7 Nz Tryz.func333 ?_;apply Aiw _ (CU ht)<;>assumption
theorem Q6 (ht:Tb W):Oe (DE W 210):=by unfold Oe;intros;refine lk Uc Jd Tryz.func334 ?_;apply Aht _ (CU ht)<;>assumption
theorem Fs (ht:Tb W):FX (DE W 145):=by unfold FX;intros;refine lk Ve Kv Tryz.func257 ?_;apply AeT _ (CU ht)<;>assumption
theorem FN (ht:Tb W):UQ (DE W 166):=by unfold UQ;intros;refine lk AcK QH Tryz.func277 ?_;apply AoO _<;>assumption
theorem V5 (ht:Tb W):Q8 (DE W 95):=by unfold Q8;intros;refine lk Yt NK Tryz.func189 ?_;apply AhN _<;>assumption
theorem Abg (ht:Tb W):Rz (DE W 224):=by unfold Rz;intros;refine lk W9 Mc Tryz.func347 ?_;apply AgF _ (FN ht)<;>assumption
theorem FO (ht:Tb W):FQ (DE W 168):=by unfold FQ;intros;refine lk TU Jf Tryz.func279 ?_;apply Acp _ (Abg ht) (Cn ht)<;>assumption
theorem Aa2 (ht:Tb W):RP (DE W 211):=by unfold RP;intros;refine lk Wx LQ Tryz.func335 ?_;apply AhG _ (FO ht) (Cn ht)<;>assumption
theorem AcU (ht:Tb W):U3 (DE W 141):=by unfold U3;intros;refine lk Zg M8 Tryz.func253 ?_;apply Aij _ (Jl ht) (Cn ht) (AcO ht) (Q6 ht) (Fs ht) (FN ht) (V5 ht) (Aa2 ht) (CU ht)<;>assumption
theorem AcH (ht:Tb W):RJ (DE W 70):=by unfold RJ;intros;refine lk Xd LP Tryz.func162 ?_;apply Afw _ (CP ht) (AcU ht)<;>assumption
theorem AOl (ht:Tb W):AO9 (DE W 28):=fun w x h=>⟨lk AMh AJF Tryz.func86 (AOk _ (CP ht) w x h).1,lk AMh AJF Tryz.func86 (AOk _ (CP ht) w x h).2⟩
theorem ANO (ht:Tb W):AMl (DE W 24):=by unfold AMl;intros;refine lk AM4 ALu Tryz.func82 ?_;apply AOT _ (ANb ht) (AcH ht) (CU ht) (AOl ht)<;>assumption
theorem ZN (ht:Tb W):Afz (DE W 215):=by unfold Afz;intros;refine lk Ahn WM Tryz.func339 ?_;apply ApW _<;>assumption
theorem AhX (ht:Tb W):Ajq (DE W 253):=by unfold Ajq;intros;refine lk Agv Xi Tryz.func410 ?_;apply AqQ _<;>assumption
theorem Aiu (ht:Tb W):AjP (DE W 212):=by unfold AjP;intros;refine lk Zf Ny Tryz.func337 ?_;apply Akx _ (ZN ht) (AhX ht)<;>assumption
theorem Ady (ht:Tb W):AnK (DE W 339):=by unfold AnK;intros;refine lk AfQ Xp Tryz.func451 ?_;apply Aqz _ (CU ht)<;>assumption
theorem TN (ht:Tb W):AdJ (DE W 338):=by unfold AdJ;intros;refine lk AeG TL Tryz.func419 ?_;apply AoU _ (Ady ht)<;>assumption
theorem AaB (ht:Tb W):Ahf (DE W 313):=by unfold Ahf;intros;refine lk AaY O0 Tryz.func473 ?_;apply AoV _ (TN ht) (Ady ht)<;>assumption
theorem Yo (ht:Tb W):O4 (DE W 310):=by unfold O4;intros;refine lk Vz KA Tryz.func472 ?_;apply Aev _ (AaB ht)<;>assumption
theorem UL (ht:Tb W):UX (DE W 308):=by unfold UX;intros;refine lk Aap PD Tryz.func298 ?_;apply AkD _<;>assumption
theorem Td (ht:Tb W):QD (DE W 331):=by unfold QD;intros;refine lk Zt NE Tryz.func358 ?_;apply AiG _ (FN ht)<;>assumption
theorem U6 (ht:Tb W):U5 (DE W 311):=by unfold U5;intros;refine lk Zj Nc Tryz.func353 ?_;apply Ak8 _ (UL ht) (Td ht)<;>assumption
theorem JW (ht:Tb W):Rj (DE W 309):=by unfold Rj;intros;refine lk AcD Qt Tryz.func300 ?_;apply Amt _<;>assumption
theorem G9 (ht:Tb W):JX (DE W 312):=by unfold JX;intros;refine lk YM Nu Tryz.func351 ?_;apply Ai0 _ (CU ht) (PO ht) (JW ht)<;>assumption
theorem YT (ht:Tb W):O8 (DE W 283):=by unfold O8;intros;refine lk UO KR Tryz.func449 ?_;apply Ad4 _ (Yo ht) (U6 ht) (G9 ht) (JW ht) (AaB ht)<;>assumption
theorem AcJ (ht:Tb W):U7 (DE W 251):=by unfold U7;intros;refine lk YI NF Tryz.func409 ?_;apply AhY _ (Jl ht) (YT ht)<;>assumption
theorem EQ (ht:Tb W):Gr (DE W 285):=by unfold Gr;intros;refine lk YD Nq Tryz.func288 ?_;apply Aip _ (Cn ht) (G9 ht)<;>assumption
theorem SQ (ht:Tb W):Q9 (DE W 301):=by unfold Q9;intros;refine lk Xb MB Tryz.func290 ?_;apply Ah2 _ (U6 ht)<;>assumption
theorem Acw (ht:Tb W):Vm (DE W 258):=by unfold Vm;intros;refine lk Zr Nv Tryz.func356 ?_;apply Ai4 _ (Q0 ht) (EQ ht) (FN ht) (CU ht)<;>assumption
theorem IB (ht:Tb W):Jj (DE W 286):=by unfold Jj;intros;refine lk Wq Mk Tryz.func292 ?_;apply Ahg _ (EQ ht) (SQ ht) (Acw ht)<;>assumption
theorem Ul (ht:Tb W):Uu (DE W 355):=by unfold Uu;intros;refine lk Vu KL Tryz.func417 ?_;apply Aer _<;>assumption
theorem Vi (ht:Tb W):VY (DE W 356):=by unfold VY;intros;refine lk VZ KM Tryz.func418 ?_;apply Ad1 _ (Ul ht)<;>assumption
theorem Aal (ht:Tb W):R7 (DE W 328):=by unfold R7;intros;refine lk SG IW Tryz.func352 ?_;apply Aby _ (Ul ht) (Vi ht)<;>assumption
theorem UR (ht:Tb W):Ld (DE W 300):=by unfold Ld;intros;refine lk Sr IU Tryz.func289 ?_;apply ZX _ (IB ht) (Aal ht)<;>assumption
theorem Oi (ht:Tb W):JZ (DE W 256):=by unfold JZ;intros;refine lk TH Jo Tryz.func413 ?_;apply Ac8 _<;>assumption
theorem Ol (ht:Tb W):J4 (DE W 260):=by unfold J4;intros;refine lk TB JD Tryz.func416 ?_;apply AcL _ (Cn ht) (Oi ht) (IB ht)<;>assumption
theorem T9 (ht:Tb W):JH (DE W 222):=by unfold JH;intros;refine lk QT H9 Tryz.func346 ?_;apply Zm _ (Cn ht) (Ol ht)<;>assumption
theorem AaM (ht:Tb W):AfF (DE W 223):=by unfold AfF;intros;refine lk Ze NC Tryz.func299 ?_;apply AlH _ (FN ht)<;>assumption
theorem AbX (ht:Tb W):R6 (DE W 329):=by unfold R6;intros;refine lk Wo Mv Tryz.func355 ?_;apply Ago _ (G9 ht) (Ol ht) (Oi ht) (IB ht) (Vi ht)<;>assumption
theorem YQ (ht:Tb W):Po (DE W 330):=by unfold Po;intros;refine lk UF Ku Tryz.func354 ?_;apply Aeu _ (EQ ht) (FN ht)<;>assumption
theorem ZV (ht:Tb W):RQ (DE W 302):=by unfold RQ;intros;refine lk Qc GU Tryz.func291 ?_;apply Agl _ (EQ ht) (T9 ht) (AaM ht) (AbX ht) (YQ ht)<;>assumption
theorem Aa4 (ht:Tb W):Rs (DE W 280):=by unfold Rs;intros;refine lk WG L9 Tryz.func205 ?_;apply Agh _ (EQ ht) (UR ht) (SQ ht) (ZV ht)<;>assumption
theorem UG (ht:Tb W):Lv (DE W 332):=by unfold Lv;intros;refine lk SF IX Tryz.func357 ?_;apply Aak _ (Jg ht)<;>assumption
theorem Ad2 (ht:Tb W):Zx (DE W 303):=by unfold Zx;intros;refine lk QX H6 Tryz.func293 ?_;apply AkQ _ (FO ht) (EQ ht) (Td ht) (UG ht)<;>assumption
theorem Rn (ht:Tb W):NR (DE W 333):=by unfold NR;intros;refine lk XF LK Tryz.func360 ?_;apply AfA _ (CU ht) (G9 ht)<;>assumption
theorem Zn (ht:Tb W):PY (DE W 304):=by unfold PY;intros;refine lk Vg KU Tryz.func294 ?_;apply Ae5 _ (JW ht) (Jg ht) (EQ ht) (Rn ht) (FN ht)<;>assumption
theorem NN (ht:Tb W):Kg (DE W 337):=by unfold Kg;intros;refine lk Tp Jr Tryz.func364 ?_;apply AcG _ (G9 ht)<;>assumption
theorem WC (ht:Tb W):MV (DE W 305):=by unfold MV;intros;refine lk Tt Jk Tryz.func296 ?_;apply Acl _ (EQ ht) (NN ht)<;>assumption
theorem Vs (ht:Tb W):Lb (DE W 306):=by unfold Lb;intros;refine lk SB IY Tryz.func297 ?_;apply Ab1 _ (Rn ht) (NN ht)<;>assumption
theorem S9 (ht:Tb W):Qq (DE W 334):=by unfold Qq;intros;refine lk Q7 H7 Tryz.func361 ?_;apply Aiq _ (PO ht)<;>assumption
theorem Yr (ht:Tb W):OV (DE W 335):=by unfold OV;intros;refine lk Pe Gt Tryz.func363 ?_;apply Ae2 _ (S9 ht) (TN ht)<;>assumption
theorem Af5 (ht:Tb W):AeA (DE W 336):=by unfold AeA;intros;refine lk Ux KO Tryz.func362 ?_;apply AnE _ (TN ht)<;>assumption
theorem Ae9 (ht:Tb W):ZE (DE W 307):=by unfold ZE;intros;refine lk WO Mt Tryz.func295 ?_;apply Ak1 _ (Q6 ht) (S9 ht) (CU ht) (Yr ht) (Af5 ht)<;>assumption
theorem AbT (ht:Tb W):RY (DE W 281):=by unfold RY;intros;refine lk Xm LM Tryz.func206 ?_;apply AgV _ (IB ht) (Ad2 ht) (Zn ht) (WC ht) (Vs ht) (Ae9 ht) (UL ht)<;>assumption
theorem Ab8 (ht:Tb W):UC (DE W 282):=by unfold UC;intros;refine lk YJ Nb Tryz.func207 ?_;apply AiW _ (AaM ht) (JW ht) (CU ht)<;>assumption
theorem AbW (ht:Tb W):AfC (DE W 252):=by unfold AfC;intros;refine lk Aec TQ Tryz.func110 ?_;apply AoD _ (Aa4 ht) (AbT ht) (Ab8 ht)<;>assumption
theorem AcZ (ht:Tb W):Uj (DE W 213):=by unfold Uj;intros;refine lk Yy NH Tryz.func336 ?_;apply AiM _ (Jl ht) (AcJ ht) (AbW ht)<;>assumption
theorem AeZ (ht:Tb W):ZL (DE W 142):=by unfold ZL;intros;refine lk Aag OE Tryz.func254 ?_;apply Akz _ (CU ht) (Aiu ht) (AcZ ht)<;>assumption
theorem Ac3 (ht:Tb W):Ui (DE W 284):=by unfold Ui;intros;refine lk Zl M9 Tryz.func450 ?_;apply Ajf _ (CU ht)<;>assumption
theorem Acz (ht:Tb W):V3 (DE W 254):=by unfold V3;intros;refine lk Y9 NG Tryz.func411 ?_;apply AhR _ (Fs ht) (CU ht) (Ac3 ht)<;>assumption
theorem Aay (ht:Tb W):Af6 (DE W 214):=by unfold Af6;intros;refine lk Afq Uf Tryz.func338 ?_;apply AoJ _ (Acz ht)<;>assumption
theorem Acm (ht:Tb W):Vw (DE W 143):=by unfold Vw;intros;refine lk Y2 Nk Tryz.func255 ?_;apply AhV _ (CU ht) (Aay ht) (FN ht)<;>assumption
theorem Rk (ht:Tb W):NV (DE W 155):=by unfold NV;intros;refine lk WQ Mg Tryz.func267 ?_;apply Af7 _ (FN ht)<;>assumption
theorem Zd (ht:Tb W):PN (DE W 144):=by unfold PN;intros;refine lk U8 Kw Tryz.func256 ?_;apply Aep _ (Rk ht)<;>assumption
theorem Adb (ht:Tb W):RZ (DE W 72):=by unfold RZ;intros;refine lk Wz Mx Tryz.func165 ?_;apply Ahi _ (CP ht) (CU ht) (AeZ ht) (Acm ht) (SK ht) (Zd ht)<;>assumption
theorem AOM (ht:Tb W):AC8 (DE W 25):=by unfold AC8;intros;refine lk ANE AMi Tryz.func83 ?_;apply APd _ (CP ht) (Adb ht)<;>assumption
theorem ANL (ht:Tb W):AMm (DE W 73):=by unfold AMm;intros;refine lk AM2 ALj Tryz.func166 ?_;apply AOu _ (CU ht)<;>assumption
theorem AOs (ht:Tb W):AMS (DE W 26):=by unfold AMS;intros;refine lk AM9 AL4 Tryz.func84 ?_;apply AOY _ (ANL ht)<;>assumption
theorem FR (ht:Tb W):Mf (DE W 159):=by unfold Mf;intros;refine lk Acu QC Tryz.func216 ?_;apply Ao5 _<;>assumption
theorem Oy (ht:Tb W):J3 (DE W 146):=by unfold J3;intros;refine lk Tv Jp Tryz.func258 ?_;apply Acf _ (CP ht) (Fs ht) (Aay ht) (FR ht) (ZN ht)<;>assumption
theorem Aav (ht:Tb W):OT (DE W 74):=by unfold OT;intros;refine lk VJ KJ Tryz.func167 ?_;apply AeP _ (CP ht) (Fs ht) (Oy ht)<;>assumption
theorem Abj (ht:Tb W):RH (DE W 156):=by unfold RH;intros;refine lk WU Ma Tryz.func268 ?_;apply Agg _ (CU ht)<;>assumption
theorem AaD (ht:Tb W):Pq (DE W 82):=by unfold Pq;intros;refine lk U4 KW Tryz.func176 ?_;apply Aem _ (Rk ht) (Abj ht)<;>assumption
theorem YN (ht:Tb W):PX (DE W 147):=by unfold PX;intros;refine lk UM Ky Tryz.func259 ?_;apply Afn _ (Mh ht) (Fs ht)<;>assumption
theorem YO (ht:Tb W):Pj (DE W 148):=by unfold Pj;intros;refine lk Va KV Tryz.func260 ?_;apply AeV _ (Mh ht) (Fs ht)<;>assumption
theorem Jt (ht:Tb W):Ic (DE W 167):=by unfold Ic;intros;refine lk Tk Jy Tryz.func278 ?_;apply Ad0 _<;>assumption
theorem TS (ht:Tb W):JG (DE W 149):=by unfold JG;intros;refine lk QB Ia Tryz.func261 ?_;apply YG _ (CP ht) (Jt ht) (FO ht)<;>assumption
theorem AaU (ht:Tb W):Pk (DE W 75):=by unfold Pk;intros;refine lk Vk Kz Tryz.func168 ?_;apply AeE _ (CP ht) (AaD ht) (YN ht) (Oy ht) (YO ht) (TS ht)<;>assumption
theorem AcY (ht:Tb W):Ry (DE W 96):=by unfold Ry;intros;refine lk WX L8 Tryz.func188 ?_;apply Ahm _ (FO ht) (Jt ht)<;>assumption
theorem AgS (ht:Tb W):Ae1 (DE W 255):=by unfold Ae1;intros;refine lk Acg Ra Tryz.func412 ?_;apply Anj _ (FO ht)<;>assumption
theorem YX (ht:Tb W):PG (DE W 216):=by unfold PG;intros;refine lk U0 KF Tryz.func340 ?_;apply Ae7 _ (Cn ht) (FN ht) (CU ht) (AcY ht) (AgS ht)<;>assumption
end Go.Eng.T
