/- Own work: part 51 of the proof of FnTop. -/
import Derived.Test.YtdoefikagfghnabGreatP50
import Derived.Test.YtdoefikagfghnabGreatProg
import Derived.KernelRfl
set_option linter.unusedSimpArgs false
set_option linter.unusedVariables false
namespace Go.Eng.T
open Go.Proofs
set_option maxRecDepth 100000
def ACW:List (Option Nat):=[none,none,none,none,none,none,none,none,none,none,none,none,none,none,none,none,none,none,none,none,none,none,some 124,none,none,none,none,none,none,none,none,none,none,none,none,none,none,none,some 45,none,none,some 17,none,none,none,none,none,none,none,none,none,none,none,none,none,none,none,none,none,none,none,none,none,none,none,some 159,some 160,some 161,none,none,some 76,some 27,none,none,none,none,none,none,none,none,none,none,none,none,none,none,none,none,none,none,none,none,none,none,none,some 166,none,none,none,none,none,some 88,some 89,some 79,none,none,some 37,some 38,some 39,some 40,some 41,some 42,some 43,some 44,some 58,none,none,some 24,none,some 8,none,none,none,some 51,some 168,none,none,some 14,none,none,none,some 90,none,some 18,none,none,none,none,none,none,none,some 125,none,none,none,some 164,none,none,none,none,none,none,some 113,none,none,none,none,none,none,some 59,none,none,none,none,none,none,some 116,none,some 68,none,none,none,some 87,some 7,some 10,some 13,some 57,some 80,some 81,some 82,some 83,some 84,some 85,some 86,some 20,none,some 26,none,some 30,some 65,some 64,none,none,some 32,some 33,none,some 93,some 129,some 130,none,some 46,some 47,some 48,some 49,none,none,none,some 67,some 114,some 162,some 163,some 165,none,none,none,none,none,some 155,none,none,none,none,none,none,some 115,none,none,some 25,some 29,some 31,some 127,some 128,some 97,some 73,some 50,some 52,some 53,some 55,some 54,some 56,some 66,none,some 109,none,none,some 91,some 92,some 95,some 94,none,some 112,none,none,none,none,none,none,none,none,none,none,some 63,some 62,some 71,some 167,some 169,some 120,some 119,some 99,some 98,some 96,some 102,some 101,some 111,some 110,none,none,none,some 131,some 134,none,none,none,none,none,none,none,some 105,some 106,some 107,some 108,some 118,some 141,some 143,some 154,some 195,some 196,some 197,some 186,some 132,none,none,none,none,none,none,none,none,none,none,none,none,none,none,some 142,some 144,some 145,some 146,some 147,some 148,some 149,some 150,some 152,some 151,some 153,some 244,some 246,some 245,none,none,none,none,none,none,none,none,none,none,none,none,some 176,some 178,some 177,some 179,none,some 182,some 183,some 181,some 184,some 185,some 187,some 189,some 188,some 192,some 191,none,none,some 227,some 228,some 229,some 230,some 232,some 231,none,some 234,some 236,some 235,some 237,some 238,some 239,some 240,some 267,some 266,some 268,some 269,some 270,none,none,none,none,none,none,none,none,none,none,none,none,none,some 72,none,none,none,some 100,none,none,none,none,none,none,none,none,none,some 133,some 158,some 135,some 136,none,none,none,none,none,none,none,none,none,none,none,none,some 271,none,none,none,none,none,none,none,none,none,none,none,none,none,none,some 19,none,none,none,none,none,none,none,none,none,none,none,none,none,none,none,none,none,none,none,none,none,none,none,none,none,some 5,none,none,none,none,none,none,none,none,none,none,none,none,some 21,some 35,none,none,none,some 23,some 34,none,some 123,none,none,some 36,none,some 61,some 74,some 75,some 77,some 121,none,some 78,some 122,some 126,none,none,none,none,none,none,none,none,none,none,none,none,none,none,none,none,none,none,none,none,none,none,none,none,none,none,some 4,some 16,none,none,none,none,none,none,none,none,none,none,none,none,none,none,none,none,none,none,none,none,none,none,none]
def Ad:Nat→Option FuncId:=fun g=>ACW.getD g none
theorem Aqp:Tryz.prog.follows .mixedOrders=true:=by kernel_rfl
theorem hFl:ACW.all (fun o=>match o with | some f=>okF Tryz.prog f | none=>true)=true:=by kernel_rfl
theorem hF:∀g f,Ad g=some f→okF Tryz.prog f=true:=by
 intro g f h
 have:=List.all_eq_true.1 hFl (some f) (by
  unfold Ad at h
  rw[List.getD_eq_getElem?_getD]at h
  cases hg:ACW[g]? with
  | none=>simp[hg]at h
  | some o=>simp[hg]at h;subst h;exact List.mem_of_getElem? hg)
 exact this
variable {G0:Gl}
abbrev DE (G0:Gl):Dn:=Den Tryz.prog Ad G0
theorem lk {g:Nat} {f:FuncId} {fn:Func} {st:List Tmp} {sf:Bw} (hg:Ad g=some f) (hfn:Tryz.prog.funcs[f]? =some fn) (hm:BH Tryz.prog Ad st sf fn=true) {a:List V} {gi:List O} {r:V} {o:List O}
 (h:Body (DE G0) sf a gi r o):(DE G0) g a gi r o:=
 AxD Aqp (fun _ _ _ _ _ h=>h) hF (fun id hid=>by rw[hg]at hid;cases hid;exact hfn) hm h
theorem Arm:BH Tryz.prog Ad Anw AbD Tryz.f5=true:=by kernel_rfl
theorem Amz:BH Tryz.prog Ad AiC Ni Tryz.f21=true:=by kernel_rfl
theorem Ajb:BH Tryz.prog Ad AhS OH Tryz.f61=true:=by kernel_rfl
theorem Agq:BH Tryz.prog Ad AcZ MR Tryz.f23=true:=by kernel_rfl
theorem AiK:BH Tryz.prog Ad AfC OG Tryz.f35=true:=by kernel_rfl
theorem Ale:BH Tryz.prog Ad AjD Vj Tryz.f59=true:=by kernel_rfl
theorem AhN:BH Tryz.prog Ad AdF MS Tryz.f74=true:=by kernel_rfl
theorem Al2:BH Tryz.prog Ad Ajt Qy Tryz.f123=true:=by kernel_rfl
theorem Afx:BH Tryz.prog Ad AdD MK Tryz.f121=true:=by kernel_rfl
theorem Agl:BH Tryz.prog Ad Ael MW Tryz.f77=true:=by kernel_rfl
theorem Ae9:BH Tryz.prog Ad AeA MQ Tryz.f126=true:=by kernel_rfl
theorem Afa:BH Tryz.prog Ad Ad3 MN Tryz.f122=true:=by kernel_rfl
theorem AhC:BH Tryz.prog Ad Aeb MO Tryz.f75=true:=by kernel_rfl
theorem Aif:BH Tryz.prog Ad Afp TT Tryz.f159=true:=by kernel_rfl
theorem AfX:BH Tryz.prog Ad Aeu RP Tryz.f160=true:=by kernel_rfl
theorem AaU:BH Tryz.prog Ad Aaa NA Tryz.f161=true:=by kernel_rfl
theorem Af4:BH Tryz.prog Ad Adi Rk Tryz.f124=true:=by kernel_rfl
theorem AnX:BH Tryz.prog Ad AkV Xz Tryz.f27=true:=by kernel_rfl
theorem YK:BH Tryz.prog Ad Yz Mj Tryz.f112=true:=by kernel_rfl
theorem Ah1:BH Tryz.prog Ad Ahx Tz Tryz.f155=true:=by kernel_rfl
theorem Al1:BH Tryz.prog Ad Aic UN Tryz.f113=true:=by kernel_rfl
theorem Yl:BH Tryz.prog Ad WU K4 Tryz.f114=true:=by kernel_rfl
theorem YJ:BH Tryz.prog Ad Ym LP Tryz.f67=true:=by kernel_rfl
theorem AfI:BH Tryz.prog Ad AdT Q6 Tryz.f162=true:=by kernel_rfl
theorem Zq:BH Tryz.prog Ad XY LM Tryz.f163=true:=by kernel_rfl
theorem Ab8:BH Tryz.prog Ad Y4 NT Tryz.f164=true:=by kernel_rfl
theorem Als:BH Tryz.prog Ad Aiy Vo Tryz.f116=true:=by kernel_rfl
theorem Ahv:BH Tryz.prog Ad AdG RF Tryz.f166=true:=by kernel_rfl
theorem AcW:BH Tryz.prog Ad Abl Pq Tryz.f115=true:=by kernel_rfl
theorem Zg:BH Tryz.prog Ad X4 Mh Tryz.f68=true:=by kernel_rfl
theorem Ado:BH Tryz.prog Ad AaQ P6 Tryz.f165=true:=by kernel_rfl
theorem Ags:BH Tryz.prog Ad AeG Ry Tryz.f125=true:=by kernel_rfl
theorem Aef:BH Tryz.prog Ad AbL PE Tryz.f76=true:=by kernel_rfl
theorem AcU:BH Tryz.prog Ad Abi Lp Tryz.f34=true:=by kernel_rfl
theorem AKw:BH Tryz.prog Ad AJK AGu Tryz.f78=true:=by kernel_rfl
theorem AJZ:BH Tryz.prog Ad AJt AGn Tryz.f36=true:=by kernel_rfl
theorem AH4:BH Tryz.prog Ad AH1 AF6 Tryz.f16=true:=by kernel_rfl
theorem AJ7:BH Tryz.prog Ad AJF AHl Tryz.f87=true:=by kernel_rfl
theorem AIu:BH Tryz.prog Ad AIe AGq Tryz.f89=true:=by kernel_rfl
theorem AIY:BH Tryz.prog Ad AIs AGz Tryz.f88=true:=by kernel_rfl
theorem AJf:BH Tryz.prog Ad AIU AGI Tryz.f79=true:=by kernel_rfl
theorem AJC:BH Tryz.prog Ad AI9 AGY Tryz.f45=true:=by kernel_rfl
theorem Agx:BH Tryz.prog Ad Aeg Q7 Tryz.f58=true:=by kernel_rfl
theorem AjA:BH Tryz.prog Ad Ae4 Uh Tryz.f24=true:=by kernel_rfl
theorem Yk:BH Tryz.prog Ad WC KQ Tryz.f97=true:=by kernel_rfl
theorem WY:BH Tryz.prog Ad Va J4 Tryz.f120=true:=by kernel_rfl
theorem Ny:BH Tryz.prog Ad LY ES Tryz.f158=true:=by kernel_rfl
theorem Lu:BH Tryz.prog Ad Kw En Tryz.f119=true:=by kernel_rfl
theorem Aab:BH Tryz.prog Ad X3 Mq Tryz.f73=true:=by kernel_rfl
theorem AhH:BH Tryz.prog Ad Ad8 QX Tryz.f52=true:=by kernel_rfl
theorem Aaf:BH Tryz.prog Ad Yu Ml Tryz.f134=true:=by kernel_rfl
theorem Y7:BH Tryz.prog Ad XV LZ Tryz.f96=true:=by kernel_rfl
theorem AkK:BH Tryz.prog Ad Ajd Vk Tryz.f86=true:=by kernel_rfl
theorem WN:BH Tryz.prog Ad UL JQ Tryz.f102=true:=by kernel_rfl
theorem Hy:BH Tryz.prog Ad Hg CJ Tryz.f136=true:=by kernel_rfl
theorem Gz:BH Tryz.prog Ad Gs Ck Tryz.f101=true:=by kernel_rfl
theorem ZF:BH Tryz.prog Ad Xq Mk Tryz.f56=true:=by kernel_rfl
theorem YW:BH Tryz.prog Ad Yt AGH Tryz.f187=true:=by kernel_rfl
theorem AcV:BH Tryz.prog Ad AbZ PL Tryz.f186=true:=by kernel_rfl
theorem Ad7:BH Tryz.prog Ad Abs PS Tryz.f147=true:=by kernel_rfl
theorem Arf:BH Tryz.prog Ad AoQ AbN Tryz.f191=true:=by kernel_rfl
theorem Aod:BH Tryz.prog Ad Ami Yn Tryz.f192=true:=by kernel_rfl
theorem AiG:BH Tryz.prog Ad Agd TK Tryz.f152=true:=by kernel_rfl
theorem AbE:BH Tryz.prog Ad AaH Oi Tryz.f148=true:=by kernel_rfl
theorem Aho:BH Tryz.prog Ad Aez Rq Tryz.f189=true:=by kernel_rfl
theorem Hz:BH Tryz.prog Ad Ho CG Tryz.f188=true:=by kernel_rfl
theorem AmD:BH Tryz.prog Ad Ajf UR Tryz.f150=true:=by kernel_rfl
theorem AfE:BH Tryz.prog Ad Aeh Rp Tryz.f149=true:=by kernel_rfl
theorem Y5:BH Tryz.prog Ad XK LX Tryz.f108=true:=by kernel_rfl
theorem AhB:BH Tryz.prog Ad AdW Rh Tryz.f63=true:=by kernel_rfl
theorem Afe:BH Tryz.prog Ad AdY RA Tryz.f141=true:=by kernel_rfl
theorem AbA:BH Tryz.prog Ad Zw Nz Tryz.f143=true:=by kernel_rfl
theorem Qv:BH Tryz.prog Ad Pf FV Tryz.f72=true:=by kernel_rfl
theorem Od:BH Tryz.prog Ad Ng E9 Tryz.f30=true:=by kernel_rfl
theorem Afy:BH Tryz.prog Ad AdU RD Tryz.f246=true:=by kernel_rfl
theorem GD:BH Tryz.prog Ad Gq Cm Tryz.f245=true:=by kernel_rfl
theorem AlZ:BH Tryz.prog Ad AjK VL Tryz.f195=true:=by kernel_rfl
theorem Abx:BH Tryz.prog Ad YP NH Tryz.f197=true:=by kernel_rfl
theorem AhO:BH Tryz.prog Ad Adx Rn Tryz.f154=true:=by kernel_rfl
theorem Ade:BH Tryz.prog Ad Abj Pz Tryz.f110=true:=by kernel_rfl
theorem Qx:BH Tryz.prog Ad Qk FX Tryz.f227=true:=by kernel_rfl
theorem Ac0:BH Tryz.prog Ad Abh Ps Tryz.f267=true:=by kernel_rfl
theorem Ep:BH Tryz.prog Ad Em Bh Tryz.f266=true:=by kernel_rfl
theorem AbM:BH Tryz.prog Ad YH NZ Tryz.f228=true:=by kernel_rfl
theorem XC:BH Tryz.prog Ad Wv Li Tryz.f176=true:=by kernel_rfl
theorem XP:BH Tryz.prog Ad Wu KV Tryz.f142=true:=by kernel_rfl
theorem Y6:BH Tryz.prog Ad XH Md Tryz.f111=true:=by kernel_rfl
theorem WL:BH Tryz.prog Ad U0 J9 Tryz.f66=true:=by kernel_rfl
theorem Ag6:BH Tryz.prog Ad AdL Q5 Tryz.f65=true:=by kernel_rfl
theorem Zx:BH Tryz.prog Ad XU L8 Tryz.f230=true:=by kernel_rfl
theorem Aep:BH Tryz.prog Ad AaS Po Tryz.f178=true:=by kernel_rfl
theorem X7:BH Tryz.prog Ad WK KN Tryz.f229=true:=by kernel_rfl
theorem AaR:BH Tryz.prog Ad YI NQ Tryz.f177=true:=by kernel_rfl
theorem UY:BH Tryz.prog Ad UB Ji Tryz.f144=true:=by kernel_rfl
theorem Adn:BH Tryz.prog Ad AaV Pt Tryz.f105=true:=by kernel_rfl
theorem AdE:BH Tryz.prog Ad Ab4 Qe Tryz.f109=true:=by kernel_rfl
theorem Z7:BH Tryz.prog Ad XM Me Tryz.f64=true:=by kernel_rfl
theorem AbY:BH Tryz.prog Ad Aaz NJ Tryz.f269=true:=by kernel_rfl
theorem AfL:BH Tryz.prog Ad Adq Ri Tryz.f232=true:=by kernel_rfl
theorem Vi:BH Tryz.prog Ad UI Jh Tryz.f268=true:=by kernel_rfl
theorem Xr:BH Tryz.prog Ad WQ KX Tryz.f231=true:=by kernel_rfl
theorem Wz:BH Tryz.prog Ad VN J3 Tryz.f179=true:=by kernel_rfl
theorem Aed:BH Tryz.prog Ad AaZ Px Tryz.f239=true:=by kernel_rfl
theorem AiT:BH Tryz.prog Ad Af6 Um Tryz.f146=true:=by kernel_rfl
theorem AbO:BH Tryz.prog Ad ZQ Oh Tryz.f240=true:=by kernel_rfl
theorem Abo:BH Tryz.prog Ad Aar ND Tryz.f184=true:=by kernel_rfl
theorem Aac:BH Tryz.prog Ad XA LQ Tryz.f237=true:=by kernel_rfl
theorem Oz:BH Tryz.prog Ad Oa Fy Tryz.f238=true:=by kernel_rfl
theorem ZI:BH Tryz.prog Ad Yw LK Tryz.f182=true:=by kernel_rfl
theorem X9:BH Tryz.prog Ad WV Lh Tryz.f183=true:=by kernel_rfl
theorem ZV:BH Tryz.prog Ad Yh Mv Tryz.f53=true:=by kernel_rfl
theorem UF:BH Tryz.prog Ad TL Iu Tryz.f270=true:=by kernel_rfl
theorem Kv:BH Tryz.prog Ad JP D7 Tryz.f135=true:=by kernel_rfl
theorem Jd:BH Tryz.prog Ad IY Dk Tryz.f98=true:=by kernel_rfl
theorem WA:BH Tryz.prog Ad Vq JM Tryz.f234=true:=by kernel_rfl
theorem UK:BH Tryz.prog Ad T9 H7 Tryz.f236=true:=by kernel_rfl
theorem AaL:BH Tryz.prog Ad ZH Ol Tryz.f235=true:=by kernel_rfl
theorem AdR:BH Tryz.prog Ad Abt Qd Tryz.f181=true:=by kernel_rfl
theorem AaX:BH Tryz.prog Ad ZC NM Tryz.f185=true:=by kernel_rfl
theorem Aie:BH Tryz.prog Ad Agn TM Tryz.f145=true:=by kernel_rfl
theorem AdM:BH Tryz.prog Ad AbJ Pg Tryz.f106=true:=by kernel_rfl
theorem AeY:BH Tryz.prog Ad Adc Rm Tryz.f107=true:=by kernel_rfl
theorem Ao6:BH Tryz.prog Ad AlY XJ Tryz.f62=true:=by kernel_rfl
theorem AgM:BH Tryz.prog Ad AcS Rx Tryz.f25=true:=by kernel_rfl
theorem Ah5:BH Tryz.prog Ad Agv Uk Tryz.f7=true:=by kernel_rfl
theorem Aba:BH Tryz.prog Ad Y9 Og Tryz.f57=true:=by kernel_rfl
theorem AgF:BH Tryz.prog Ad AeB Rz Tryz.f118=true:=by kernel_rfl
theorem AgG:BH Tryz.prog Ad AdO RG Tryz.f71=true:=by kernel_rfl
theorem AnU:BH Tryz.prog Ad Amm Xt Tryz.f29=true:=by kernel_rfl
theorem Ag7:BH Tryz.prog Ad AcO Ro Tryz.f10=true:=by kernel_rfl
theorem AkO:BH Tryz.prog Ad Ajl Ve Tryz.f31=true:=by kernel_rfl
theorem Aa2:BH Tryz.prog Ad YX Om Tryz.f13=true:=by kernel_rfl
theorem AKn:BH Tryz.prog Ad AJ0 AHm Tryz.f37=true:=by kernel_rfl
theorem AIw:BH Tryz.prog Ad AIg AGr Tryz.f127=true:=by kernel_rfl
theorem AIO:BH Tryz.prog Ad AIz AGA Tryz.f80=true:=by kernel_rfl
theorem AJU:BH Tryz.prog Ad AJm AGX Tryz.f38=true:=by kernel_rfl
theorem Aee:BH Tryz.prog Ad Aby P5 Tryz.f32=true:=by kernel_rfl
theorem AcR:BH Tryz.prog Ad Aa6 PW Tryz.f33=true:=by kernel_rfl
theorem AbU:BH Tryz.prog Ad Aaq Oc Tryz.f14=true:=by kernel_rfl
theorem AJJ:BH Tryz.prog Ad AJp AGW Tryz.f81=true:=by kernel_rfl
theorem AJS:BH Tryz.prog Ad AI5 AG2 Tryz.f82=true:=by kernel_rfl
theorem AIC:BH Tryz.prog Ad AH8 AGo Tryz.f83=true:=by kernel_rfl
theorem AJI:BH Tryz.prog Ad AJe AG0 Tryz.f39=true:=by kernel_rfl
theorem AKX:BH Tryz.prog Ad AKe AHy Tryz.f51=true:=by kernel_rfl
theorem AKs:BH Tryz.prog Ad AJN AHf Tryz.f168=true:=by kernel_rfl
theorem ALZ:BH Tryz.prog Ad ALf AIb Tryz.f169=true:=by kernel_rfl
theorem AJB:BH Tryz.prog Ad AJu AG4 Tryz.f128=true:=by kernel_rfl
theorem AId:BH Tryz.prog Ad AHZ AGk Tryz.f84=true:=by kernel_rfl
theorem AJc:BH Tryz.prog Ad AIS AGE Tryz.f40=true:=by kernel_rfl
theorem AIV:BH Tryz.prog Ad AIA AGx Tryz.f85=true:=by kernel_rfl
theorem AJh:BH Tryz.prog Ad AIP AGF Tryz.f41=true:=by kernel_rfl
theorem AKN:BH Tryz.prog Ad AKd AHE Tryz.f42=true:=by kernel_rfl
theorem AJA:BH Tryz.prog Ad AJa AGV Tryz.f43=true:=by kernel_rfl
theorem AKf:BH Tryz.prog Ad AJL AHd Tryz.f44=true:=by kernel_rfl
theorem AI3:BH Tryz.prog Ad AIR AGK Tryz.f17=true:=by kernel_rfl
theorem AI2:BH Tryz.prog Ad AIW AGD Tryz.f99=true:=by kernel_rfl
theorem AKu:BH Tryz.prog Ad AJx AHg Tryz.f50=true:=by kernel_rfl
theorem AJE:BH Tryz.prog Ad AJn AG5 Tryz.f55=true:=by kernel_rfl
theorem AFV:BH Tryz.prog Ad AFS Av3 Tryz.f100=true:=by kernel_rfl
theorem AFP:BH Tryz.prog Ad AFO ArW Tryz.f54=true:=by kernel_rfl
theorem AKS:BH Tryz.prog Ad AKk AHB Tryz.f20=true:=by kernel_rfl
theorem AK5:BH Tryz.prog Ad AKW AHL Tryz.f93=true:=by kernel_rfl
theorem AJO:BH Tryz.prog Ad AJr AGZ Tryz.f90=true:=by kernel_rfl
theorem AKr:BH Tryz.prog Ad AJR AHk Tryz.f91=true:=by kernel_rfl
theorem AJX:BH Tryz.prog Ad AI7 AGU Tryz.f46=true:=by kernel_rfl
theorem AKK:BH Tryz.prog Ad AKa AHz Tryz.f132=true:=by kernel_rfl
theorem AH5:BH Tryz.prog Ad AH2 AGm Tryz.f131=true:=by kernel_rfl
theorem AIN:BH Tryz.prog Ad AIB AGv Tryz.f92=true:=by kernel_rfl
theorem AJg:BH Tryz.prog Ad AIQ AGG Tryz.f47=true:=by kernel_rfl
theorem AJG:BH Tryz.prog Ad AJo AG3 Tryz.f48=true:=by kernel_rfl
theorem AJV:BH Tryz.prog Ad AI6 AG1 Tryz.f95=true:=by kernel_rfl
theorem AF4:BH Tryz.prog Ad AF3 ABt Tryz.f133=true:=by kernel_rfl
theorem AFW:BH Tryz.prog Ad AFU AyW Tryz.f94=true:=by kernel_rfl
theorem AKE:BH Tryz.prog Ad AKb AHw Tryz.f49=true:=by kernel_rfl
theorem AKM:BH Tryz.prog Ad AKt AHC Tryz.f18=true:=by kernel_rfl
theorem Ahz:BH Tryz.prog Ad Ac2 RO Tryz.f26=true:=by kernel_rfl
theorem AhD:BH Tryz.prog Ad Ad0 RJ Tryz.f8=true:=by kernel_rfl
theorem AJq:BH Tryz.prog Ad AIL AGJ Tryz.f19=true:=by kernel_rfl
theorem ALP:BH Tryz.prog Ad ALl AIc Tryz.f4=true:=by kernel_rfl
theorem AsX:AAn (DE G0 460):=by unfold AAn;intros;refine lk (g:=460) rfl Tryz.func5 Arm ?_;apply AEx (DE G0)<;>assumption
theorem Acf:Agh (DE G0 473):=by unfold Agh;intros;refine ABS (R:=Body (DE G0) Ni) (R':=(DE G0) 473) (fun _ _ _ _ h=>lk (g:=473) rfl Tryz.func21 Amz h) ?_;apply AzS (DE G0)<;>assumption
theorem AlT:AeQ (DE G0 486):=by unfold AeQ;intros;refine JJ (R:=Body (DE G0) OH) (R':=(DE G0) 486) (fun _ _ _ _ h=>lk (g:=486) rfl Tryz.func61 Ajb h) ?_;apply AxL (DE G0)<;>assumption
theorem Di:FK (DE G0 478):=by unfold FK;intros;refine JJ (R:=Body (DE G0) MR) (R':=(DE G0) 478) (fun _ _ _ _ h=>lk (g:=478) rfl Tryz.func23 Agq h) ?_;apply Auu (DE G0) AlT<;>assumption
theorem AlR:AeM (DE G0 474):=by unfold AeM;intros;refine JJ (R:=Body (DE G0) OG) (R':=(DE G0) 474) (fun _ _ _ _ h=>lk (g:=474) rfl Tryz.func35 AiK h) ?_;apply AxM (DE G0) Di<;>assumption
theorem Ka:TF (DE G0 159):=by unfold TF;intros;refine lk (g:=159) rfl Tryz.func59 Ale ?_;apply AzD (DE G0)<;>assumption
theorem Ai5:Aao (DE G0 487):=by unfold Aao;intros;refine JJ (R:=Body (DE G0) MS) (R':=(DE G0) 487) (fun _ _ _ _ h=>lk (g:=487) rfl Tryz.func74 AhN h) ?_;apply AuR (DE G0) Di Ka<;>assumption
theorem AcJ:AfP (DE G0 481):=by unfold AfP;intros;refine JJ (R:=Body (DE G0) Qy) (R':=(DE G0) 481) (fun _ _ _ _ h=>lk (g:=481) rfl Tryz.func123 Al2 h) ?_;apply AAS (DE G0) Di<;>assumption
theorem Ajq:Zd (DE G0 490):=by unfold Zd;intros;refine JJ (R:=Body (DE G0) MK) (R':=(DE G0) 490) (fun _ _ _ _ h=>lk (g:=490) rfl Tryz.func121 Afx h) ?_;apply AuQ (DE G0) Di Ka<;>assumption
theorem Xf:Vg (DE G0 489):=by unfold Vg;intros;refine JJ (R:=Body (DE G0) MW) (R':=(DE G0) 489) (fun _ _ _ _ h=>lk (g:=489) rfl Tryz.func77 Agl h) ?_;apply Aup (DE G0) Di AcJ Ka<;>assumption
theorem AjJ:Aas (DE G0 494):=by unfold Aas;intros;refine JJ (R:=Body (DE G0) MQ) (R':=(DE G0) 494) (fun _ _ _ _ h=>lk (g:=494) rfl Tryz.func126 Ae9 h) ?_;apply At4 (DE G0) Di Xf<;>assumption
theorem Ajm:ZP (DE G0 493):=by unfold ZP;intros;refine JJ (R:=Body (DE G0) MN) (R':=(DE G0) 493) (fun _ _ _ _ h=>lk (g:=493) rfl Tryz.func122 Afa h) ?_;apply Atk (DE G0) Di AjJ<;>assumption
theorem Aje:AaB (DE G0 488):=by unfold AaB;intros;refine JJ (R:=Body (DE G0) MO) (R':=(DE G0) 488) (fun _ _ _ _ h=>lk (g:=488) rfl Tryz.func75 AhC h) ?_;apply Att (DE G0) Di AcJ Ajq Ajm Ka<;>assumption
theorem AcX:QB (DE G0 65):=by unfold QB;intros;refine lk (g:=65) rfl Tryz.func159 Aif ?_;apply Axz (DE G0)<;>assumption
theorem Afs:Tt (DE G0 66):=by unfold Tt;intros;refine lk (g:=66) rfl Tryz.func160 AfX ?_;apply AuH (DE G0)<;>assumption
theorem Ah9:V6 (DE G0 67):=by unfold V6;intros;refine lk (g:=67) rfl Tryz.func161 AaU ?_;apply AoN (DE G0)<;>assumption
theorem Ala:Y8 (DE G0 22):=by unfold Y8;intros;refine lk (g:=22) rfl Tryz.func124 Af4 ?_;apply Atf (DE G0) AcX Afs Ah9<;>assumption
theorem FN:Tg (DE G0 71):=by unfold Tg;intros;refine lk (g:=71) rfl Tryz.func27 AnX ?_;apply AB1 (DE G0)<;>assumption
theorem AJz:EJ (DE G0 250):=by unfold EJ;intros;refine lk (g:=250) rfl Tryz.func112 YK ?_;apply Aij (DE G0) FN<;>assumption
theorem Ub:V7 (DE G0 217):=by unfold V7;intros;refine lk (g:=217) rfl Tryz.func155 Ah1 ?_;apply Ayi (DE G0) FN<;>assumption
theorem Acg:RB (DE G0 152):=by unfold RB;intros;refine lk (g:=152) rfl Tryz.func113 Al1 ?_;apply Ayb (DE G0) FN Ub<;>assumption
theorem Ea:BG (DE G0 208):=by unfold BG;intros;refine lk (g:=208) rfl Tryz.func114 Yl ?_;apply Ae1 (DE G0) FN<;>assumption
theorem IL:DV (DE G0 207):=by unfold DV;intros;refine lk (g:=207) rfl Tryz.func67 YJ ?_;apply AiM (DE G0) FN AJz Acg Ea<;>assumption
theorem AiS:Nk (DE G0 209):=by unfold Nk;intros;refine lk (g:=209) rfl Tryz.func162 AfI ?_;apply ApP (DE G0) FN<;>assumption
theorem VA:IZ (DE G0 210):=by unfold IZ;intros;refine lk (g:=210) rfl Tryz.func163 Zq ?_;apply AmS (DE G0) FN<;>assumption
theorem Adm:Iw (DE G0 145):=by unfold Iw;intros;refine lk (g:=145) rfl Tryz.func164 Ab8 ?_;apply Ak5 (DE G0) FN<;>assumption
theorem Mr:Qw (DE G0 166):=by unfold Qw;intros;refine lk (g:=166) rfl Tryz.func116 Als ?_;apply AAx (DE G0)<;>assumption
theorem AlF:Zb (DE G0 95):=by unfold Zb;intros;refine lk (g:=95) rfl Tryz.func166 Ahv ?_;apply AqM (DE G0)<;>assumption
theorem Af1:Kc (DE G0 224):=by unfold Kc;intros;refine lk (g:=224) rfl Tryz.func115 AcW ?_;apply Anl (DE G0) Mr<;>assumption
theorem LH:EA (DE G0 168):=by unfold EA;intros;refine lk (g:=168) rfl Tryz.func68 Zg ?_;apply AiZ (DE G0) Af1 Ea<;>assumption
theorem Afk:Wh (DE G0 211):=by unfold Wh;intros;refine lk (g:=211) rfl Tryz.func165 Ado ?_;apply Aow (DE G0) LH Ea<;>assumption
theorem AiR:Zf (DE G0 141):=by unfold Zf;intros;refine lk (g:=141) rfl Tryz.func125 Ags ?_;apply Aqh (DE G0) IL Ea AiS VA Adm Mr AlF Afk FN<;>assumption
theorem Ain:V3 (DE G0 70):=by unfold V3;intros;refine lk (g:=70) rfl Tryz.func76 Aef ?_;apply AoW (DE G0) Ala AiR<;>assumption
theorem AeZ:Wo (DE G0 479):=by unfold Wo;intros;refine JJ (R:=Body (DE G0) Lp) (R':=(DE G0) 479) (fun _ _ _ _ h=>lk (g:=479) rfl Tryz.func34 AcU h) ?_;apply ApQ (DE G0) Di Ka Ai5 Aje Xf Ain<;>assumption
theorem AKV:AIi (DE G0 492):=by unfold AIi;intros;refine JJ (R:=Body (DE G0) AGu) (R':=(DE G0) 492) (fun _ _ _ _ h=>lk (g:=492) rfl Tryz.func78 AKw h) ?_;apply ANq (DE G0) Di AjJ<;>assumption
theorem AKi:AHQ (DE G0 484):=by unfold AHQ;intros;refine JJ (R:=Body (DE G0) AGn) (R':=(DE G0) 484) (fun _ _ _ _ h=>lk (g:=484) rfl Tryz.func36 AJZ h) ?_;apply AMD (DE G0) Di AKV<;>assumption
theorem AIt:AGw (DE G0 522):=by unfold AGw;intros;refine An3 (R:=Body (DE G0) AF6) (R':=(DE G0) 522) (fun _ _ _ _ h=>lk (g:=522) rfl Tryz.func16 AH4 h) ?_;apply AKq (DE G0) Acf Di AlR AeZ AKi<;>assumption
theorem AI1:AJj (DE G0 172):=by unfold AJj;intros;refine lk (g:=172) rfl Tryz.func87 AJ7 ?_;apply AM8 (DE G0)<;>assumption
theorem AJD:QB (DE G0 102):=by unfold QB;intros;refine lk (g:=102) rfl Tryz.func89 AIu ?_;apply AKQ (DE G0) AI1<;>assumption
theorem AG7:Tt (DE G0 101):=by unfold Tt;intros;refine lk (g:=101) rfl Tryz.func88 AIY ?_;apply ALi (DE G0)<;>assumption
theorem AH9:V6 (DE G0 103):=by unfold V6;intros;refine lk (g:=103) rfl Tryz.func79 AJf ?_;apply ALQ (DE G0)<;>assumption
theorem AE6:Y8 (DE G0 38):=by unfold Y8;intros;refine lk (g:=38) rfl Tryz.func45 AJC ?_;apply AMw (DE G0) AJD AG7 AH9<;>assumption
theorem EF:Tg (DE G0 114):=by unfold Tg;intros;refine lk (g:=114) rfl Tryz.func58 Agx ?_;apply Au9 (DE G0)<;>assumption
theorem OI:TW (DE G0 117):=by unfold TW;intros;refine lk (g:=117) rfl Tryz.func24 AjA ?_;apply Awf (DE G0) EF<;>assumption
theorem FM:BG (DE G0 232):=by unfold BG;intros;refine lk (g:=232) rfl Tryz.func97 Yk ?_;apply Ahf (DE G0) EF<;>assumption
theorem Z8:OP (DE G0 266):=by unfold OP;intros;refine lk (g:=266) rfl Tryz.func120 WY ?_;apply AjH (DE G0) EF<;>assumption
theorem AcT:Tp (DE G0) (DE G0 404):=by unfold Tp;intros;refine lk (g:=404) rfl Tryz.func158 Ny ?_;apply AmY (DE G0)<;>assumption
theorem Pm:JA (DE G0) (DE G0 267):=by unfold JA;intros;refine lk (g:=267) rfl Tryz.func119 Lu ?_;apply Ae0 (DE G0) AcT<;>assumption
theorem Gm:Gu (DE G0 233):=by unfold Gu;intros;refine lk (g:=233) rfl Tryz.func73 Aab ?_;apply Ak2 (DE G0) Z8 Pm<;>assumption
theorem AiQ:Nk (DE G0 235):=by unfold Nk;intros;refine lk (g:=235) rfl Tryz.func52 AhH ?_;apply Arw (DE G0) Gm<;>assumption
theorem SL:EJ (DE G0 279):=by unfold EJ;intros;refine lk (g:=279) rfl Tryz.func134 Aaf ?_;apply Ajw (DE G0) EF<;>assumption
theorem Sk:M6 (DE G0 270):=by unfold M6;intros;refine lk (g:=270) rfl Tryz.func96 Y7 ?_;apply Aih (DE G0) SL Pm<;>assumption
theorem Ace:RB (DE G0 183):=by unfold RB;intros;refine lk (g:=183) rfl Tryz.func86 AkK ?_;apply AwU (DE G0) EF Gm<;>assumption
theorem YM:OT (DE G0 271):=by unfold OT;intros;refine lk (g:=271) rfl Tryz.func102 WN ?_;apply AiE (DE G0) Ace<;>assumption
theorem XG:ML (DE G0) (DE G0 406):=by unfold ML;intros;refine lk (g:=406) rfl Tryz.func136 Hy ?_;apply Ag5 (DE G0)<;>assumption
theorem UJ:IU (DE G0) (DE G0 272):=by unfold IU;intros;refine lk (g:=272) rfl Tryz.func101 Gz ?_;apply Zy (DE G0) XG<;>assumption
theorem MF:DV (DE G0 239):=by unfold DV;intros;refine lk (g:=239) rfl Tryz.func56 ZF ?_;apply Ai9 (DE G0) FM AiQ Sk YM UJ EF<;>assumption
theorem Air:ZL (DE G0 350):=by unfold ZL;intros;refine lk (g:=350) rfl Tryz.func187 YW ?_;apply AnQ (DE G0)<;>assumption
theorem Ic:Kk (DE G0) (DE G0 298):=by unfold Kk;intros;refine lk (g:=298) rfl Tryz.func186 AcV ?_;apply ApB (DE G0)<;>assumption
theorem Z9:MV (DE G0 318):=by unfold MV;intros;refine lk (g:=318) rfl Tryz.func147 Ad7 ?_;apply Ari (DE G0) Air Ic<;>assumption
theorem AkC:Aib (DE G0 354):=by unfold Aib;intros;refine lk (g:=354) rfl Tryz.func191 Arf ?_;apply ACo (DE G0) EF<;>assumption
theorem Yi:UA (DE G0 353):=by unfold UA;intros;refine lk (g:=353) rfl Tryz.func192 Aod ?_;apply AzO (DE G0) AkC<;>assumption
theorem Afv:Xk (DE G0 322):=by unfold Xk;intros;refine lk (g:=322) rfl Tryz.func152 AiG ?_;apply Az8 (DE G0) Yi AkC<;>assumption
theorem AeF:HV (DE G0 319):=by unfold HV;intros;refine lk (g:=319) rfl Tryz.func148 AbE ?_;apply AkY (DE G0) Afv<;>assumption
theorem Alq:AeS (DE G0 351):=by unfold AeS;intros;refine lk (g:=351) rfl Tryz.func189 Aho ?_;apply AxA (DE G0)<;>assumption
theorem Qm:Jp (DE G0) (DE G0 352):=by unfold Jp;intros;refine lk (g:=352) rfl Tryz.func188 Hz ?_;apply AfH (DE G0)<;>assumption
theorem Aci:NC (DE G0 321):=by unfold NC;intros;refine lk (g:=321) rfl Tryz.func150 AmD ?_;apply AxX (DE G0) Alq Qm<;>assumption
theorem Jq:EW (DE G0 320):=by unfold EW;intros;refine lk (g:=320) rfl Tryz.func149 AfE ?_;apply Arj (DE G0) EF Aci Gm<;>assumption
theorem Alu:AmC (DE G0 323):=AnE (k:=151) rfl (fun b o c w=>Go.Eng.Ins.AFk b o c w) (fun b o c v w h=>Go.Eng.Ins.AFc b o c v w h) (fun b o c v w h=>Go.Eng.Ins.AFC b o c v w h)
theorem AlB:AkP (DE G0 324):=Ao2 (k:=153) rfl Go.Eng.Ins.AFp
theorem Aea:IG (DE G0 290):=by unfold IG;intros;refine lk (g:=290) rfl Tryz.func108 Y5 ?_;apply AkQ (DE G0) Z9 AeF Jq Aci Afv Alu AlB<;>assumption
theorem AiN:Nh (DE G0 261):=by unfold Nh;intros;refine lk (g:=261) rfl Tryz.func63 AhB ?_;apply Aqj (DE G0) MF Aea<;>assumption
theorem FW:Dg (DE G0 292):=by unfold Dg;intros;refine lk (g:=292) rfl Tryz.func141 Afe ?_;apply Ars (DE G0) FM Jq<;>assumption
theorem Xb:Jz (DE G0 293):=by unfold Jz;intros;refine lk (g:=293) rfl Tryz.func143 AbA ?_;apply AmN (DE G0) Z9<;>assumption
theorem Au7:ACI (DE G0 325):=AzC (k:=244) rfl (fun b off n c zs w h1 h2 h3 h4=>Tryz.slices_Max_int b off n c zs w h1 h2 h3 h4)
theorem Aoj:Ame (DE G0 389):=by unfold Ame;intros;refine lk (g:=389) rfl Tryz.func72 Qv ?_;apply AzR (DE G0)<;>assumption
theorem I4:Qw (DE G0 188):=by unfold Qw;intros;refine lk (g:=188) rfl Tryz.func30 Od ?_;apply AqX (DE G0) Aoj<;>assumption
theorem AkN:AeI (DE G0 326):=by unfold AeI;intros;refine lk (g:=326) rfl Tryz.func246 Afy ?_;apply AxV (DE G0) I4 EF<;>assumption
theorem UD:I5 (DE G0) (DE G0 327):=by unfold I5;intros;refine lk (g:=327) rfl Tryz.func245 GD ?_;apply Zp (DE G0) Qm<;>assumption
theorem An7:AkR (DE G0 295):=by unfold AkR;intros;refine lk (g:=295) rfl Tryz.func195 AlZ ?_;apply AzB (DE G0) Au7 AkN UD<;>assumption
theorem AnS:ArD (DE G0 296):=Atn (k:=196) rfl (fun n c w=>Tryz.slices_Clone_int_nil n c w) (fun a c w=>Tryz.slices_Clone_int_zero a c w) (fun b off n c zs w h1 h2 h3=>Tryz.slices_Clone_int b off n c zs w h1 h2 h3)
theorem AgK:V5 (DE G0 297):=by unfold V5;intros;refine lk (g:=297) rfl Tryz.func197 Abx ?_;apply Aqv (DE G0) I4<;>assumption
theorem Ajc:Nl (DE G0 294):=by unfold Nl;intros;refine lk (g:=294) rfl Tryz.func154 AhO ?_;apply Aru (DE G0) Ace FW An7 AnS AgK Ic<;>assumption
theorem KH:EN (DE G0 274):=by unfold EN;intros;refine lk (g:=274) rfl Tryz.func110 Ade ?_;apply AoO (DE G0) FW Xb Ajc<;>assumption
theorem Y2:MU (DE G0 357):=by unfold MU;intros;refine lk (g:=357) rfl Tryz.func227 Qx ?_;apply AwG (DE G0)<;>assumption
theorem AhL:SQ (DE G0 371):=by unfold SQ;intros;refine lk (g:=371) rfl Tryz.func267 Ac0 ?_;apply Aq7 (DE G0) Y2<;>assumption
theorem Adw:Tx (DE G0) (DE G0 372):=by unfold Tx;intros;refine lk (g:=372) rfl Tryz.func266 Ep ?_;apply An5 (DE G0)<;>assumption
theorem Al9:OL (DE G0 358):=by unfold OL;intros;refine lk (g:=358) rfl Tryz.func228 AbM ?_;apply Alk (DE G0) AhL Adw<;>assumption
theorem AfO:Ko (DE G0 340):=by unfold Ko;intros;refine lk (g:=340) rfl Tryz.func176 XC ?_;apply AfZ (DE G0) Y2 Al9<;>assumption
theorem QV:EY (DE G0 314):=by unfold EY;intros;refine lk (g:=314) rfl Tryz.func142 XP ?_;apply AgQ (DE G0) KH AfO<;>assumption
theorem Sr:Fq (DE G0 273):=by unfold Fq;intros;refine lk (g:=273) rfl Tryz.func111 Y6 ?_;apply Ait (DE G0)<;>assumption
theorem Pv:DY (DE G0 240):=by unfold DY;intros;refine lk (g:=240) rfl Tryz.func66 WL ?_;apply Ad9 (DE G0) FM Sr KH<;>assumption
theorem PD:QD (DE G0 189):=by unfold QD;intros;refine lk (g:=189) rfl Tryz.func65 Ag6 ?_;apply Aqi (DE G0) I4<;>assumption
theorem Aa4:FT (DE G0 360):=by unfold FT;intros;refine lk (g:=360) rfl Tryz.func230 Zx ?_;apply Aix (DE G0) FM Sr KH<;>assumption
theorem AgX:Kg (DE G0 341):=by unfold Kg;intros;refine lk (g:=341) rfl Tryz.func178 Aep ?_;apply Ank (DE G0) Jq Aa4 QV<;>assumption
theorem Abu:QS (DE G0 359):=by unfold QS;intros;refine lk (g:=359) rfl Tryz.func229 X7 ?_;apply Amk (DE G0) I4<;>assumption
theorem AdP:H9 (DE G0 342):=by unfold H9;intros;refine lk (g:=342) rfl Tryz.func177 AaR ?_;apply Alp (DE G0) FW PD Abu Ic<;>assumption
theorem Ahs:Kb (DE G0 315):=by unfold Kb;intros;refine lk (g:=315) rfl Tryz.func144 UY ?_;apply Am9 (DE G0) Pv PD AgX AdP<;>assumption
theorem Ae8:Kn (DE G0 287):=by unfold Kn;intros;refine lk (g:=287) rfl Tryz.func105 Adn ?_;apply AnD (DE G0) FW QV Xb Ahs<;>assumption
theorem Ahy:Kc (DE G0 242):=by unfold Kc;intros;refine lk (g:=242) rfl Tryz.func109 AdE ?_;apply Am8 (DE G0) I4<;>assumption
theorem SA:EA (DE G0 190):=by unfold EA;intros;refine lk (g:=190) rfl Tryz.func64 Z7 ?_;apply AjB (DE G0) Ahy FM<;>assumption
theorem AgB:VT (DE G0 374):=by unfold VT;intros;refine lk (g:=374) rfl Tryz.func269 AbY ?_;apply ApN (DE G0) I4<;>assumption
theorem Aiu:KJ (DE G0 361):=by unfold KJ;intros;refine lk (g:=361) rfl Tryz.func232 AfL ?_;apply Apu (DE G0) AgB Ic<;>assumption
theorem Aej:TG (DE G0 373):=by unfold TG;intros;refine lk (g:=373) rfl Tryz.func268 Vi ?_;apply Agg (DE G0) SL<;>assumption
theorem ZU:FO (DE G0 362):=by unfold FO;intros;refine lk (g:=362) rfl Tryz.func231 Xr ?_;apply Ahw (DE G0) Aej Ic<;>assumption
theorem AlA:QH (DE G0 343):=by unfold QH;intros;refine lk (g:=343) rfl Tryz.func179 Wz ?_;apply As1 (DE G0) SA FW Aiu ZU<;>assumption
theorem Vx:G6 (DE G0 369):=by unfold G6;intros;refine lk (g:=369) rfl Tryz.func239 Aed ?_;apply Ana (DE G0) EF Jq<;>assumption
theorem OO:JH (DE G0 317):=by unfold JH;intros;refine lk (g:=317) rfl Tryz.func146 AiT ?_;apply AuP (DE G0)<;>assumption
theorem Aei:Tv (DE G0 370):=by unfold Tv;intros;refine lk (g:=370) rfl Tryz.func240 AbO ?_;apply AlQ (DE G0) OO Sk<;>assumption
theorem AdI:IE (DE G0 348):=by unfold IE;intros;refine lk (g:=348) rfl Tryz.func184 Abo ?_;apply AlC (DE G0) FW Vx I4 OO PD Aei<;>assumption
theorem SS:Fj (DE G0 367):=by unfold Fj;intros;refine lk (g:=367) rfl Tryz.func237 Aac ?_;apply Aiv (DE G0) Jq<;>assumption
theorem AqO:AwJ (DE G0 419):=Atw (k:=271) rfl (fun w=>Go.Eng.Ins.AD9 w) (fun n w h1 h2=>Go.Eng.Ins.AEC n w h1 h2)
theorem Zz:Aat (DE G0 368):=by unfold Aat;intros;refine lk (g:=368) rfl Tryz.func238 Oz ?_;apply Awr (DE G0) AqO<;>assumption
theorem Abz:Gt (DE G0 345):=by unfold Gt;intros;refine lk (g:=345) rfl Tryz.func182 ZI ?_;apply AjG (DE G0) FW SS Zz<;>assumption
theorem ZJ:FR (DE G0 346):=by unfold FR;intros;refine lk (g:=346) rfl Tryz.func183 X9 ?_;apply Afr (DE G0) Vx SS<;>assumption
theorem Afh:IZ (DE G0 236):=by unfold IZ;intros;refine lk (g:=236) rfl Tryz.func53 ZV ?_;apply Aoe (DE G0) EF<;>assumption
theorem Ag1:Wn (DE G0 375):=by unfold Wn;intros;refine lk (g:=375) rfl Tryz.func270 UF ?_;apply Aq1 (DE G0) Gm<;>assumption
theorem WO:KF (DE G0) (DE G0 405):=by unfold KF;intros;refine lk (g:=405) rfl Tryz.func135 Kv ?_;apply AeE (DE G0)<;>assumption
theorem TQ:Hw (DE G0) (DE G0 269):=by unfold Hw;intros;refine lk (g:=269) rfl Tryz.func98 Jd ?_;apply Yo (DE G0) WO<;>assumption
theorem Xh:Jv (DE G0 364):=by unfold Jv;intros;refine lk (g:=364) rfl Tryz.func234 WA ?_;apply Aq6 (DE G0) Ag1 TQ<;>assumption
theorem Ad6:H8 (DE G0 365):=by unfold H8;intros;refine lk (g:=365) rfl Tryz.func236 UK ?_;apply Amj (DE G0) Xh Yi<;>assumption
theorem Am0:Vf (DE G0 366):=by unfold Vf;intros;refine lk (g:=366) rfl Tryz.func235 AaL ?_;apply Awv (DE G0) Zz Yi<;>assumption
theorem AaG:OE (DE G0 347):=by unfold OE;intros;refine lk (g:=347) rfl Tryz.func181 AdR ?_;apply Au4 (DE G0) Afh Xh EF Ad6 Am0<;>assumption
theorem Adt:Uc (DE G0 349):=by unfold Uc;intros;refine lk (g:=349) rfl Tryz.func185 AaX ?_;apply AlH (DE G0) AaG<;>assumption
theorem AnK:AlE (DE G0 316):=by unfold AlE;intros;refine lk (g:=316) rfl Tryz.func145 Aie ?_;apply AA5 (DE G0) AlA AdI Abz ZJ AaG Adt OO<;>assumption
theorem Ahh:Kj (DE G0 288):=by unfold Kj;intros;refine lk (g:=288) rfl Tryz.func106 AdM ?_;apply AoX (DE G0) KH AnK<;>assumption
theorem Ai7:M8 (DE G0 289):=by unfold M8;intros;refine lk (g:=289) rfl Tryz.func107 AeY ?_;apply AqV (DE G0) PD OO EF<;>assumption
theorem ArB:AcC (DE G0 262):=by unfold AcC;intros;refine lk (g:=262) rfl Tryz.func62 Ao6 ?_;apply Az7 (DE G0) Ae8 Ahh Ai7<;>assumption
theorem Ajg:Nn (DE G0 227):=by unfold Nn;intros;refine lk (g:=227) rfl Tryz.func25 AgM ?_;apply ApZ (DE G0) MF AiN ArB<;>assumption
theorem AlU:QE (DE G0 173):=by unfold QE;intros;refine lk (g:=173) rfl Tryz.func7 Ah5 ?_;apply Auc (DE G0) OI Ajg<;>assumption
theorem AdB:Iw (DE G0 176):=by unfold Iw;intros;refine lk (g:=176) rfl Tryz.func57 Aba ?_;apply Alv (DE G0) EF<;>assumption
theorem AjN:AaF (DE G0 291):=by unfold AaF;intros;refine lk (g:=291) rfl Tryz.func118 AgF ?_;apply ApW (DE G0) EF<;>assumption
theorem Ai4:Aap (DE G0 263):=by unfold Aap;intros;refine lk (g:=263) rfl Tryz.func71 AgG ?_;apply Aqx (DE G0) AdB EF AjN<;>assumption
theorem Aq5:Asg (DE G0 228):=by unfold Asg;intros;refine lk (g:=228) rfl Tryz.func29 AnU ?_;apply Azp (DE G0) Ai4<;>assumption
theorem AiP:Aak (DE G0 174):=by unfold Aak;intros;refine lk (g:=174) rfl Tryz.func10 Ag7 ?_;apply Aq4 (DE G0) OI Aq5 I4<;>assumption
theorem Uw:Gy (DE G0 229):=by unfold Gy;intros;refine lk (g:=229) rfl Tryz.func31 AkO ?_;apply AAM (DE G0) I4<;>assumption
theorem Aes:Gy (DE G0 175):=by unfold Gy;intros;refine lk (g:=175) rfl Tryz.func13 Aa2 ?_;apply Amv (DE G0) Uw<;>assumption
theorem AKR:AIl (DE G0 106):=by unfold AIl;intros;refine lk (g:=106) rfl Tryz.func37 AKn ?_;apply AMv (DE G0) AE6 OI AlU AiP AH9 Aes<;>assumption
theorem ALG:ANA (DE G0 264):=fun l i v hl hi=>ANr (Ad:=Ad) (g:=264) (k:=167) (t3:=Tryz.AIJ.t 3) rfl (fun b off n c i vb voff m vc cs vs w h1 h2 h3 h4 h5 h6 h7 h8 h9 h10 h11 h12 h13 tA tB kA kB h14 h15 h16 h17 h18=>Any2.slices_Insert_int_shift Tryz.AIj b off n c i vb voff m vc cs vs w h1 h2 h3 h4 h5 h6 h7 h8 h9 h10 h11 h12 h13 tA tB kA kB h14 h15 h16 h17 h18) (fun b off n c vb voff m vc vs w h1 h2 h3 h4 h5 h6 h7 h8=>Any2.slices_Insert_int_end_room Tryz.AIj b off n c vb voff m vc vs w h1 h2 h3 h4 h5 h6 h7 h8) (fun base n c vb voff m vc cs vs w h1 h2 h3 h4 h5 h6 h7 h8 h9 h10=>Any2.slices_Insert_int_end_grow Tryz.AIj base n c vb voff m vc cs vs w h1 h2 h3 h4 h5 h6 h7 h8 h9 h10) (fun b off n c i vb voff m vc cs vs w h1 h2 h3 h4 h5 h6 h7 h8 h9 h10 h11=>Any2.slices_Insert_int_grow Tryz.AIj b off n c i vb voff m vc cs vs w h1 h2 h3 h4 h5 h6 h7 h8 h9 h10 h11) l i v hl hi
theorem AI0:AHa (DE G0 230):=by unfold AHa;intros;refine lk (g:=230) rfl Tryz.func127 AIw ?_;apply ALn (DE G0) ALG<;>assumption
theorem AHG:AGQ (DE G0 177):=by unfold AGQ;intros;refine lk (g:=177) rfl Tryz.func80 AIO ?_;apply AK8 (DE G0) AE6 AdB Aq5 AI0<;>assumption
theorem AJ8:AHW (DE G0 107):=by unfold AHW;intros;refine lk (g:=107) rfl Tryz.func38 AJU ?_;apply ALH (DE G0) AE6 AdB AHG<;>assumption
theorem AhE:Wl (DE G0 193):=by unfold Wl;intros;refine lk (g:=193) rfl Tryz.func32 Aee ?_;apply AoI (DE G0) Uw<;>assumption
theorem Aha:VU (DE G0 194):=by unfold VU;intros;refine lk (g:=194) rfl Tryz.func33 AcR ?_;apply AnO (DE G0) Gm EF<;>assumption
theorem Ad4:TH (DE G0 127):=by unfold TH;intros;refine lk (g:=127) rfl Tryz.func14 AbU ?_;apply AmA (DE G0) AhE Aha<;>assumption
theorem AKj:AHU (DE G0 178):=by unfold AHU;intros;refine lk (g:=178) rfl Tryz.func81 AJJ ?_;apply ALU (DE G0) AG7 AdB<;>assumption
theorem AJ9:AHO (DE G0 179):=by unfold AHO;intros;refine lk (g:=179) rfl Tryz.func82 AJS ?_;apply ALF (DE G0) AG7 AdB<;>assumption
theorem AHx:AHI (DE G0 189):=by unfold AHI;intros;refine lk (g:=189) rfl Tryz.func65 Ag6 ?_;apply ANT (DE G0) I4<;>assumption
theorem AIM:AGN (DE G0 180):=by unfold AGN;intros;refine lk (g:=180) rfl Tryz.func83 AIC ?_;apply AKl (DE G0) AE6 AHx SA<;>assumption
theorem AKv:AHR (DE G0 108):=by unfold AHR;intros;refine lk (g:=108) rfl Tryz.func39 AJI ?_;apply AL1 (DE G0) AE6 Ad4 AKj AHG AJ9 AIM<;>assumption
theorem AHD:Zb (DE G0 123):=by unfold Zb;intros;refine lk (g:=123) rfl Tryz.func51 AKX ?_;apply ANm (DE G0)<;>assumption
theorem AKF:AIm (DE G0 124):=by unfold AIm;intros;refine lk (g:=124) rfl Tryz.func168 AKs ?_;apply AMc (DE G0) SA AHx<;>assumption
theorem AMl:ALO (DE G0 265):=by unfold ALO;intros;refine lk (g:=265) rfl Tryz.func169 ALZ ?_;apply AOs (DE G0) SA<;>assumption
theorem AKc:AHP (DE G0 231):=by unfold AHP;intros;refine lk (g:=231) rfl Tryz.func128 AJB ?_;apply ALS (DE G0) FM I4 EF AKF AMl<;>assumption
theorem AIx:AGt (DE G0 181):=by unfold AGt;intros;refine lk (g:=181) rfl Tryz.func84 AId ?_;apply AJT (DE G0) AKc AHx<;>assumption
theorem AJW:AHq (DE G0 109):=by unfold AHq;intros;refine lk (g:=109) rfl Tryz.func40 AJc ?_;apply ALd (DE G0) AE6 AHD AIx<;>assumption
theorem AKG:ANy (DE G0 197):=AOi (k:=129) rfl (fun p c w=>Tryz.slices_Sort_int_none p c w) (fun b o c zs w h1 h2 h3=>Tryz.slices_Sort_int b o c zs w h1 h2 h3)
theorem AJQ:AHo (DE G0 182):=by unfold AHo;intros;refine lk (g:=182) rfl Tryz.func85 AIV ?_;apply ALh (DE G0) FM EF I4 AKG<;>assumption
theorem AJP:AHp (DE G0 110):=by unfold AHp;intros;refine lk (g:=110) rfl Tryz.func41 AJh ?_;apply ALo (DE G0) AE6 AJQ<;>assumption
theorem AK9:AJk (DE G0 111):=by unfold AJk;intros;refine lk (g:=111) rfl Tryz.func42 AKN ?_;apply ANc (DE G0) AE6 OI Ace AI1<;>assumption
theorem AKp:AHM (DE G0 112):=by unfold AHM;intros;refine lk (g:=112) rfl Tryz.func43 AJA ?_;apply ALM (DE G0) AE6 OI<;>assumption
theorem AKP:AIn (DE G0 113):=by unfold AIn;intros;refine lk (g:=113) rfl Tryz.func44 AKf ?_;apply AMh (DE G0) AE6 EF<;>assumption
theorem AKg:AHv (DE G0 41):=by unfold AHv;intros;refine lk (g:=41) rfl Tryz.func17 AI3 ?_;apply ALj (DE G0) AE6 AKR AJ8 AKv AJW AJP AK9 AKp AKP<;>assumption
theorem AKo:AHJ (DE G0 268):=by unfold AHJ;intros;refine lk (g:=268) rfl Tryz.func99 AI2 ?_;apply AMT (DE G0) SA<;>assumption
theorem AH7:Wh (DE G0 234):=by unfold Wh;intros;refine lk (g:=234) rfl Tryz.func50 AKu ?_;apply AMG (DE G0) FM AKo TQ<;>assumption
theorem AKH:AIp (DE G0 237):=by unfold AIp;intros;refine lk (g:=237) rfl Tryz.func55 AJE ?_;apply AM4 (DE G0) MF<;>assumption
theorem AHF:AGa (DE G0) (DE G0 393):=by unfold AGa;intros;refine lk (g:=393) rfl Tryz.func100 AFV ?_;apply AIy (DE G0)<;>assumption
theorem AHi:AFT (DE G0) (DE G0 238):=by unfold AFT;intros;refine lk (g:=238) rfl Tryz.func54 AFP ?_;apply AHV (DE G0) AHF<;>assumption
theorem AIK:Zf (DE G0 184):=by unfold Zf;intros;refine lk (g:=184) rfl Tryz.func20 AKS ?_;apply AM2 (DE G0) AHD AH7 AiQ Afh AKH AHi AdB I4 EF<;>assumption
theorem AKY:AMu (DE G0 196):=by unfold AMu;intros;refine lk (g:=196) rfl Tryz.func93 AK5 ?_;apply AOx (DE G0) Aes<;>assumption
theorem ALe:CompactS (DE G0 198):=ALN (k:=130) rfl (fun p c w=>Tryz.slices_Compact_int_empty p c w) (fun b o c zs w h1 h2 h3=>Tryz.slices_Compact_int b o c zs w h1 h2 h3)
theorem AKJ:AIr (DE G0 131):=by unfold AIr;intros;refine lk (g:=131) rfl Tryz.func90 AJO ?_;apply AMg (DE G0) AKY AKG ALe<;>assumption
theorem AKL:AIo (DE G0 245):=by unfold AIo;intros;refine lk (g:=245) rfl Tryz.func91 AKr ?_;apply AL9 (DE G0) AdB EF Ai4<;>assumption
theorem AJ6:AHK (DE G0 200):=by unfold AHK;intros;refine lk (g:=200) rfl Tryz.func46 AJX ?_;apply ALX (DE G0) AKJ AKL<;>assumption
theorem ALk:AI4 (DE G0 299):=by unfold AI4;intros;refine lk (g:=299) rfl Tryz.func132 AKK ?_;apply ANb (DE G0)<;>assumption
theorem AIT:AGM (DE G0 278):=by unfold AGM;intros;refine lk (g:=278) rfl Tryz.func131 AH5 ?_;apply AKB (DE G0) ALk<;>assumption
theorem AJv:AHb (DE G0 246):=by unfold AHb;intros;refine lk (g:=246) rfl Tryz.func92 AIN ?_;apply AKI (DE G0) AIT UJ<;>assumption
theorem AJy:AHu (DE G0 201):=by unfold AHu;intros;refine lk (g:=201) rfl Tryz.func47 AJg ?_;apply AK3 (DE G0) AlU AJv SA AHD AH7<;>assumption
theorem AKy:AHT (DE G0 202):=by unfold AHT;intros;refine lk (g:=202) rfl Tryz.func48 AJG ?_;apply ALJ (DE G0) AKY<;>assumption
theorem AKU:AIh (DE G0 247):=by unfold AIh;intros;refine lk (g:=247) rfl Tryz.func95 AJV ?_;apply ANe (DE G0) Sk EF<;>assumption
theorem AH0:AGh (DE G0) (DE G0 403):=by unfold AGh;intros;refine lk (g:=403) rfl Tryz.func133 AF4 ?_;apply AIZ (DE G0)<;>assumption
theorem AHA:AF5 (DE G0) (DE G0 248):=by unfold AF5;intros;refine lk (g:=248) rfl Tryz.func94 AFW ?_;apply AH3 (DE G0) AH0<;>assumption
theorem ALc:AJs (DE G0 203):=by unfold AJs;intros;refine lk (g:=203) rfl Tryz.func49 AKE ?_;apply ANx (DE G0) AKU AHA<;>assumption
theorem AK6:AI8 (DE G0 133):=by unfold AI8;intros;refine lk (g:=133) rfl Tryz.func18 AKM ?_;apply ANw (DE G0) AIK AJ6 AJy AKy ALc<;>assumption
theorem AiV:Nw (DE G0 186):=by unfold Nw;intros;refine lk (g:=186) rfl Tryz.func26 Ahz ?_;apply Aqs (DE G0) MF Pv PD SA<;>assumption
theorem Ajr:Nt (DE G0 119):=by unfold Nt;intros;refine lk (g:=119) rfl Tryz.func8 AhD ?_;apply Aqw (DE G0) OI AiV<;>assumption
theorem AJM:AHt (DE G0 434):=by unfold AHt;intros;refine lk (g:=434) rfl Tryz.func19 AJq ?_;apply AK4 (DE G0) AiP<;>assumption
theorem AML:ANn (DE G0 521):=by unfold ANn;intros;refine lk (g:=521) rfl Tryz.func4 ALP ?_;apply AOU (DE G0) AsX AIt AKg AK6 AlU Ajr AJM AIK<;>assumption
theorem den (G0:Gl) (av:List V) (h:Ae7 av):DE G0 521 av [] (B true) []:=by
 obtain⟨bs,hb,rfl⟩:=AFt h
 exact AML bs hb
end Go.Eng.T
