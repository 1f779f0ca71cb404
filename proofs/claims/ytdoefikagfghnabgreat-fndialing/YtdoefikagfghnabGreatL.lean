/- Own work: part 51 of the proof of FnDialing. -/
import Derived.Test.YtdoefikagfghnabGreatP50
import Derived.Test.YtdoefikagfghnabGreatProg
import Derived.KernelRfl
set_option linter.unusedSimpArgs false
set_option linter.unusedVariables false
namespace Go.Eng.T
open Go.Proofs
set_option maxRecDepth 100000
def ACW:List (Option Nat):=[none,none,none,none,none,none,none,none,none,none,none,none,none,none,none,none,none,none,none,none,none,none,some 124,none,none,none,none,none,none,none,none,none,none,none,none,none,none,none,none,none,none,none,none,none,none,none,none,none,none,none,none,none,none,none,none,none,none,none,none,none,none,none,none,none,none,some 159,some 160,some 161,none,none,some 76,some 27,none,none,none,none,none,none,none,none,none,none,none,none,none,none,none,none,none,none,none,none,some 9,none,none,some 166,none,none,none,none,none,none,none,none,none,none,none,none,none,none,none,none,none,none,some 58,none,none,some 24,none,some 8,none,none,none,none,none,none,none,some 14,none,none,none,none,none,none,none,none,none,none,none,none,none,some 125,some 60,none,none,some 164,none,none,none,none,none,none,some 113,none,none,none,none,none,none,some 59,none,none,none,none,none,some 28,some 116,none,some 68,none,none,none,none,some 7,some 10,some 13,some 57,none,none,none,none,none,none,some 86,none,none,some 26,none,some 30,some 65,some 64,none,none,some 32,some 33,none,none,none,none,none,none,none,none,none,none,none,none,some 67,some 114,some 162,some 163,some 165,some 104,some 103,none,some 139,none,some 155,none,none,none,none,some 70,some 69,some 115,none,none,some 25,some 29,some 31,none,none,some 97,some 73,none,some 52,some 53,none,none,some 56,some 66,none,some 109,none,none,none,none,none,none,none,some 112,some 138,some 137,some 140,none,none,some 157,none,some 200,none,some 117,some 63,some 62,some 71,none,none,some 120,some 119,none,some 98,some 96,some 102,some 101,some 111,some 110,none,none,none,none,some 134,some 172,some 173,some 174,some 175,none,some 198,some 156,some 105,some 106,some 107,some 108,some 118,some 141,some 143,some 154,some 195,some 196,some 197,some 186,none,some 214,some 199,some 215,some 216,some 217,some 219,some 220,some 218,some 221,some 222,some 223,some 224,some 225,some 226,some 142,some 144,some 145,some 146,some 147,some 148,some 149,some 150,some 152,some 151,some 153,some 244,some 246,some 245,some 254,some 256,some 255,some 258,some 257,some 259,some 260,some 262,some 261,some 263,some 265,some 264,some 176,some 178,some 177,some 179,none,some 182,some 183,some 181,some 184,some 185,some 187,some 189,some 188,some 192,some 191,some 275,some 276,some 227,some 228,some 229,some 230,some 232,some 231,none,some 234,some 236,some 235,some 237,some 238,some 239,some 240,some 267,some 266,some 268,some 269,some 270,none,none,none,none,none,none,none,none,none,none,none,none,none,some 72,none,none,none,none,none,none,none,none,none,none,none,none,none,none,some 158,some 135,some 136,none,none,none,none,none,none,none,none,none,none,none,none,some 271,none,none,none,none,none,none,none,none,none,none,none,none,none,none,none,none,none,none,none,none,none,none,none,none,none,none,none,none,none,none,none,none,none,none,none,none,none,none,none,none,some 5,none,none,none,none,none,none,none,some 3,some 6,some 12,some 11,some 15,some 21,some 35,none,some 22,none,some 23,some 34,none,some 123,none,none,none,none,some 61,some 74,some 75,some 77,some 121,none,none,some 122,some 126,none,none,none,none,none,none,none,none,none,none,none,none,none,none,none,none,none,none,none,none,none,none,none,none,none,none,none,none,none,none,none,none,none,none,none,none,none,none,none,none,none,none,none,none,none,none,none,none,none,none,none]
def Ad:Nat→Option FuncId:=fun g=>ACW.getD g none
theorem Aqp:Tryz.prog.follows .mixedOrders=true:=by kernel_rfl
theorem hFl:ACW.all (fun o=>match o with | some f=>okF Tryz.prog f | none=>true)=true:=by kernel_rfl
theorem hF:∀g f,Ad g=some f→okF Tryz.prog f=true:=by
 intro g f h
 have:=List.all_eq_true.1 hFl (some f) (by
  unfold Ad at h
  rw[List.getD_eq_getElem?_getD]at h
  cases hg:ACW[g]? with
  | none=>simp[hg]at h
  | some o=>simp[hg]at h;subst h;exact List.mem_of_getElem? hg)
 exact this
variable {G0:Gl}
abbrev DE (G0:Gl):Dn:=Den Tryz.prog Ad G0
theorem lk {g:Nat} {f:FuncId} {fn:Func} {st:List Tmp} {sf:Bw} (hg:Ad g=some f) (hfn:Tryz.prog.funcs[f]? =some fn) (hm:BH Tryz.prog Ad st sf fn=true) {a:List V} {gi:List O} {r:V} {o:List O}
 (h:Body (DE G0) sf a gi r o):(DE G0) g a gi r o:=
 AxD Aqp (fun _ _ _ _ _ h=>h) hF (fun id hid=>by rw[hg]at hid;cases hid;exact hfn) hm h
theorem Arm:BH Tryz.prog Ad Anw AbD Tryz.f5=true:=by kernel_rfl
theorem Amz:BH Tryz.prog Ad AiC Ni Tryz.f21=true:=by kernel_rfl
theorem Ajb:BH Tryz.prog Ad AhS OH Tryz.f61=true:=by kernel_rfl
theorem Agq:BH Tryz.prog Ad AcZ MR Tryz.f23=true:=by kernel_rfl
theorem AiK:BH Tryz.prog Ad AfC OG Tryz.f35=true:=by kernel_rfl
theorem Ale:BH Tryz.prog Ad AjD Vj Tryz.f59=true:=by kernel_rfl
theorem AhN:BH Tryz.prog Ad AdF MS Tryz.f74=true:=by kernel_rfl
theorem Al2:BH Tryz.prog Ad Ajt Qy Tryz.f123=true:=by kernel_rfl
theorem Afx:BH Tryz.prog Ad AdD MK Tryz.f121=true:=by kernel_rfl
theorem Agl:BH Tryz.prog Ad Ael MW Tryz.f77=true:=by kernel_rfl
theorem Ae9:BH Tryz.prog Ad AeA MQ Tryz.f126=true:=by kernel_rfl
theorem Afa:BH Tryz.prog Ad Ad3 MN Tryz.f122=true:=by kernel_rfl
theorem AhC:BH Tryz.prog Ad Aeb MO Tryz.f75=true:=by kernel_rfl
theorem Aif:BH Tryz.prog Ad Afp TT Tryz.f159=true:=by kernel_rfl
theorem AfX:BH Tryz.prog Ad Aeu RP Tryz.f160=true:=by kernel_rfl
theorem AaU:BH Tryz.prog Ad Aaa NA Tryz.f161=true:=by kernel_rfl
theorem Af4:BH Tryz.prog Ad Adi Rk Tryz.f124=true:=by kernel_rfl
theorem AnX:BH Tryz.prog Ad AkV Xz Tryz.f27=true:=by kernel_rfl
theorem YK:BH Tryz.prog Ad Yz Mj Tryz.f112=true:=by kernel_rfl
theorem Ah1:BH Tryz.prog Ad Ahx Tz Tryz.f155=true:=by kernel_rfl
theorem Al1:BH Tryz.prog Ad Aic UN Tryz.f113=true:=by kernel_rfl
theorem Yl:BH Tryz.prog Ad WU K4 Tryz.f114=true:=by kernel_rfl
theorem YJ:BH Tryz.prog Ad Ym LP Tryz.f67=true:=by kernel_rfl
theorem AfI:BH Tryz.prog Ad AdT Q6 Tryz.f162=true:=by kernel_rfl
theorem Zq:BH Tryz.prog Ad XY LM Tryz.f163=true:=by kernel_rfl
theorem Ab8:BH Tryz.prog Ad Y4 NT Tryz.f164=true:=by kernel_rfl
theorem Als:BH Tryz.prog Ad Aiy Vo Tryz.f116=true:=by kernel_rfl
theorem Ahv:BH Tryz.prog Ad AdG RF Tryz.f166=true:=by kernel_rfl
theorem AcW:BH Tryz.prog Ad Abl Pq Tryz.f115=true:=by kernel_rfl
theorem Zg:BH Tryz.prog Ad X4 Mh Tryz.f68=true:=by kernel_rfl
theorem Ado:BH Tryz.prog Ad AaQ P6 Tryz.f165=true:=by kernel_rfl
theorem Ags:BH Tryz.prog Ad AeG Ry Tryz.f125=true:=by kernel_rfl
theorem Aef:BH Tryz.prog Ad AbL PE Tryz.f76=true:=by kernel_rfl
theorem AcU:BH Tryz.prog Ad Abi Lp Tryz.f34=true:=by kernel_rfl
theorem ApR:BH Tryz.prog Ad AoV AbR Tryz.f139=true:=by kernel_rfl
theorem Aqf:BH Tryz.prog Ad Aor Abp Tryz.f140=true:=by kernel_rfl
theorem AhR:BH Tryz.prog Ad Adu Rj Tryz.f104=true:=by kernel_rfl
theorem Ark:BH Tryz.prog Ad AnB AaY Tryz.f264=true:=by kernel_rfl
theorem An6:BH Tryz.prog Ad Alw XZ Tryz.f265=true:=by kernel_rfl
theorem Ah6:BH Tryz.prog Ad AgC TP Tryz.f226=true:=by kernel_rfl
theorem AbT:BH Tryz.prog Ad Aaj N8 Tryz.f223=true:=by kernel_rfl
theorem Ajz:BH Tryz.prog Ad Agf Tk Tryz.f221=true:=by kernel_rfl
theorem Ae2:BH Tryz.prog Ad Ad2 RQ Tryz.f258=true:=by kernel_rfl
theorem AgI:BH Tryz.prog Ad Aey QY Tryz.f224=true:=by kernel_rfl
theorem AkM:BH Tryz.prog Ad Ah8 Vn Tryz.f222=true:=by kernel_rfl
theorem Agk:BH Tryz.prog Ad Aeo RU Tryz.f225=true:=by kernel_rfl
theorem Aa3:BH Tryz.prog Ad Aad NW Tryz.f175=true:=by kernel_rfl
theorem Afu:BH Tryz.prog Ad AdC Rv Tryz.f138=true:=by kernel_rfl
theorem AgE:BH Tryz.prog Ad Aec Q0 Tryz.f198=true:=by kernel_rfl
theorem Aem:BH Tryz.prog Ad Aa0 P7 Tryz.f199=true:=by kernel_rfl
theorem Ahc:BH Tryz.prog Ad Aer RI Tryz.f200=true:=by kernel_rfl
theorem Ac4:BH Tryz.prog Ad Abd Qc Tryz.f156=true:=by kernel_rfl
theorem Abk:BH Tryz.prog Ad Aae N9 Tryz.f275=true:=by kernel_rfl
theorem AaT:BH Tryz.prog Ad YR NN Tryz.f276=true:=by kernel_rfl
theorem Yj:BH Tryz.prog Ad WI LA Tryz.f254=true:=by kernel_rfl
theorem Yc:BH Tryz.prog Ad WM KU Tryz.f214=true:=by kernel_rfl
theorem Zh:BH Tryz.prog Ad YB Mf Tryz.f157=true:=by kernel_rfl
theorem YV:BH Tryz.prog Ad Yd Mi Tryz.f117=true:=by kernel_rfl
theorem WX:BH Tryz.prog Ad VK JO Tryz.f70=true:=by kernel_rfl
theorem Afb:BH Tryz.prog Ad Aex RX Tryz.f69=true:=by kernel_rfl
theorem Ac3:BH Tryz.prog Ad AaN Pk Tryz.f256=true:=by kernel_rfl
theorem Aa7:BH Tryz.prog Ad Zt NU Tryz.f255=true:=by kernel_rfl
theorem VB:BH Tryz.prog Ad UH Jg Tryz.f215=true:=by kernel_rfl
theorem Ac5:BH Tryz.prog Ad AaP Pe Tryz.f172=true:=by kernel_rfl
theorem XO:BH Tryz.prog Ad WH KS Tryz.f257=true:=by kernel_rfl
theorem Ww:BH Tryz.prog Ad U9 J7 Tryz.f216=true:=by kernel_rfl
theorem Ad5:BH Tryz.prog Ad Abm P9 Tryz.f259=true:=by kernel_rfl
theorem Abw:BH Tryz.prog Ad YQ N7 Tryz.f217=true:=by kernel_rfl
theorem Zk:BH Tryz.prog Ad XE MG Tryz.f263=true:=by kernel_rfl
theorem Y1:BH Tryz.prog Ad X5 Mc Tryz.f219=true:=by kernel_rfl
theorem Yf:BH Tryz.prog Ad WJ LC Tryz.f220=true:=by kernel_rfl
theorem Wt:BH Tryz.prog Ad VH JN Tryz.f260=true:=by kernel_rfl
theorem UC:BH Tryz.prog Ad Ue Io Tryz.f262=true:=by kernel_rfl
theorem Ab7:BH Tryz.prog Ad ZM Oe Tryz.f261=true:=by kernel_rfl
theorem Ady:BH Tryz.prog Ad AbC Qg Tryz.f218=true:=by kernel_rfl
theorem Adb:BH Tryz.prog Ad AaW Qh Tryz.f173=true:=by kernel_rfl
theorem AfV:BH Tryz.prog Ad AdJ Ru Tryz.f174=true:=by kernel_rfl
theorem Ann:BH Tryz.prog Ad Alj XL Tryz.f137=true:=by kernel_rfl
theorem Ahu:BH Tryz.prog Ad Ac1 QZ Tryz.f103=true:=by kernel_rfl
theorem Ai1:BH Tryz.prog Ad Ahb TJ Tryz.f60=true:=by kernel_rfl
theorem Adg:BH Tryz.prog Ad AbI KM Tryz.f22=true:=by kernel_rfl
theorem Aai:BH Tryz.prog Ad Yq IQ Tryz.f6=true:=by kernel_rfl
theorem Agx:BH Tryz.prog Ad Aeg Q7 Tryz.f58=true:=by kernel_rfl
theorem AjA:BH Tryz.prog Ad Ae4 Uh Tryz.f24=true:=by kernel_rfl
theorem Yk:BH Tryz.prog Ad WC KQ Tryz.f97=true:=by kernel_rfl
theorem WY:BH Tryz.prog Ad Va J4 Tryz.f120=true:=by kernel_rfl
theorem Ny:BH Tryz.prog Ad LY ES Tryz.f158=true:=by kernel_rfl
theorem Lu:BH Tryz.prog Ad Kw En Tryz.f119=true:=by kernel_rfl
theorem Aab:BH Tryz.prog Ad X3 Mq Tryz.f73=true:=by kernel_rfl
theorem AhH:BH Tryz.prog Ad Ad8 QX Tryz.f52=true:=by kernel_rfl
theorem Aaf:BH Tryz.prog Ad Yu Ml Tryz.f134=true:=by kernel_rfl
theorem Y7:BH Tryz.prog Ad XV LZ Tryz.f96=true:=by kernel_rfl
theorem AkK:BH Tryz.prog Ad Ajd Vk Tryz.f86=true:=by kernel_rfl
theorem WN:BH Tryz.prog Ad UL JQ Tryz.f102=true:=by kernel_rfl
theorem Hy:BH Tryz.prog Ad Hg CJ Tryz.f136=true:=by kernel_rfl
theorem Gz:BH Tryz.prog Ad Gs Ck Tryz.f101=true:=by kernel_rfl
theorem ZF:BH Tryz.prog Ad Xq Mk Tryz.f56=true:=by kernel_rfl
theorem YW:BH Tryz.prog Ad Yt LJ Tryz.f187=true:=by kernel_rfl
theorem AcV:BH Tryz.prog Ad AbZ PL Tryz.f186=true:=by kernel_rfl
theorem Ad7:BH Tryz.prog Ad Abs PS Tryz.f147=true:=by kernel_rfl
theorem Arf:BH Tryz.prog Ad AoQ AbN Tryz.f191=true:=by kernel_rfl
theorem Aod:BH Tryz.prog Ad Ami Yn Tryz.f192=true:=by kernel_rfl
theorem AiG:BH Tryz.prog Ad Agd TK Tryz.f152=true:=by kernel_rfl
theorem AbE:BH Tryz.prog Ad AaH Oi Tryz.f148=true:=by kernel_rfl
theorem Aho:BH Tryz.prog Ad Aez Rq Tryz.f189=true:=by kernel_rfl
theorem Hz:BH Tryz.prog Ad Ho CG Tryz.f188=true:=by kernel_rfl
theorem AmD:BH Tryz.prog Ad Ajf UR Tryz.f150=true:=by kernel_rfl
theorem AfE:BH Tryz.prog Ad Aeh Rp Tryz.f149=true:=by kernel_rfl
theorem Y5:BH Tryz.prog Ad XK LX Tryz.f108=true:=by kernel_rfl
theorem AhB:BH Tryz.prog Ad AdW Rh Tryz.f63=true:=by kernel_rfl
theorem Afe:BH Tryz.prog Ad AdY RA Tryz.f141=true:=by kernel_rfl
theorem AbA:BH Tryz.prog Ad Zw Nz Tryz.f143=true:=by kernel_rfl
theorem Qv:BH Tryz.prog Ad Pf FV Tryz.f72=true:=by kernel_rfl
theorem Od:BH Tryz.prog Ad Ng E9 Tryz.f30=true:=by kernel_rfl
theorem Afy:BH Tryz.prog Ad AdU RD Tryz.f246=true:=by kernel_rfl
theorem GD:BH Tryz.prog Ad Gq Cm Tryz.f245=true:=by kernel_rfl
theorem AlZ:BH Tryz.prog Ad AjK VL Tryz.f195=true:=by kernel_rfl
theorem Abx:BH Tryz.prog Ad YP NH Tryz.f197=true:=by kernel_rfl
theorem AhO:BH Tryz.prog Ad Adx Rn Tryz.f154=true:=by kernel_rfl
theorem Ade:BH Tryz.prog Ad Abj Pz Tryz.f110=true:=by kernel_rfl
theorem Qx:BH Tryz.prog Ad Qk FX Tryz.f227=true:=by kernel_rfl
theorem Ac0:BH Tryz.prog Ad Abh Ps Tryz.f267=true:=by kernel_rfl
theorem Ep:BH Tryz.prog Ad Em Bh Tryz.f266=true:=by kernel_rfl
theorem AbM:BH Tryz.prog Ad YH NZ Tryz.f228=true:=by kernel_rfl
theorem XC:BH Tryz.prog Ad Wv Li Tryz.f176=true:=by kernel_rfl
theorem XP:BH Tryz.prog Ad Wu KV Tryz.f142=true:=by kernel_rfl
theorem Y6:BH Tryz.prog Ad XH Md Tryz.f111=true:=by kernel_rfl
theorem WL:BH Tryz.prog Ad U0 J9 Tryz.f66=true:=by kernel_rfl
theorem Ag6:BH Tryz.prog Ad AdL Q5 Tryz.f65=true:=by kernel_rfl
theorem Zx:BH Tryz.prog Ad XU L8 Tryz.f230=true:=by kernel_rfl
theorem Aep:BH Tryz.prog Ad AaS Po Tryz.f178=true:=by kernel_rfl
theorem X7:BH Tryz.prog Ad WK KN Tryz.f229=true:=by kernel_rfl
theorem AaR:BH Tryz.prog Ad YI NQ Tryz.f177=true:=by kernel_rfl
theorem UY:BH Tryz.prog Ad UB Ji Tryz.f144=true:=by kernel_rfl
theorem Adn:BH Tryz.prog Ad AaV Pt Tryz.f105=true:=by kernel_rfl
theorem AdE:BH Tryz.prog Ad Ab4 Qe Tryz.f109=true:=by kernel_rfl
theorem Z7:BH Tryz.prog Ad XM Me Tryz.f64=true:=by kernel_rfl
theorem AbY:BH Tryz.prog Ad Aaz NJ Tryz.f269=true:=by kernel_rfl
theorem AfL:BH Tryz.prog Ad Adq Ri Tryz.f232=true:=by kernel_rfl
theorem Vi:BH Tryz.prog Ad UI Jh Tryz.f268=true:=by kernel_rfl
theorem Xr:BH Tryz.prog Ad WQ KX Tryz.f231=true:=by kernel_rfl
theorem Wz:BH Tryz.prog Ad VN J3 Tryz.f179=true:=by kernel_rfl
theorem Aed:BH Tryz.prog Ad AaZ Px Tryz.f239=true:=by kernel_rfl
theorem AiT:BH Tryz.prog Ad Af6 Um Tryz.f146=true:=by kernel_rfl
theorem AbO:BH Tryz.prog Ad ZQ Oh Tryz.f240=true:=by kernel_rfl
theorem Abo:BH Tryz.prog Ad Aar ND Tryz.f184=true:=by kernel_rfl
theorem Aac:BH Tryz.prog Ad XA LQ Tryz.f237=true:=by kernel_rfl
theorem Oz:BH Tryz.prog Ad Oa Fy Tryz.f238=true:=by kernel_rfl
theorem ZI:BH Tryz.prog Ad Yw LK Tryz.f182=true:=by kernel_rfl
theorem X9:BH Tryz.prog Ad WV Lh Tryz.f183=true:=by kernel_rfl
theorem ZV:BH Tryz.prog Ad Yh Mv Tryz.f53=true:=by kernel_rfl
theorem UF:BH Tryz.prog Ad TL Iu Tryz.f270=true:=by kernel_rfl
theorem Kv:BH Tryz.prog Ad JP D7 Tryz.f135=true:=by kernel_rfl
theorem Jd:BH Tryz.prog Ad IY Dk Tryz.f98=true:=by kernel_rfl
theorem WA:BH Tryz.prog Ad Vq JM Tryz.f234=true:=by kernel_rfl
theorem UK:BH Tryz.prog Ad T9 H7 Tryz.f236=true:=by kernel_rfl
theorem AaL:BH Tryz.prog Ad ZH Ol Tryz.f235=true:=by kernel_rfl
theorem AdR:BH Tryz.prog Ad Abt Qd Tryz.f181=true:=by kernel_rfl
theorem AaX:BH Tryz.prog Ad ZC NM Tryz.f185=true:=by kernel_rfl
theorem Aie:BH Tryz.prog Ad Agn TM Tryz.f145=true:=by kernel_rfl
theorem AdM:BH Tryz.prog Ad AbJ Pg Tryz.f106=true:=by kernel_rfl
theorem AeY:BH Tryz.prog Ad Adc Rm Tryz.f107=true:=by kernel_rfl
theorem Ao6:BH Tryz.prog Ad AlY XJ Tryz.f62=true:=by kernel_rfl
theorem AgM:BH Tryz.prog Ad AcS Rx Tryz.f25=true:=by kernel_rfl
theorem Ah5:BH Tryz.prog Ad Agv Uk Tryz.f7=true:=by kernel_rfl
theorem Ahz:BH Tryz.prog Ad Ac2 RO Tryz.f26=true:=by kernel_rfl
theorem AhD:BH Tryz.prog Ad Ad0 RJ Tryz.f8=true:=by kernel_rfl
theorem Afw:BH Tryz.prog Ad AeD Ra Tryz.f28=true:=by kernel_rfl
theorem AfD:BH Tryz.prog Ad Ads Rs Tryz.f9=true:=by kernel_rfl
theorem Aba:BH Tryz.prog Ad Y9 Og Tryz.f57=true:=by kernel_rfl
theorem AgF:BH Tryz.prog Ad AeB Rz Tryz.f118=true:=by kernel_rfl
theorem AgG:BH Tryz.prog Ad AdO RG Tryz.f71=true:=by kernel_rfl
theorem AnU:BH Tryz.prog Ad Amm Xt Tryz.f29=true:=by kernel_rfl
theorem Ag7:BH Tryz.prog Ad AcO Ro Tryz.f10=true:=by kernel_rfl
theorem X8:BH Tryz.prog Ad WT K9 Tryz.f12=true:=by kernel_rfl
theorem Adl:BH Tryz.prog Ad AbX PK Tryz.f11=true:=by kernel_rfl
theorem AkO:BH Tryz.prog Ad Ajl Ve Tryz.f31=true:=by kernel_rfl
theorem Aa2:BH Tryz.prog Ad YX Om Tryz.f13=true:=by kernel_rfl
theorem VO:BH Tryz.prog Ad UG F6 Tryz.f15=true:=by kernel_rfl
theorem Aee:BH Tryz.prog Ad Aby P5 Tryz.f32=true:=by kernel_rfl
theorem AcR:BH Tryz.prog Ad Aa6 PW Tryz.f33=true:=by kernel_rfl
theorem AbU:BH Tryz.prog Ad Aaq Oc Tryz.f14=true:=by kernel_rfl
theorem AbS:BH Tryz.prog Ad Zc NG Tryz.f3=true:=by kernel_rfl
theorem AsX:AAn (DE G0 460):=by unfold AAn;intros;refine lk (g:=460) rfl Tryz.func5 Arm ?_;apply AEx (DE G0)<;>assumption
theorem Acf:Agh (DE G0 473):=by unfold Agh;intros;refine ABS (R:=Body (DE G0) Ni) (R':=(DE G0) 473) (fun _ _ _ _ h=>lk (g:=473) rfl Tryz.func21 Amz h) ?_;apply AzS (DE G0)<;>assumption
theorem AlT:AeQ (DE G0 486):=by unfold AeQ;intros;refine JJ (R:=Body (DE G0) OH) (R':=(DE G0) 486) (fun _ _ _ _ h=>lk (g:=486) rfl Tryz.func61 Ajb h) ?_;apply AxL (DE G0)<;>assumption
theorem Di:FK (DE G0 478):=by unfold FK;intros;refine JJ (R:=Body (DE G0) MR) (R':=(DE G0) 478) (fun _ _ _ _ h=>lk (g:=478) rfl Tryz.func23 Agq h) ?_;apply Auu (DE G0) AlT<;>assumption
theorem AlR:AeM (DE G0 474):=by unfold AeM;intros;refine JJ (R:=Body (DE G0) OG) (R':=(DE G0) 474) (fun _ _ _ _ h=>lk (g:=474) rfl Tryz.func35 AiK h) ?_;apply AxM (DE G0) Di<;>assumption
theorem Ka:TF (DE G0 159):=by unfold TF;intros;refine lk (g:=159) rfl Tryz.func59 Ale ?_;apply AzD (DE G0)<;>assumption
theorem Ai5:Aao (DE G0 487):=by unfold Aao;intros;refine JJ (R:=Body (DE G0) MS) (R':=(DE G0) 487) (fun _ _ _ _ h=>lk (g:=487) rfl Tryz.func74 AhN h) ?_;apply AuR (DE G0) Di Ka<;>assumption
theorem AcJ:AfP (DE G0 481):=by unfold AfP;intros;refine JJ (R:=Body (DE G0) Qy) (R':=(DE G0) 481) (fun _ _ _ _ h=>lk (g:=481) rfl Tryz.func123 Al2 h) ?_;apply AAS (DE G0) Di<;>assumption
theorem Ajq:Zd (DE G0 490):=by unfold Zd;intros;refine JJ (R:=Body (DE G0) MK) (R':=(DE G0) 490) (fun _ _ _ _ h=>lk (g:=490) rfl Tryz.func121 Afx h) ?_;apply AuQ (DE G0) Di Ka<;>assumption
theorem Xf:Vg (DE G0 489):=by unfold Vg;intros;refine JJ (R:=Body (DE G0) MW) (R':=(DE G0) 489) (fun _ _ _ _ h=>lk (g:=489) rfl Tryz.func77 Agl h) ?_;apply Aup (DE G0) Di AcJ Ka<;>assumption
theorem AjJ:Aas (DE G0 494):=by unfold Aas;intros;refine JJ (R:=Body (DE G0) MQ) (R':=(DE G0) 494) (fun _ _ _ _ h=>lk (g:=494) rfl Tryz.func126 Ae9 h) ?_;apply At4 (DE G0) Di Xf<;>assumption
theorem Ajm:ZP (DE G0 493):=by unfold ZP;intros;refine JJ (R:=Body (DE G0) MN) (R':=(DE G0) 493) (fun _ _ _ _ h=>lk (g:=493) rfl Tryz.func122 Afa h) ?_;apply Atk (DE G0) Di AjJ<;>assumption
theorem Aje:AaB (DE G0 488):=by unfold AaB;intros;refine JJ (R:=Body (DE G0) MO) (R':=(DE G0) 488) (fun _ _ _ _ h=>lk (g:=488) rfl Tryz.func75 AhC h) ?_;apply Att (DE G0) Di AcJ Ajq Ajm Ka<;>assumption
theorem AcX:QB (DE G0 65):=by unfold QB;intros;refine lk (g:=65) rfl Tryz.func159 Aif ?_;apply Axz (DE G0)<;>assumption
theorem Afs:Tt (DE G0 66):=by unfold Tt;intros;refine lk (g:=66) rfl Tryz.func160 AfX ?_;apply AuH (DE G0)<;>assumption
theorem Ah9:V6 (DE G0 67):=by unfold V6;intros;refine lk (g:=67) rfl Tryz.func161 AaU ?_;apply AoN (DE G0)<;>assumption
theorem Ala:Y8 (DE G0 22):=by unfold Y8;intros;refine lk (g:=22) rfl Tryz.func124 Af4 ?_;apply Atf (DE G0) AcX Afs Ah9<;>assumption
theorem FN:Tg (DE G0 71):=by unfold Tg;intros;refine lk (g:=71) rfl Tryz.func27 AnX ?_;apply AB1 (DE G0)<;>assumption
theorem LW:EJ (DE G0 250):=by unfold EJ;intros;refine lk (g:=250) rfl Tryz.func112 YK ?_;apply Aij (DE G0) FN<;>assumption
theorem Ub:V7 (DE G0 217):=by unfold V7;intros;refine lk (g:=217) rfl Tryz.func155 Ah1 ?_;apply Ayi (DE G0) FN<;>assumption
theorem Acg:RB (DE G0 152):=by unfold RB;intros;refine lk (g:=152) rfl Tryz.func113 Al1 ?_;apply Ayb (DE G0) FN Ub<;>assumption
theorem Ea:BG (DE G0 208):=by unfold BG;intros;refine lk (g:=208) rfl Tryz.func114 Yl ?_;apply Ae1 (DE G0) FN<;>assumption
theorem IL:DV (DE G0 207):=by unfold DV;intros;refine lk (g:=207) rfl Tryz.func67 YJ ?_;apply AiM (DE G0) FN LW Acg Ea<;>assumption
theorem AiS:Nk (DE G0 209):=by unfold Nk;intros;refine lk (g:=209) rfl Tryz.func162 AfI ?_;apply ApP (DE G0) FN<;>assumption
theorem VA:IZ (DE G0 210):=by unfold IZ;intros;refine lk (g:=210) rfl Tryz.func163 Zq ?_;apply AmS (DE G0) FN<;>assumption
theorem Adm:Iw (DE G0 145):=by unfold Iw;intros;refine lk (g:=145) rfl Tryz.func164 Ab8 ?_;apply Ak5 (DE G0) FN<;>assumption
theorem Mr:Qw (DE G0 166):=by unfold Qw;intros;refine lk (g:=166) rfl Tryz.func116 Als ?_;apply AAx (DE G0)<;>assumption
theorem AlF:Zb (DE G0 95):=by unfold Zb;intros;refine lk (g:=95) rfl Tryz.func166 Ahv ?_;apply AqM (DE G0)<;>assumption
theorem Af1:Kc (DE G0 224):=by unfold Kc;intros;refine lk (g:=224) rfl Tryz.func115 AcW ?_;apply Anl (DE G0) Mr<;>assumption
theorem LH:EA (DE G0 168):=by unfold EA;intros;refine lk (g:=168) rfl Tryz.func68 Zg ?_;apply AiZ (DE G0) Af1 Ea<;>assumption
theorem Afk:Wh (DE G0 211):=by unfold Wh;intros;refine lk (g:=211) rfl Tryz.func165 Ado ?_;apply Aow (DE G0) LH Ea<;>assumption
theorem AiR:Zf (DE G0 141):=by unfold Zf;intros;refine lk (g:=141) rfl Tryz.func125 Ags ?_;apply Aqh (DE G0) IL Ea AiS VA Adm Mr AlF Afk FN<;>assumption
theorem Ain:V3 (DE G0 70):=by unfold V3;intros;refine lk (g:=70) rfl Tryz.func76 Aef ?_;apply AoW (DE G0) Ala AiR<;>assumption
theorem AeZ:Wo (DE G0 479):=by unfold Wo;intros;refine JJ (R:=Body (DE G0) Lp) (R':=(DE G0) 479) (fun _ _ _ _ h=>lk (g:=479) rfl Tryz.func34 AcU h) ?_;apply ApQ (DE G0) Di Ka Ai5 Aje Xf Ain<;>assumption
theorem AqC:ArJ (DE G0 215):=by unfold ArJ;intros;refine lk (g:=215) rfl Tryz.func139 ApR ?_;apply AB9 (DE G0)<;>assumption
theorem ApI:AsQ (DE G0 253):=by unfold AsQ;intros;refine lk (g:=253) rfl Tryz.func140 Aqf ?_;apply ACd (DE G0)<;>assumption
theorem ApE:Asf (DE G0 212):=by unfold Asf;intros;refine lk (g:=212) rfl Tryz.func104 AhR ?_;apply As6 (DE G0) AqC ApI<;>assumption
theorem Akp:Aib (DE G0 339):=by unfold Aib;intros;refine lk (g:=339) rfl Tryz.func264 Ark ?_;apply ABR (DE G0) FN<;>assumption
theorem X6:UA (DE G0 338):=by unfold UA;intros;refine lk (g:=338) rfl Tryz.func265 An6 ?_;apply AAO (DE G0) Akp<;>assumption
theorem Agb:Xk (DE G0 313):=by unfold Xk;intros;refine lk (g:=313) rfl Tryz.func226 Ah6 ?_;apply AAG (DE G0) X6 Akp<;>assumption
theorem AdZ:HV (DE G0 310):=by unfold HV;intros;refine lk (g:=310) rfl Tryz.func223 AbT ?_;apply AkU (DE G0) Agb<;>assumption
theorem Zj:JH (DE G0 308):=by unfold JH;intros;refine lk (g:=308) rfl Tryz.func221 Ajz ?_;apply Auh (DE G0)<;>assumption
theorem Xo:KJ (DE G0 331):=by unfold KJ;intros;refine lk (g:=331) rfl Tryz.func258 Ae2 ?_;apply Aq3 (DE G0) Mr<;>assumption
theorem YO:MV (DE G0 311):=by unfold MV;intros;refine lk (g:=311) rfl Tryz.func224 AgI ?_;apply As5 (DE G0) Zj Xo<;>assumption
theorem QK:NC (DE G0 309):=by unfold NC;intros;refine lk (g:=309) rfl Tryz.func222 AkM ?_;apply Ayx (DE G0)<;>assumption
theorem JB:EW (DE G0 312):=by unfold EW;intros;refine lk (g:=312) rfl Tryz.func225 Agk ?_;apply Aqr (DE G0) FN Ub QK<;>assumption
theorem AdN:IG (DE G0 283):=by unfold IG;intros;refine lk (g:=283) rfl Tryz.func175 Aa3 ?_;apply Aln (DE G0) AdZ YO JB QK Agb<;>assumption
theorem Ais:Nh (DE G0 251):=by unfold Nh;intros;refine lk (g:=251) rfl Tryz.func138 Afu ?_;apply Ard (DE G0) IL AdN<;>assumption
theorem Fp:Dg (DE G0 285):=by unfold Dg;intros;refine lk (g:=285) rfl Tryz.func198 AgE ?_;apply Aqz (DE G0) Ea JB<;>assumption
theorem Xn:Jz (DE G0 301):=by unfold Jz;intros;refine lk (g:=301) rfl Tryz.func199 Aem ?_;apply Aqn (DE G0) YO<;>assumption
theorem AiU:Nl (DE G0 258):=by unfold Nl;intros;refine lk (g:=258) rfl Tryz.func200 Ahc ?_;apply ApO (DE G0) Acg Fp Mr FN<;>assumption
theorem Ll:EN (DE G0 286):=by unfold EN;intros;refine lk (g:=286) rfl Tryz.func156 Ac4 ?_;apply Anz (DE G0) Fp Xn AiU<;>assumption
theorem Zl:MU (DE G0 355):=by unfold MU;intros;refine lk (g:=355) rfl Tryz.func275 Abk ?_;apply Al6 (DE G0)<;>assumption
theorem Zr:OL (DE G0 356):=by unfold OL;intros;refine lk (g:=356) rfl Tryz.func276 AaT ?_;apply AkW (DE G0) Zl<;>assumption
theorem AfU:Ko (DE G0 328):=by unfold Ko;intros;refine lk (g:=328) rfl Tryz.func254 Yj ?_;apply AhT (DE G0) Zl Zr<;>assumption
theorem ZE:EY (DE G0 300):=by unfold EY;intros;refine lk (g:=300) rfl Tryz.func214 Yc ?_;apply Ahp (DE G0) Ll AfU<;>assumption
theorem Td:Fq (DE G0 256):=by unfold Fq;intros;refine lk (g:=256) rfl Tryz.func157 Zh ?_;apply Ah4 (DE G0)<;>assumption
theorem Sz:FT (DE G0 260):=by unfold FT;intros;refine lk (g:=260) rfl Tryz.func117 YV ?_;apply Aiw (DE G0) Ea Td Ll<;>assumption
theorem PV:DY (DE G0 222):=by unfold DY;intros;refine lk (g:=222) rfl Tryz.func70 WX ?_;apply Adh (DE G0) Ea Sz<;>assumption
theorem Ye:QD (DE G0 223):=by unfold QD;intros;refine lk (g:=223) rfl Tryz.func69 Afb ?_;apply Atl (DE G0) Mr<;>assumption
theorem AgJ:Kg (DE G0 329):=by unfold Kg;intros;refine lk (g:=329) rfl Tryz.func256 Ac3 ?_;apply An4 (DE G0) JB Sz Td Ll Zr<;>assumption
theorem AdQ:H9 (DE G0 330):=by unfold H9;intros;refine lk (g:=330) rfl Tryz.func255 Aa7 ?_;apply Alr (DE G0) Fp Mr<;>assumption
theorem AfS:Kb (DE G0 302):=by unfold Kb;intros;refine lk (g:=302) rfl Tryz.func215 VB ?_;apply Aoo (DE G0) Fp PV Ye AgJ AdQ<;>assumption
theorem Ahr:Kn (DE G0 280):=by unfold Kn;intros;refine lk (g:=280) rfl Tryz.func172 Ac5 ?_;apply AmO (DE G0) Fp ZE Xn AfS<;>assumption
theorem Aaw:FO (DE G0 332):=by unfold FO;intros;refine lk (g:=332) rfl Tryz.func257 XO ?_;apply AhQ (DE G0) LW<;>assumption
theorem Alc:QH (DE G0 303):=by unfold QH;intros;refine lk (g:=303) rfl Tryz.func216 Ww ?_;apply AtH (DE G0) LH Fp Xo Aaw<;>assumption
theorem UZ:G6 (DE G0 333):=by unfold G6;intros;refine lk (g:=333) rfl Tryz.func259 Ad5 ?_;apply Anq (DE G0) FN JB<;>assumption
theorem Adf:IE (DE G0 304):=by unfold IE;intros;refine lk (g:=304) rfl Tryz.func217 Abw ?_;apply Ama (DE G0) QK LW Fp UZ Mr<;>assumption
theorem Te:Fj (DE G0 337):=by unfold Fj;intros;refine lk (g:=337) rfl Tryz.func263 Zk ?_;apply AjM (DE G0) JB<;>assumption
theorem AaK:Gt (DE G0 305):=by unfold Gt;intros;refine lk (g:=305) rfl Tryz.func219 Y1 ?_;apply Ajk (DE G0) Fp Te<;>assumption
theorem YN:FR (DE G0 306):=by unfold FR;intros;refine lk (g:=306) rfl Tryz.func220 Yf ?_;apply Agi (DE G0) UZ Te<;>assumption
theorem Xg:Jv (DE G0 334):=by unfold Jv;intros;refine lk (g:=334) rfl Tryz.func260 Wt ?_;apply ApS (DE G0) Ub<;>assumption
theorem Adp:H8 (DE G0 335):=by unfold H8;intros;refine lk (g:=335) rfl Tryz.func262 UC ?_;apply Amo (DE G0) Xg X6<;>assumption
theorem An9:Vf (DE G0 336):=by unfold Vf;intros;refine lk (g:=336) rfl Tryz.func261 Ab7 ?_;apply Av7 (DE G0) X6<;>assumption
theorem Ak8:OE (DE G0 307):=by unfold OE;intros;refine lk (g:=307) rfl Tryz.func218 Ady ?_;apply Auz (DE G0) VA Xg FN Adp An9<;>assumption
theorem AgT:Kj (DE G0 281):=by unfold Kj;intros;refine lk (g:=281) rfl Tryz.func173 Adb ?_;apply AnG (DE G0) Ll Alc Adf AaK YN Ak8 Zj<;>assumption
theorem AjE:M8 (DE G0 282):=by unfold M8;intros;refine lk (g:=282) rfl Tryz.func174 AfV ?_;apply AqE (DE G0) Ye QK FN<;>assumption
theorem AqD:AcC (DE G0 252):=by unfold AcC;intros;refine lk (g:=252) rfl Tryz.func137 Ann ?_;apply AAt (DE G0) Ahr AgT AjE<;>assumption
theorem AiX:Nn (DE G0 213):=by unfold Nn;intros;refine lk (g:=213) rfl Tryz.func103 Ahu ?_;apply ApA (DE G0) IL Ais AqD<;>assumption
theorem Al8:QE (DE G0 142):=by unfold QE;intros;refine lk (g:=142) rfl Tryz.func60 Ai1 ?_;apply AtY (DE G0) FN ApE AiX<;>assumption
theorem Xj:UW (DE G0 476):=by unfold UW;intros;refine JJ (R:=Body (DE G0) KM) (R':=(DE G0) 476) (fun _ _ _ _ h=>lk (g:=476) rfl Tryz.func22 Adg h) ?_;apply At8 (DE G0) Di AlR AeZ Ka Al8<;>assumption
theorem Aa5:QF (DE G0 469):=by unfold QF;intros;refine An3 (R:=Body (DE G0) IQ) (R':=(DE G0) 469) (fun _ _ _ _ h=>lk (g:=469) rfl Tryz.func6 Aai h) ?_;apply Ak7 (DE G0) Acf Di Xj<;>assumption
theorem EF:Tg (DE G0 114):=by unfold Tg;intros;refine lk (g:=114) rfl Tryz.func58 Agx ?_;apply Au9 (DE G0)<;>assumption
theorem OI:TW (DE G0 117):=by unfold TW;intros;refine lk (g:=117) rfl Tryz.func24 AjA ?_;apply Awf (DE G0) EF<;>assumption
theorem FM:BG (DE G0 232):=by unfold BG;intros;refine lk (g:=232) rfl Tryz.func97 Yk ?_;apply Ahf (DE G0) EF<;>assumption
theorem Z8:OP (DE G0 266):=by unfold OP;intros;refine lk (g:=266) rfl Tryz.func120 WY ?_;apply AjH (DE G0) EF<;>assumption
theorem AcT:Tp (DE G0) (DE G0 404):=by unfold Tp;intros;refine lk (g:=404) rfl Tryz.func158 Ny ?_;apply AmY (DE G0)<;>assumption
theorem Pm:JA (DE G0) (DE G0 267):=by unfold JA;intros;refine lk (g:=267) rfl Tryz.func119 Lu ?_;apply Ae0 (DE G0) AcT<;>assumption
theorem Gm:Gu (DE G0 233):=by unfold Gu;intros;refine lk (g:=233) rfl Tryz.func73 Aab ?_;apply Ak2 (DE G0) Z8 Pm<;>assumption
theorem AiQ:Nk (DE G0 235):=by unfold Nk;intros;refine lk (g:=235) rfl Tryz.func52 AhH ?_;apply Arw (DE G0) Gm<;>assumption
theorem SL:EJ (DE G0 279):=by unfold EJ;intros;refine lk (g:=279) rfl Tryz.func134 Aaf ?_;apply Ajw (DE G0) EF<;>assumption
theorem Sk:M6 (DE G0 270):=by unfold M6;intros;refine lk (g:=270) rfl Tryz.func96 Y7 ?_;apply Aih (DE G0) SL Pm<;>assumption
theorem Ace:RB (DE G0 183):=by unfold RB;intros;refine lk (g:=183) rfl Tryz.func86 AkK ?_;apply AwU (DE G0) EF Gm<;>assumption
theorem YM:OT (DE G0 271):=by unfold OT;intros;refine lk (g:=271) rfl Tryz.func102 WN ?_;apply AiE (DE G0) Ace<;>assumption
theorem XG:ML (DE G0) (DE G0 406):=by unfold ML;intros;refine lk (g:=406) rfl Tryz.func136 Hy ?_;apply Ag5 (DE G0)<;>assumption
theorem UJ:IU (DE G0) (DE G0 272):=by unfold IU;intros;refine lk (g:=272) rfl Tryz.func101 Gz ?_;apply Zy (DE G0) XG<;>assumption
theorem MF:DV (DE G0 239):=by unfold DV;intros;refine lk (g:=239) rfl Tryz.func56 ZF ?_;apply Ai9 (DE G0) FM AiQ Sk YM UJ EF<;>assumption
theorem Air:ZL (DE G0 350):=by unfold ZL;intros;refine lk (g:=350) rfl Tryz.func187 YW ?_;apply AnQ (DE G0)<;>assumption
theorem Ic:Kk (DE G0) (DE G0 298):=by unfold Kk;intros;refine lk (g:=298) rfl Tryz.func186 AcV ?_;apply ApB (DE G0)<;>assumption
theorem Z9:MV (DE G0 318):=by unfold MV;intros;refine lk (g:=318) rfl Tryz.func147 Ad7 ?_;apply Ari (DE G0) Air Ic<;>assumption
theorem AkC:Aib (DE G0 354):=by unfold Aib;intros;refine lk (g:=354) rfl Tryz.func191 Arf ?_;apply ACo (DE G0) EF<;>assumption
theorem Yi:UA (DE G0 353):=by unfold UA;intros;refine lk (g:=353) rfl Tryz.func192 Aod ?_;apply AzO (DE G0) AkC<;>assumption
theorem Afv:Xk (DE G0 322):=by unfold Xk;intros;refine lk (g:=322) rfl Tryz.func152 AiG ?_;apply Az8 (DE G0) Yi AkC<;>assumption
theorem AeF:HV (DE G0 319):=by unfold HV;intros;refine lk (g:=319) rfl Tryz.func148 AbE ?_;apply AkY (DE G0) Afv<;>assumption
theorem Alq:AeS (DE G0 351):=by unfold AeS;intros;refine lk (g:=351) rfl Tryz.func189 Aho ?_;apply AxA (DE G0)<;>assumption
theorem Qm:Jp (DE G0) (DE G0 352):=by unfold Jp;intros;refine lk (g:=352) rfl Tryz.func188 Hz ?_;apply AfH (DE G0)<;>assumption
theorem Aci:NC (DE G0 321):=by unfold NC;intros;refine lk (g:=321) rfl Tryz.func150 AmD ?_;apply AxX (DE G0) Alq Qm<;>assumption
theorem Jq:EW (DE G0 320):=by unfold EW;intros;refine lk (g:=320) rfl Tryz.func149 AfE ?_;apply Arj (DE G0) EF Aci Gm<;>assumption
theorem Alu:AmC (DE G0 323):=AnE (k:=151) rfl (fun b o c w=>Go.Eng.Ins.AFk b o c w) (fun b o c v w h=>Go.Eng.Ins.AFc b o c v w h) (fun b o c v w h=>Go.Eng.Ins.AFC b o c v w h)
theorem AlB:AkP (DE G0 324):=Ao2 (k:=153) rfl Go.Eng.Ins.AFp
theorem Aea:IG (DE G0 290):=by unfold IG;intros;refine lk (g:=290) rfl Tryz.func108 Y5 ?_;apply AkQ (DE G0) Z9 AeF Jq Aci Afv Alu AlB<;>assumption
theorem AiN:Nh (DE G0 261):=by unfold Nh;intros;refine lk (g:=261) rfl Tryz.func63 AhB ?_;apply Aqj (DE G0) MF Aea<;>assumption
theorem FW:Dg (DE G0 292):=by unfold Dg;intros;refine lk (g:=292) rfl Tryz.func141 Afe ?_;apply Ars (DE G0) FM Jq<;>assumption
theorem Xb:Jz (DE G0 293):=by unfold Jz;intros;refine lk (g:=293) rfl Tryz.func143 AbA ?_;apply AmN (DE G0) Z9<;>assumption
theorem Au7:ACI (DE G0 325):=AzC (k:=244) rfl (fun b off n c zs w h1 h2 h3 h4=>Tryz.slices_Max_int b off n c zs w h1 h2 h3 h4)
theorem Aoj:Ame (DE G0 389):=by unfold Ame;intros;refine lk (g:=389) rfl Tryz.func72 Qv ?_;apply AzR (DE G0)<;>assumption
theorem I4:Qw (DE G0 188):=by unfold Qw;intros;refine lk (g:=188) rfl Tryz.func30 Od ?_;apply AqX (DE G0) Aoj<;>assumption
theorem AkN:AeI (DE G0 326):=by unfold AeI;intros;refine lk (g:=326) rfl Tryz.func246 Afy ?_;apply AxV (DE G0) I4 EF<;>assumption
theorem UD:I5 (DE G0) (DE G0 327):=by unfold I5;intros;refine lk (g:=327) rfl Tryz.func245 GD ?_;apply Zp (DE G0) Qm<;>assumption
theorem An7:AkR (DE G0 295):=by unfold AkR;intros;refine lk (g:=295) rfl Tryz.func195 AlZ ?_;apply AzB (DE G0) Au7 AkN UD<;>assumption
theorem AnS:ArD (DE G0 296):=Atn (k:=196) rfl (fun n c w=>Tryz.slices_Clone_int_nil n c w) (fun a c w=>Tryz.slices_Clone_int_zero a c w) (fun b off n c zs w h1 h2 h3=>Tryz.slices_Clone_int b off n c zs w h1 h2 h3)
theorem AgK:V5 (DE G0 297):=by unfold V5;intros;refine lk (g:=297) rfl Tryz.func197 Abx ?_;apply Aqv (DE G0) I4<;>assumption
theorem Ajc:Nl (DE G0 294):=by unfold Nl;intros;refine lk (g:=294) rfl Tryz.func154 AhO ?_;apply Aru (DE G0) Ace FW An7 AnS AgK Ic<;>assumption
theorem KH:EN (DE G0 274):=by unfold EN;intros;refine lk (g:=274) rfl Tryz.func110 Ade ?_;apply AoO (DE G0) FW Xb Ajc<;>assumption
theorem Y2:MU (DE G0 357):=by unfold MU;intros;refine lk (g:=357) rfl Tryz.func227 Qx ?_;apply AwG (DE G0)<;>assumption
theorem AhL:SQ (DE G0 371):=by unfold SQ;intros;refine lk (g:=371) rfl Tryz.func267 Ac0 ?_;apply Aq7 (DE G0) Y2<;>assumption
theorem Adw:Tx (DE G0) (DE G0 372):=by unfold Tx;intros;refine lk (g:=372) rfl Tryz.func266 Ep ?_;apply An5 (DE G0)<;>assumption
theorem Al9:OL (DE G0 358):=by unfold OL;intros;refine lk (g:=358) rfl Tryz.func228 AbM ?_;apply Alk (DE G0) AhL Adw<;>assumption
theorem AfO:Ko (DE G0 340):=by unfold Ko;intros;refine lk (g:=340) rfl Tryz.func176 XC ?_;apply AfZ (DE G0) Y2 Al9<;>assumption
theorem QV:EY (DE G0 314):=by unfold EY;intros;refine lk (g:=314) rfl Tryz.func142 XP ?_;apply AgQ (DE G0) KH AfO<;>assumption
theorem Sr:Fq (DE G0 273):=by unfold Fq;intros;refine lk (g:=273) rfl Tryz.func111 Y6 ?_;apply Ait (DE G0)<;>assumption
theorem Pv:DY (DE G0 240):=by unfold DY;intros;refine lk (g:=240) rfl Tryz.func66 WL ?_;apply Ad9 (DE G0) FM Sr KH<;>assumption
theorem PD:QD (DE G0 189):=by unfold QD;intros;refine lk (g:=189) rfl Tryz.func65 Ag6 ?_;apply Aqi (DE G0) I4<;>assumption
theorem Aa4:FT (DE G0 360):=by unfold FT;intros;refine lk (g:=360) rfl Tryz.func230 Zx ?_;apply Aix (DE G0) FM Sr KH<;>assumption
theorem AgX:Kg (DE G0 341):=by unfold Kg;intros;refine lk (g:=341) rfl Tryz.func178 Aep ?_;apply Ank (DE G0) Jq Aa4 QV<;>assumption
theorem Abu:QS (DE G0 359):=by unfold QS;intros;refine lk (g:=359) rfl Tryz.func229 X7 ?_;apply Amk (DE G0) I4<;>assumption
theorem AdP:H9 (DE G0 342):=by unfold H9;intros;refine lk (g:=342) rfl Tryz.func177 AaR ?_;apply Alp (DE G0) FW PD Abu Ic<;>assumption
theorem Ahs:Kb (DE G0 315):=by unfold Kb;intros;refine lk (g:=315) rfl Tryz.func144 UY ?_;apply Am9 (DE G0) Pv PD AgX AdP<;>assumption
theorem Ae8:Kn (DE G0 287):=by unfold Kn;intros;refine lk (g:=287) rfl Tryz.func105 Adn ?_;apply AnD (DE G0) FW QV Xb Ahs<;>assumption
theorem Ahy:Kc (DE G0 242):=by unfold Kc;intros;refine lk (g:=242) rfl Tryz.func109 AdE ?_;apply Am8 (DE G0) I4<;>assumption
theorem SA:EA (DE G0 190):=by unfold EA;intros;refine lk (g:=190) rfl Tryz.func64 Z7 ?_;apply AjB (DE G0) Ahy FM<;>assumption
theorem AgB:VT (DE G0 374):=by unfold VT;intros;refine lk (g:=374) rfl Tryz.func269 AbY ?_;apply ApN (DE G0) I4<;>assumption
theorem Aiu:KJ (DE G0 361):=by unfold KJ;intros;refine lk (g:=361) rfl Tryz.func232 AfL ?_;apply Apu (DE G0) AgB Ic<;>assumption
theorem Aej:TG (DE G0 373):=by unfold TG;intros;refine lk (g:=373) rfl Tryz.func268 Vi ?_;apply Agg (DE G0) SL<;>assumption
theorem ZU:FO (DE G0 362):=by unfold FO;intros;refine lk (g:=362) rfl Tryz.func231 Xr ?_;apply Ahw (DE G0) Aej Ic<;>assumption
theorem AlA:QH (DE G0 343):=by unfold QH;intros;refine lk (g:=343) rfl Tryz.func179 Wz ?_;apply As1 (DE G0) SA FW Aiu ZU<;>assumption
theorem Vx:G6 (DE G0 369):=by unfold G6;intros;refine lk (g:=369) rfl Tryz.func239 Aed ?_;apply Ana (DE G0) EF Jq<;>assumption
theorem OO:JH (DE G0 317):=by unfold JH;intros;refine lk (g:=317) rfl Tryz.func146 AiT ?_;apply AuP (DE G0)<;>assumption
theorem Aei:Tv (DE G0 370):=by unfold Tv;intros;refine lk (g:=370) rfl Tryz.func240 AbO ?_;apply AlQ (DE G0) OO Sk<;>assumption
theorem AdI:IE (DE G0 348):=by unfold IE;intros;refine lk (g:=348) rfl Tryz.func184 Abo ?_;apply AlC (DE G0) FW Vx I4 OO PD Aei<;>assumption
theorem SS:Fj (DE G0 367):=by unfold Fj;intros;refine lk (g:=367) rfl Tryz.func237 Aac ?_;apply Aiv (DE G0) Jq<;>assumption
theorem AqO:AwJ (DE G0 419):=Atw (k:=271) rfl (fun w=>Go.Eng.Ins.AD9 w) (fun n w h1 h2=>Go.Eng.Ins.AEC n w h1 h2)
theorem Zz:Aat (DE G0 368):=by unfold Aat;intros;refine lk (g:=368) rfl Tryz.func238 Oz ?_;apply Awr (DE G0) AqO<;>assumption
theorem Abz:Gt (DE G0 345):=by unfold Gt;intros;refine lk (g:=345) rfl Tryz.func182 ZI ?_;apply AjG (DE G0) FW SS Zz<;>assumption
theorem ZJ:FR (DE G0 346):=by unfold FR;intros;refine lk (g:=346) rfl Tryz.func183 X9 ?_;apply Afr (DE G0) Vx SS<;>assumption
theorem Afh:IZ (DE G0 236):=by unfold IZ;intros;refine lk (g:=236) rfl Tryz.func53 ZV ?_;apply Aoe (DE G0) EF<;>assumption
theorem Ag1:Wn (DE G0 375):=by unfold Wn;intros;refine lk (g:=375) rfl Tryz.func270 UF ?_;apply Aq1 (DE G0) Gm<;>assumption
theorem WO:KF (DE G0) (DE G0 405):=by unfold KF;intros;refine lk (g:=405) rfl Tryz.func135 Kv ?_;apply AeE (DE G0)<;>assumption
theorem TQ:Hw (DE G0) (DE G0 269):=by unfold Hw;intros;refine lk (g:=269) rfl Tryz.func98 Jd ?_;apply Yo (DE G0) WO<;>assumption
theorem Xh:Jv (DE G0 364):=by unfold Jv;intros;refine lk (g:=364) rfl Tryz.func234 WA ?_;apply Aq6 (DE G0) Ag1 TQ<;>assumption
theorem Ad6:H8 (DE G0 365):=by unfold H8;intros;refine lk (g:=365) rfl Tryz.func236 UK ?_;apply Amj (DE G0) Xh Yi<;>assumption
theorem Am0:Vf (DE G0 366):=by unfold Vf;intros;refine lk (g:=366) rfl Tryz.func235 AaL ?_;apply Awv (DE G0) Zz Yi<;>assumption
theorem AaG:OE (DE G0 347):=by unfold OE;intros;refine lk (g:=347) rfl Tryz.func181 AdR ?_;apply Au4 (DE G0) Afh Xh EF Ad6 Am0<;>assumption
theorem Adt:Uc (DE G0 349):=by unfold Uc;intros;refine lk (g:=349) rfl Tryz.func185 AaX ?_;apply AlH (DE G0) AaG<;>assumption
theorem AnK:AlE (DE G0 316):=by unfold AlE;intros;refine lk (g:=316) rfl Tryz.func145 Aie ?_;apply AA5 (DE G0) AlA AdI Abz ZJ AaG Adt OO<;>assumption
theorem Ahh:Kj (DE G0 288):=by unfold Kj;intros;refine lk (g:=288) rfl Tryz.func106 AdM ?_;apply AoX (DE G0) KH AnK<;>assumption
theorem Ai7:M8 (DE G0 289):=by unfold M8;intros;refine lk (g:=289) rfl Tryz.func107 AeY ?_;apply AqV (DE G0) PD OO EF<;>assumption
theorem ArB:AcC (DE G0 262):=by unfold AcC;intros;refine lk (g:=262) rfl Tryz.func62 Ao6 ?_;apply Az7 (DE G0) Ae8 Ahh Ai7<;>assumption
theorem Ajg:Nn (DE G0 227):=by unfold Nn;intros;refine lk (g:=227) rfl Tryz.func25 AgM ?_;apply ApZ (DE G0) MF AiN ArB<;>assumption
theorem AlU:QE (DE G0 173):=by unfold QE;intros;refine lk (g:=173) rfl Tryz.func7 Ah5 ?_;apply Auc (DE G0) OI Ajg<;>assumption
theorem AiV:Nw (DE G0 186):=by unfold Nw;intros;refine lk (g:=186) rfl Tryz.func26 Ahz ?_;apply Aqs (DE G0) MF Pv PD SA<;>assumption
theorem Ajr:Nt (DE G0 119):=by unfold Nt;intros;refine lk (g:=119) rfl Tryz.func8 AhD ?_;apply Aqw (DE G0) OI AiV<;>assumption
theorem AiF:Nw (DE G0 165):=by unfold Nw;intros;refine lk (g:=165) rfl Tryz.func28 Afw ?_;apply AqP (DE G0) IL PV Ye LH<;>assumption
theorem Alz:Nt (DE G0 92):=by unfold Nt;intros;refine lk (g:=92) rfl Tryz.func9 AfD ?_;apply Ap5 (DE G0) FN AiF<;>assumption
theorem AdB:Iw (DE G0 176):=by unfold Iw;intros;refine lk (g:=176) rfl Tryz.func57 Aba ?_;apply Alv (DE G0) EF<;>assumption
theorem AjN:AaF (DE G0 291):=by unfold AaF;intros;refine lk (g:=291) rfl Tryz.func118 AgF ?_;apply ApW (DE G0) EF<;>assumption
theorem Ai4:Aap (DE G0 263):=by unfold Aap;intros;refine lk (g:=263) rfl Tryz.func71 AgG ?_;apply Aqx (DE G0) AdB EF AjN<;>assumption
theorem Aq5:Asg (DE G0 228):=by unfold Asg;intros;refine lk (g:=228) rfl Tryz.func29 AnU ?_;apply Azp (DE G0) Ai4<;>assumption
theorem AiP:Aak (DE G0 174):=by unfold Aak;intros;refine lk (g:=174) rfl Tryz.func10 Ag7 ?_;apply Aq4 (DE G0) OI Aq5 I4<;>assumption
theorem ZA:OB (DE G0 470):=by unfold OB;intros;refine lk (g:=470) rfl Tryz.func12 X8 ?_;apply Afd (DE G0) OI<;>assumption
theorem AhJ:containsS (DE G0 471):=by unfold containsS;intros;refine lk (g:=471) rfl Tryz.func11 Adl ?_;apply ApG (DE G0)<;>assumption
theorem Uw:Gy (DE G0 229):=by unfold Gy;intros;refine lk (g:=229) rfl Tryz.func31 AkO ?_;apply AAM (DE G0) I4<;>assumption
theorem Aes:Gy (DE G0 175):=by unfold Gy;intros;refine lk (g:=175) rfl Tryz.func13 Aa2 ?_;apply Amv (DE G0) Uw<;>assumption
theorem Wx:Ls (DE G0 472):=by unfold Ls;intros;refine An3 (R:=Body (DE G0) F6) (R':=(DE G0) 472) (fun _ _ _ _ h=>lk (g:=472) rfl Tryz.func15 VO h) ?_;apply AdS (DE G0) Acf Xj<;>assumption
theorem AhE:Wl (DE G0 193):=by unfold Wl;intros;refine lk (g:=193) rfl Tryz.func32 Aee ?_;apply AoI (DE G0) Uw<;>assumption
theorem Aha:VU (DE G0 194):=by unfold VU;intros;refine lk (g:=194) rfl Tryz.func33 AcR ?_;apply AnO (DE G0) Gm EF<;>assumption
theorem Ad4:TH (DE G0 127):=by unfold TH;intros;refine lk (g:=127) rfl Tryz.func14 AbU ?_;apply AmA (DE G0) AhE Aha<;>assumption
theorem AcP:Yb (DE G0 468):=by unfold Yb;intros;refine lk (g:=468) rfl Tryz.func3 AbS ?_;apply AoG (DE G0) AsX Aa5 AlU Ajr Alz AiP ZA AhJ Aes Wx Ad4<;>assumption
theorem den (G0:Gl) (av:List V) (h:Ae7 av):DE G0 468 av [] (B true) []:=by
 obtain⟨bs,hb,rfl⟩:=AFt h
 exact AcP bs hb
end Go.Eng.T
