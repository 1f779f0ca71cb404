/- Own work: part 50 of the proof of FnStages. -/
import Derived.Test.YtdgpapmladligaaGreatP49
import Derived.Test.YtdgpapmladligaaGreatProg
import Derived.KernelRfl
set_option linter.unusedSimpArgs false
set_option linter.unusedVariables false
namespace Go.Eng.T
open Go.Proofs
set_option maxRecDepth 100000
def Avz:List (Option Nat):=[none,none,none,none,none,none,none,none,none,none,none,none,none,none,none,none,none,none,none,none,none,none,some 125,none,none,none,none,none,none,none,none,none,none,none,none,none,none,none,some 58,none,none,none,none,none,none,none,none,none,none,none,none,none,none,none,none,none,none,none,none,none,none,none,none,none,none,some 179,some 180,some 127,none,none,some 186,some 79,none,none,none,none,none,none,none,none,none,none,none,none,none,none,none,none,none,none,none,none,none,none,none,some 78,none,none,none,none,none,some 140,some 141,some 129,none,none,none,none,none,none,none,none,none,none,some 70,none,none,some 90,none,none,none,some 18,none,some 63,none,none,none,none,none,none,none,none,none,none,none,none,none,none,none,none,none,some 14,some 46,none,none,some 75,none,none,none,none,none,none,some 152,none,none,none,none,none,none,some 139,none,none,none,none,none,none,some 76,none,some 103,none,none,none,some 190,none,some 35,none,some 15,some 11,none,none,some 12,none,none,some 149,some 13,none,none,none,some 69,some 61,some 20,none,none,none,none,none,none,none,none,none,none,none,none,none,none,none,none,some 71,some 72,some 73,some 74,some 77,some 115,some 114,none,some 176,none,some 197,none,none,none,none,some 163,some 162,some 168,none,none,none,some 59,none,some 60,none,some 81,some 145,some 62,some 64,some 65,some 67,some 66,some 68,none,none,some 82,none,none,none,none,none,none,none,some 151,some 175,some 174,some 177,none,none,some 250,none,some 299,none,some 210,none,none,some 17,some 142,none,some 195,some 194,some 144,some 143,some 147,some 148,some 86,none,none,none,none,none,none,some 196,some 216,some 217,some 218,some 219,none,some 254,some 249,none,none,none,none,some 80,none,none,none,none,none,none,none,none,some 255,some 256,some 257,some 258,some 259,some 261,some 262,some 260,some 263,some 264,some 265,some 266,some 267,some 268,none,none,none,none,none,none,none,none,none,none,none,none,none,none,some 300,some 302,some 301,some 304,some 303,some 305,some 306,some 308,some 307,some 309,some 311,some 310,none,none,none,none,none,none,none,none,none,none,none,none,none,none,none,some 332,some 333,none,none,none,none,none,none,none,none,none,none,none,none,none,none,none,none,none,none,none,none,none,none,none,none,none,none,none,none,none,none,none,none,some 150,none,none,none,some 146,none,none,none,none,none,none,none,none,none,none,some 224,some 193,some 157,none,none,none,none,none,none,none,none,none,none,none,none,none,none,none,none,none,none,none,none,none,none,none,none,none,none,none,some 16,none,none,none,none,none,none,none,none,none,none,none,none,none,none,none,none,none,none,none,none,none,none,none,none,some 3,some 9,some 10,some 19,some 21,none,none,none,none,none,none,none,some 36,none,some 54,some 55,some 56,some 57,none,some 89,some 134,some 135,some 136,some 137,some 138,none,none,some 158,some 184,some 185,some 187,some 188,some 189,none,some 221,some 222,none,none,none,none,none,none,none,none,none,none,none,none,none,none,none,none]
def Ai:Nat→Option FuncId:=fun g=>Avz.getD g none
theorem Akh:Tryz.prog.follows .mixedOrders=true:=by kernel_rfl
theorem hFl:Avz.all (fun o=>match o with | some f=>okF Tryz.prog f | none=>true)=true:=by kernel_rfl
theorem hF:∀g f,Ai g=some f→okF Tryz.prog f=true:=by
 intro g f h
 have:=List.all_eq_true.1 hFl (some f) (by
  unfold Ai at h
  rw[List.getD_eq_getElem?_getD]at h
  cases hg:Avz[g]? with
  | none=>simp[hg]at h
  | some o=>simp[hg]at h;subst h;exact List.mem_of_getElem? hg)
 exact this
variable {G0:Gl}
abbrev DE (G0:Gl):Dn:=Den Tryz.prog Ai G0
theorem lk {g:Nat} {f:FuncId} {fn:Func} {st:List Tmp} {sf:Ch} (hg:Ai g=some f) (hfn:Tryz.prog.funcs[f]? =some fn) (hm:CJ Tryz.prog Ai st sf fn=true) {a:List V} {gi:List O} {r:V} {o:List O}
 (h:Body (DE G0) sf a gi r o):(DE G0) g a gi r o:=
 Ap1 Akh (fun _ _ _ _ _ h=>h) hF (fun id hid=>by rw[hg]at hid;cases hid;exact hfn) hm h
theorem Akc:CJ Tryz.prog Ai AgY XP Tryz.f9=true:=by kernel_rfl
theorem Ae8:CJ Tryz.prog Ai Adu KR Tryz.f54=true:=by kernel_rfl
theorem Ac7:CJ Tryz.prog Ai Acj Lm Tryz.f158=true:=by kernel_rfl
theorem Abm:CJ Tryz.prog Ai ZJ Kc Tryz.f89=true:=by kernel_rfl
theorem Ad0:CJ Tryz.prog Ai AbF LF Tryz.f55=true:=by kernel_rfl
theorem Afj:CJ Tryz.prog Ai AdD Ng Tryz.f136=true:=by kernel_rfl
theorem Af9:CJ Tryz.prog Ai AcU Rn Tryz.f139=true:=by kernel_rfl
theorem Aap:CJ Tryz.prog Ai Za Km Tryz.f184=true:=by kernel_rfl
theorem AaB:CJ Tryz.prog Ai Ze Kg Tryz.f188=true:=by kernel_rfl
theorem Acu:CJ Tryz.prog Ai Zr Ke Tryz.f187=true:=by kernel_rfl
theorem Aa5:CJ Tryz.prog Ai Y9 Kl Tryz.f222=true:=by kernel_rfl
theorem Acy:CJ Tryz.prog Ai YA Kn Tryz.f221=true:=by kernel_rfl
theorem Acg:CJ Tryz.prog Ai Zb Ki Tryz.f185=true:=by kernel_rfl
theorem Ac3:CJ Tryz.prog Ai Aau Px Tryz.f179=true:=by kernel_rfl
theorem Aco:CJ Tryz.prog Ai YM NS Tryz.f180=true:=by kernel_rfl
theorem X7:CJ Tryz.prog Ai Wl K9 Tryz.f127=true:=by kernel_rfl
theorem Abh:CJ Tryz.prog Ai YV NQ Tryz.f125=true:=by kernel_rfl
theorem AhT:CJ Tryz.prog Ai Af2 Uj Tryz.f79=true:=by kernel_rfl
theorem V5:CJ Tryz.prog Ai Ur JP Tryz.f151=true:=by kernel_rfl
theorem Ac0:CJ Tryz.prog Ai Aav Pj Tryz.f197=true:=by kernel_rfl
theorem AgG:CJ Tryz.prog Ai AdQ Qz Tryz.f152=true:=by kernel_rfl
theorem Uu:CJ Tryz.prog Ai Sj I8 Tryz.f72=true:=by kernel_rfl
theorem WC:CJ Tryz.prog Ai UB JJ Tryz.f71=true:=by kernel_rfl
theorem AaJ:CJ Tryz.prog Ai Yz Nk Tryz.f73=true:=by kernel_rfl
theorem Vn:CJ Tryz.prog Ai Uw JM Tryz.f74=true:=by kernel_rfl
theorem W9:CJ Tryz.prog Ai Wt KT Tryz.f75=true:=by kernel_rfl
theorem Afl:CJ Tryz.prog Ai Adc Rj Tryz.f76=true:=by kernel_rfl
theorem Acl:CJ Tryz.prog Ai ZA NK Tryz.f78=true:=by kernel_rfl
theorem Y6:CJ Tryz.prog Ai XI Mh Tryz.f168=true:=by kernel_rfl
theorem VF:CJ Tryz.prog Ai TM JQ Tryz.f103=true:=by kernel_rfl
theorem Y1:CJ Tryz.prog Ai WU LV Tryz.f77=true:=by kernel_rfl
theorem Abl:CJ Tryz.prog Ai YQ Nn Tryz.f14=true:=by kernel_rfl
theorem Y0:CJ Tryz.prog Ai XH MF Tryz.f186=true:=by kernel_rfl
theorem Zd:CJ Tryz.prog Ai WG Ju Tryz.f134=true:=by kernel_rfl
theorem Ac9:CJ Tryz.prog Ai Abk LA Tryz.f135=true:=by kernel_rfl
theorem Ade:CJ Tryz.prog Ai Acf LG Tryz.f189=true:=by kernel_rfl
theorem Adi:CJ Tryz.prog Ai AcH LJ Tryz.f137=true:=by kernel_rfl
theorem Adb:CJ Tryz.prog Ai Ab4 Lu Tryz.f138=true:=by kernel_rfl
theorem Ajs:CJ Tryz.prog Ai Ahp WZ Tryz.f310=true:=by kernel_rfl
theorem Aho:CJ Tryz.prog Ai Agb UE Tryz.f311=true:=by kernel_rfl
theorem Adr:CJ Tryz.prog Ai AaS Pk Tryz.f268=true:=by kernel_rfl
theorem WV:CJ Tryz.prog Ai Vv Le Tryz.f265=true:=by kernel_rfl
theorem Adz:CJ Tryz.prog Ai AbW Py Tryz.f263=true:=by kernel_rfl
theorem AaD:CJ Tryz.prog Ai ZB ND Tryz.f304=true:=by kernel_rfl
theorem AbQ:CJ Tryz.prog Ai YK NN Tryz.f266=true:=by kernel_rfl
theorem Agp:CJ Tryz.prog Ai Adf QJ Tryz.f264=true:=by kernel_rfl
theorem AaX:CJ Tryz.prog Ai Zv NR Tryz.f267=true:=by kernel_rfl
theorem WR:CJ Tryz.prog Ai UO KU Tryz.f219=true:=by kernel_rfl
theorem Aao:CJ Tryz.prog Ai YE Np Tryz.f175=true:=by kernel_rfl
theorem AbI:CJ Tryz.prog Ai ZL Nz Tryz.f254=true:=by kernel_rfl
theorem YT:CJ Tryz.prog Ai XY Mc Tryz.f256=true:=by kernel_rfl
theorem AbD:CJ Tryz.prog Ai Zj Nv Tryz.f299=true:=by kernel_rfl
theorem ZH:CJ Tryz.prog Ai XG MB Tryz.f249=true:=by kernel_rfl
theorem WW:CJ Tryz.prog Ai VK K5 Tryz.f332=true:=by kernel_rfl
theorem Xb:CJ Tryz.prog Ai Vt KZ Tryz.f333=true:=by kernel_rfl
theorem TW:CJ Tryz.prog Ai Sy IQ Tryz.f300=true:=by kernel_rfl
theorem TG:CJ Tryz.prog Ai Sq I7 Tryz.f255=true:=by kernel_rfl
theorem V8:CJ Tryz.prog Ai Ul JE Tryz.f250=true:=by kernel_rfl
theorem U3:CJ Tryz.prog Ai Ue JK Tryz.f210=true:=by kernel_rfl
theorem Sv:CJ Tryz.prog Ai Qi Ik Tryz.f163=true:=by kernel_rfl
theorem Aa7:CJ Tryz.prog Ai Zu NP Tryz.f162=true:=by kernel_rfl
theorem Zp:CJ Tryz.prog Ai XT ML Tryz.f302=true:=by kernel_rfl
theorem WS:CJ Tryz.prog Ai VD KY Tryz.f301=true:=by kernel_rfl
theorem Qk:CJ Tryz.prog Ai P6 GL Tryz.f257=true:=by kernel_rfl
theorem YH:CJ Tryz.prog Ai Xk ME Tryz.f216=true:=by kernel_rfl
theorem Uc:CJ Tryz.prog Ai Sw Jg Tryz.f303=true:=by kernel_rfl
theorem R5:CJ Tryz.prog Ai Qe Ig Tryz.f258=true:=by kernel_rfl
theorem Y8:CJ Tryz.prog Ai Xu LZ Tryz.f305=true:=by kernel_rfl
theorem Xa:CJ Tryz.prog Ai Ws K3 Tryz.f259=true:=by kernel_rfl
theorem Wh:CJ Tryz.prog Ai TV JO Tryz.f309=true:=by kernel_rfl
theorem UY:CJ Tryz.prog Ai Uv J8 Tryz.f261=true:=by kernel_rfl
theorem UA:CJ Tryz.prog Ai RZ Jd Tryz.f262=true:=by kernel_rfl
theorem R3:CJ Tryz.prog Ai Qb Ia Tryz.f306=true:=by kernel_rfl
theorem P8:CJ Tryz.prog Ai PK Gt Tryz.f308=true:=by kernel_rfl
theorem Xz:CJ Tryz.prog Ai VI KX Tryz.f307=true:=by kernel_rfl
theorem YB:CJ Tryz.prog Ai XL MH Tryz.f260=true:=by kernel_rfl
theorem Zc:CJ Tryz.prog Ai XU MK Tryz.f217=true:=by kernel_rfl
theorem Abj:CJ Tryz.prog Ai YZ Nr Tryz.f218=true:=by kernel_rfl
theorem AhF:CJ Tryz.prog Ai Ae6 TY Tryz.f174=true:=by kernel_rfl
theorem Abi:CJ Tryz.prog Ai YL Ns Tryz.f114=true:=by kernel_rfl
theorem AcY:CJ Tryz.prog Ai Aa4 LK Tryz.f56=true:=by kernel_rfl
theorem AjG:CJ Tryz.prog Ai Aim WT Tryz.f176=true:=by kernel_rfl
theorem Akb:CJ Tryz.prog Ai Ahw XE Tryz.f177=true:=by kernel_rfl
theorem AaY:CJ Tryz.prog Ai Zi NI Tryz.f115=true:=by kernel_rfl
theorem Ac8:CJ Tryz.prog Ai Abr Ps Tryz.f46=true:=by kernel_rfl
theorem YX:CJ Tryz.prog Ai WN Jf Tryz.f57=true:=by kernel_rfl
theorem Qa:CJ Tryz.prog Ai OX Fh Tryz.f10=true:=by kernel_rfl
theorem YG:CJ Tryz.prog Ai XA LY Tryz.f190=true:=by kernel_rfl
theorem Sn:CJ Tryz.prog Ai QS Hq Tryz.f141=true:=by kernel_rfl
theorem Us:CJ Tryz.prog Ai Sm Jc Tryz.f140=true:=by kernel_rfl
theorem U6:CJ Tryz.prog Ai TD J6 Tryz.f129=true:=by kernel_rfl
theorem Xg:CJ Tryz.prog Ai Wj La Tryz.f58=true:=by kernel_rfl
theorem AcC:CJ Tryz.prog Ai YS NF Tryz.f70=true:=by kernel_rfl
theorem XD:CJ Tryz.prog Ai VE K8 Tryz.f15=true:=by kernel_rfl
theorem Acv:CJ Tryz.prog Ai ZM NH Tryz.f80=true:=by kernel_rfl
theorem AaZ:CJ Tryz.prog Ai ZK NE Tryz.f17=true:=by kernel_rfl
theorem AgT:CJ Tryz.prog Ai Agt Tz Tryz.f59=true:=by kernel_rfl
theorem Sg:CJ Tryz.prog Ai Qm Ii Tryz.f60=true:=by kernel_rfl
theorem TT:CJ Tryz.prog Ai Sl IL Tryz.f11=true:=by kernel_rfl
theorem MP:CJ Tryz.prog Ai Mt Fs Tryz.f150=true:=by kernel_rfl
theorem K6:CJ Tryz.prog Ai Ku Ew Tryz.f69=true:=by kernel_rfl
theorem Aa2:CJ Tryz.prog Ai ZE Nw Tryz.f61=true:=by kernel_rfl
theorem Zz:CJ Tryz.prog Ai X3 Mr Tryz.f82=true:=by kernel_rfl
theorem TP:CJ Tryz.prog Ai Sr II Tryz.f81=true:=by kernel_rfl
theorem VY:CJ Tryz.prog Ai Uy J2 Tryz.f20=true:=by kernel_rfl
theorem Si:CJ Tryz.prog Ai Qt Hy Tryz.f12=true:=by kernel_rfl
theorem AaA:CJ Tryz.prog Ai Zl NG Tryz.f63=true:=by kernel_rfl
theorem VQ:CJ Tryz.prog Ai UF JU Tryz.f144=true:=by kernel_rfl
theorem IE:CJ Tryz.prog Ai HV DF Tryz.f193=true:=by kernel_rfl
theorem GQ:CJ Tryz.prog Ai Gy Da Tryz.f143=true:=by kernel_rfl
theorem ZG:CJ Tryz.prog Ai WM Mv Tryz.f62=true:=by kernel_rfl
theorem Sb:CJ Tryz.prog Ai QH Ih Tryz.f195=true:=by kernel_rfl
theorem KA:CJ Tryz.prog Ai J5 Er Tryz.f224=true:=by kernel_rfl
theorem Ja:CJ Tryz.prog Ai IG D8 Tryz.f194=true:=by kernel_rfl
theorem V6:CJ Tryz.prog Ai UG JC Tryz.f145=true:=by kernel_rfl
theorem Abc:CJ Tryz.prog Ai ZI NJ Tryz.f64=true:=by kernel_rfl
theorem VG:CJ Tryz.prog Ai Uh J7 Tryz.f65=true:=by kernel_rfl
theorem UZ:CJ Tryz.prog Ai UL JN Tryz.f196=true:=by kernel_rfl
theorem Vr:CJ Tryz.prog Ai Uo JA Tryz.f147=true:=by kernel_rfl
theorem Afa:CJ Tryz.prog Ai AdF Q9 Tryz.f149=true:=by kernel_rfl
theorem Sd:CJ Tryz.prog Ai QR Hw Tryz.f148=true:=by kernel_rfl
theorem F6:CJ Tryz.prog Ai F3 Cq Tryz.f157=true:=by kernel_rfl
theorem FN:CJ Tryz.prog Ai FJ BX Tryz.f86=true:=by kernel_rfl
theorem Vm:CJ Tryz.prog Ai TI Jy Tryz.f68=true:=by kernel_rfl
theorem Xw:CJ Tryz.prog Ai UU Lc Tryz.f67=true:=by kernel_rfl
theorem E5:CJ Tryz.prog Ai EX Bw Tryz.f146=true:=by kernel_rfl
theorem EB:CJ Tryz.prog Ai Eu Bj Tryz.f66=true:=by kernel_rfl
theorem AaE:CJ Tryz.prog Ai Zn Nu Tryz.f13=true:=by kernel_rfl
theorem Ady:CJ Tryz.prog Ai Ab2 O7 Tryz.f90=true:=by kernel_rfl
theorem AbO:CJ Tryz.prog Ai ZC NC Tryz.f35=true:=by kernel_rfl
theorem Vp:CJ Tryz.prog Ai TK J9 Tryz.f16=true:=by kernel_rfl
theorem Vq:CJ Tryz.prog Ai UD Ka Tryz.f18=true:=by kernel_rfl
theorem Zt:CJ Tryz.prog Ai XC Mx Tryz.f36=true:=by kernel_rfl
theorem Aie:CJ Tryz.prog Ai Ae4 T9 Tryz.f19=true:=by kernel_rfl
theorem AdW:CJ Tryz.prog Ai Abu O9 Tryz.f21=true:=by kernel_rfl
theorem Zk:CJ Tryz.prog Ai WY Ma Tryz.f3=true:=by kernel_rfl
theorem AmC:AtL (DE G0 460):=by unfold AtL;intros;refine lk (g:=460) rfl Tryz.func9 Akc ?_;apply Axt (DE G0)<;>assumption
theorem Aix:Af1 (DE G0 473):=by unfold Af1;intros;refine Awi (R:=Body (DE G0) KR) (R':=(DE G0) 473) (fun _ _ _ _ h=>lk (g:=473) rfl Tryz.func54 Ae8 h) ?_;apply Atw (DE G0)<;>assumption
theorem AfS:Z6 (DE G0 486):=by unfold Z6;intros;refine Fj (R:=Body (DE G0) Lm) (R':=(DE G0) 486) (fun _ _ _ _ h=>lk (g:=486) rfl Tryz.func158 Ac7 h) ?_;apply Ap9 (DE G0)<;>assumption
theorem BF:Ea (DE G0 478):=by unfold Ea;intros;refine Fj (R:=Body (DE G0) Kc) (R':=(DE G0) 478) (fun _ _ _ _ h=>lk (g:=478) rfl Tryz.func89 Abm h) ?_;apply Aol (DE G0) AfS<;>assumption
theorem Vw:VJ (DE G0 474):=by unfold VJ;intros;refine Fj (R:=Body (DE G0) LF) (R':=(DE G0) 474) (fun _ _ _ _ h=>lk (g:=474) rfl Tryz.func55 Ad0 h) ?_;apply Aqk (DE G0) BF<;>assumption
theorem Gr:NU (DE G0 481):=by unfold NU;intros;refine Fj (R:=Body (DE G0) Ng) (R':=(DE G0) 481) (fun _ _ _ _ h=>lk (g:=481) rfl Tryz.func136 Afj h) ?_;apply Auh (DE G0) BF<;>assumption
theorem Im:Pm (DE G0 159):=by unfold Pm;intros;refine lk (g:=159) rfl Tryz.func139 Af9 ?_;apply Auo (DE G0)<;>assumption
theorem SI:QN (DE G0 487):=by unfold QN;intros;refine Fj (R:=Body (DE G0) Km) (R':=(DE G0) 487) (fun _ _ _ _ h=>lk (g:=487) rfl Tryz.func184 Aap h) ?_;apply An0 (DE G0) BF Im<;>assumption
theorem Ti:QK (DE G0 490):=by unfold QK;intros;refine Fj (R:=Body (DE G0) Kg) (R':=(DE G0) 490) (fun _ _ _ _ h=>lk (g:=490) rfl Tryz.func188 AaB h) ?_;apply Aof (DE G0) BF Im<;>assumption
theorem Tv:Ql (DE G0 489):=by unfold Ql;intros;refine Fj (R:=Body (DE G0) Ke) (R':=(DE G0) 489) (fun _ _ _ _ h=>lk (g:=489) rfl Tryz.func187 Acu h) ?_;apply Ant (DE G0) BF Gr Im<;>assumption
theorem Tj:QL (DE G0 494):=by unfold QL;intros;refine Fj (R:=Body (DE G0) Kl) (R':=(DE G0) 494) (fun _ _ _ _ h=>lk (g:=494) rfl Tryz.func222 Aa5 h) ?_;apply AnB (DE G0) BF Tv<;>assumption
theorem Adv:UW (DE G0 493):=by unfold UW;intros;refine Fj (R:=Body (DE G0) Kn) (R':=(DE G0) 493) (fun _ _ _ _ h=>lk (g:=493) rfl Tryz.func221 Acy h) ?_;apply Aoy (DE G0) BF Tj<;>assumption
theorem SG:QM (DE G0 488):=by unfold QM;intros;refine Fj (R:=Body (DE G0) Ki) (R':=(DE G0) 488) (fun _ _ _ _ h=>lk (g:=488) rfl Tryz.func185 Acg h) ?_;apply Amy (DE G0) BF Gr Ti Adv Im<;>assumption
theorem Zg:FK (DE G0 65):=by unfold FK;intros;refine lk (g:=65) rfl Tryz.func179 Ac3 ?_;apply Aqz (DE G0)<;>assumption
theorem Ach:Gg (DE G0 66):=by unfold Gg;intros;refine lk (g:=66) rfl Tryz.func180 Aco ?_;apply AmB (DE G0)<;>assumption
theorem AdV:Ip (DE G0 67):=by unfold Ip;intros;refine lk (g:=67) rfl Tryz.func127 X7 ?_;apply Aha (DE G0)<;>assumption
theorem Agv:Jm (DE G0 22):=by unfold Jm;intros;refine lk (g:=22) rfl Tryz.func125 Abh ?_;apply AmJ (DE G0) Zg Ach AdV<;>assumption
theorem Fw:Sk (DE G0 71):=by unfold Sk;intros;refine lk (g:=71) rfl Tryz.func79 AhT ?_;apply AvC (DE G0)<;>assumption
theorem Jw:EL (DE G0 250):=by unfold EL;intros;refine lk (g:=250) rfl Tryz.func151 V5 ?_;apply Adn (DE G0) Fw<;>assumption
theorem Pn:Ro (DE G0 217):=by unfold Ro;intros;refine lk (g:=217) rfl Tryz.func197 Ac0 ?_;apply Aqc (DE G0) Fw<;>assumption
theorem Yh:O1 (DE G0 152):=by unfold O1;intros;refine lk (g:=152) rfl Tryz.func152 AgG ?_;apply ArJ (DE G0) Fw Pn<;>assumption
theorem DK:BM (DE G0 208):=by unfold BM;intros;refine lk (g:=208) rfl Tryz.func72 Uu ?_;apply Ack (DE G0) Fw<;>assumption
theorem J4:EJ (DE G0 207):=by unfold EJ;intros;refine lk (g:=207) rfl Tryz.func71 WC ?_;apply Ada (DE G0) Fw Jw Yh DK<;>assumption
theorem AdY:IX (DE G0 209):=by unfold IX;intros;refine lk (g:=209) rfl Tryz.func73 AaJ ?_;apply Akk (DE G0) Fw<;>assumption
theorem Qw:Gx (DE G0 210):=by unfold Gx;intros;refine lk (g:=210) rfl Tryz.func74 Vn ?_;apply Aip (DE G0) Fw<;>assumption
theorem Y2:ET (DE G0 145):=by unfold ET;intros;refine lk (g:=145) rfl Tryz.func75 W9 ?_;apply Aft (DE G0) Fw<;>assumption
theorem JR:P5 (DE G0 166):=by unfold P5;intros;refine lk (g:=166) rfl Tryz.func76 Afl ?_;apply As6 (DE G0)<;>assumption
theorem Agh:KD (DE G0 95):=by unfold KD;intros;refine lk (g:=95) rfl Tryz.func78 Acl ?_;apply Ajx (DE G0)<;>assumption
theorem Aat:Iw (DE G0 224):=by unfold Iw;intros;refine lk (g:=224) rfl Tryz.func168 Y6 ?_;apply Aih (DE G0) JR<;>assumption
theorem OH:Em (DE G0 168):=by unfold Em;intros;refine lk (g:=168) rfl Tryz.func103 VF ?_;apply Adj (DE G0) Aat DK<;>assumption
theorem Abv:IC (DE G0 211):=by unfold IC;intros;refine lk (g:=211) rfl Tryz.func77 Y1 ?_;apply Ah1 (DE G0) OH DK<;>assumption
theorem S9:Jo (DE G0 141):=by unfold Jo;intros;refine lk (g:=141) rfl Tryz.func14 Abl ?_;apply Aj4 (DE G0) J4 DK AdY Qw Y2 JR Agh Abv Fw<;>assumption
theorem Ad7:Rw (DE G0 70):=by unfold Rw;intros;refine lk (g:=70) rfl Tryz.func186 Y0 ?_;apply Aif (DE G0) Agv S9<;>assumption
theorem Q5:Ov (DE G0 479):=by unfold Ov;intros;refine Fj (R:=Body (DE G0) Ju) (R':=(DE G0) 479) (fun _ _ _ _ h=>lk (g:=479) rfl Tryz.func134 Zd h) ?_;apply Akf (DE G0) BF Im SI SG Tv Ad7<;>assumption
theorem UQ:Ve (DE G0 480):=by unfold Ve;intros;refine Fj (R:=Body (DE G0) LA) (R':=(DE G0) 480) (fun _ _ _ _ h=>lk (g:=480) rfl Tryz.func135 Ac9 h) ?_;apply Aqo (DE G0) BF Gr Ti<;>assumption
theorem Aga:Aaf (DE G0 491):=by unfold Aaf;intros;refine Fj (R:=Body (DE G0) LG) (R':=(DE G0) 491) (fun _ _ _ _ h=>lk (g:=491) rfl Tryz.func189 Ade h) ?_;apply ArL (DE G0) BF Gr Tj<;>assumption
theorem Agd:Aae (DE G0 482):=by unfold Aae;intros;refine Fj (R:=Body (DE G0) LJ) (R':=(DE G0) 482) (fun _ _ _ _ h=>lk (g:=482) rfl Tryz.func137 Adi h) ?_;apply ArU (DE G0) BF Gr SG UQ Aga<;>assumption
theorem Afe:Aaa (DE G0 483):=by unfold Aaa;intros;refine Fj (R:=Body (DE G0) Lu) (R':=(DE G0) 483) (fun _ _ _ _ h=>lk (g:=483) rfl Tryz.func138 Adb h) ?_;apply Aqg (DE G0) BF Gr SI<;>assumption
theorem Aef:ArH (DE G0 339):=by unfold ArH;intros;refine lk (g:=339) rfl Tryz.func310 Ajs ?_;apply Avs (DE G0) Fw<;>assumption
theorem Uq:AeA (DE G0 338):=by unfold AeA;intros;refine lk (g:=338) rfl Tryz.func311 Aho ?_;apply Auu (DE G0) Aef<;>assumption
theorem Acd:Aia (DE G0 313):=by unfold Aia;intros;refine lk (g:=313) rfl Tryz.func268 Adr ?_;apply Atl (DE G0) Uq Aef<;>assumption
theorem YU:Pb (DE G0 310):=by unfold Pb;intros;refine lk (g:=310) rfl Tryz.func265 WV ?_;apply Afc (DE G0) Acd<;>assumption
theorem U5:VN (DE G0 308):=by unfold VN;intros;refine lk (g:=308) rfl Tryz.func263 Adz ?_;apply Aoe (DE G0)<;>assumption
theorem SH:Ri (DE G0 331):=by unfold Ri;intros;refine lk (g:=331) rfl Tryz.func304 AaD ?_;apply AjM (DE G0) JR<;>assumption
theorem U8:U0 (DE G0 311):=by unfold U0;intros;refine lk (g:=311) rfl Tryz.func266 AbQ ?_;apply AmL (DE G0) U5 SH<;>assumption
theorem MX:Ua (DE G0 309):=by unfold Ua;intros;refine lk (g:=309) rfl Tryz.func264 Agp ?_;apply ApI (DE G0)<;>assumption
theorem G8:KO (DE G0 312):=by unfold KO;intros;refine lk (g:=312) rfl Tryz.func267 AaX ?_;apply AkL (DE G0) Fw Pn MX<;>assumption
theorem YR:PD (DE G0 283):=by unfold PD;intros;refine lk (g:=283) rfl Tryz.func219 WR ?_;apply Agc (DE G0) YU U8 G8 MX Acd<;>assumption
theorem AdU:Wu (DE G0 251):=by unfold Wu;intros;refine lk (g:=251) rfl Tryz.func175 Aao ?_;apply Akl (DE G0) J4 YR<;>assumption
theorem EI:F9 (DE G0 285):=by unfold F9;intros;refine lk (g:=285) rfl Tryz.func254 AbI ?_;apply Akw (DE G0) DK G8<;>assumption
theorem Tw:QW (DE G0 301):=by unfold QW;intros;refine lk (g:=301) rfl Tryz.func256 YT ?_;apply Aju (DE G0) U8<;>assumption
theorem Adl:Vu (DE G0 258):=by unfold Vu;intros;refine lk (g:=258) rfl Tryz.func299 AbD ?_;apply Ajt (DE G0) Yh EI JR Fw<;>assumption
theorem I4:JX (DE G0 286):=by unfold JX;intros;refine lk (g:=286) rfl Tryz.func249 ZH ?_;apply Ait (DE G0) EI Tw Adl<;>assumption
theorem Wv:VZ (DE G0 355):=by unfold VZ;intros;refine lk (g:=355) rfl Tryz.func332 WW ?_;apply Afn (DE G0)<;>assumption
theorem Wm:VU (DE G0 356):=by unfold VU;intros;refine lk (g:=356) rfl Tryz.func333 Xb ?_;apply Ae1 (DE G0) Wv<;>assumption
theorem Acr:RA (DE G0 328):=by unfold RA;intros;refine lk (g:=328) rfl Tryz.func300 TW ?_;apply AbK (DE G0) Wv Wm<;>assumption
theorem U2:Ll (DE G0 300):=by unfold Ll;intros;refine lk (g:=300) rfl Tryz.func255 TG ?_;apply Abx (DE G0) I4 Acr<;>assumption
theorem Oy:KG (DE G0 256):=by unfold KG;intros;refine lk (g:=256) rfl Tryz.func250 V8 ?_;apply AcZ (DE G0)<;>assumption
theorem Ou:KF (DE G0 260):=by unfold KF;intros;refine lk (g:=260) rfl Tryz.func210 U3 ?_;apply Adx (DE G0) DK Oy I4<;>assumption
theorem Ug:Kk (DE G0 222):=by unfold Kk;intros;refine lk (g:=222) rfl Tryz.func163 Sv ?_;apply YP (DE G0) DK Ou<;>assumption
theorem AbN:VL (DE G0 223):=by unfold VL;intros;refine lk (g:=223) rfl Tryz.func162 Aa7 ?_;apply Am1 (DE G0) JR<;>assumption
theorem AcF:Rt (DE G0 329):=by unfold Rt;intros;refine lk (g:=329) rfl Tryz.func302 Zp ?_;apply AiE (DE G0) G8 Ou Oy I4 Wm<;>assumption
theorem Zo:OQ (DE G0 330):=by unfold OQ;intros;refine lk (g:=330) rfl Tryz.func301 WS ?_;apply AfM (DE G0) EI JR<;>assumption
theorem Abp:RO (DE G0 302):=by unfold RO;intros;refine lk (g:=302) rfl Tryz.func257 Qk ?_;apply Ag1 (DE G0) EI Ug AbN AcF Zo<;>assumption
theorem Abw:Rq (DE G0 280):=by unfold Rq;intros;refine lk (g:=280) rfl Tryz.func216 YH ?_;apply AiJ (DE G0) EI U2 Tw Abp<;>assumption
theorem Vo:Lp (DE G0 332):=by unfold Lp;intros;refine lk (g:=332) rfl Tryz.func303 Uc ?_;apply AbB (DE G0) Jw<;>assumption
theorem Agz:Aab (DE G0 303):=by unfold Aab;intros;refine lk (g:=303) rfl Tryz.func258 R5 ?_;apply Aom (DE G0) OH EI SH Vo<;>assumption
theorem QT:Oi (DE G0 333):=by unfold Oi;intros;refine lk (g:=333) rfl Tryz.func305 Y8 ?_;apply AiO (DE G0) Fw G8<;>assumption
theorem ZF:O8 (DE G0 304):=by unfold O8;intros;refine lk (g:=304) rfl Tryz.func259 Xa ?_;apply AfA (DE G0) MX Jw EI QT JR<;>assumption
theorem Ot:KH (DE G0 337):=by unfold KH;intros;refine lk (g:=337) rfl Tryz.func309 Wh ?_;apply AcR (DE G0) G8<;>assumption
theorem Xy:Nh (DE G0 305):=by unfold Nh;intros;refine lk (g:=305) rfl Tryz.func261 UY ?_;apply AdR (DE G0) EI Ot<;>assumption
theorem Wi:LM (DE G0 306):=by unfold LM;intros;refine lk (g:=306) rfl Tryz.func262 UA ?_;apply AaQ (DE G0) QT Ot<;>assumption
theorem Tk:Qu (DE G0 334):=by unfold Qu;intros;refine lk (g:=334) rfl Tryz.func306 R3 ?_;apply AjA (DE G0) Pn<;>assumption
theorem YW:PE (DE G0 335):=by unfold PE;intros;refine lk (g:=335) rfl Tryz.func308 P8 ?_;apply Agu (DE G0) Tk Uq<;>assumption
theorem Ag6:Agk (DE G0 336):=by unfold Agk;intros;refine lk (g:=336) rfl Tryz.func307 Xz ?_;apply Arp (DE G0) Uq<;>assumption
theorem AfN:ZP (DE G0 307):=by unfold ZP;intros;refine lk (g:=307) rfl Tryz.func260 YB ?_;apply Aoj (DE G0) Qw Tk Fw YW Ag6<;>assumption
theorem Aas:RN (DE G0 281):=by unfold RN;intros;refine lk (g:=281) rfl Tryz.func217 Zc ?_;apply Aiz (DE G0) I4 Agz ZF Xy Wi AfN U5<;>assumption
theorem AdK:Vi (DE G0 282):=by unfold Vi;intros;refine lk (g:=282) rfl Tryz.func218 Abj ?_;apply AjO (DE G0) AbN MX Fw<;>assumption
theorem Ajy:Ak5 (DE G0 252):=by unfold Ak5;intros;refine lk (g:=252) rfl Tryz.func174 AhF ?_;apply Atg (DE G0) Abw Aas AdK<;>assumption
theorem Te:Qv (DE G0 213):=by unfold Qv;intros;refine lk (g:=213) rfl Tryz.func114 Abi ?_;apply AkU (DE G0) J4 AdU Ajy<;>assumption
theorem Agw:ZQ (DE G0 475):=by unfold ZQ;intros;refine Fj (R:=Body (DE G0) LK) (R':=(DE G0) 475) (fun _ _ _ _ h=>lk (g:=475) rfl Tryz.func56 AcY h) ?_;apply Ar8 (DE G0) BF Gr Q5 UQ Agd Afe Te<;>assumption
theorem AkD:AlS (DE G0 215):=by unfold AlS;intros;refine lk (g:=215) rfl Tryz.func176 AjG ?_;apply AvK (DE G0)<;>assumption
theorem Ajp:Amg (DE G0 253):=by unfold Amg;intros;refine lk (g:=253) rfl Tryz.func177 Akb ?_;apply Av6 (DE G0)<;>assumption
theorem AjU:AlW (DE G0 212):=by unfold AlW;intros;refine lk (g:=212) rfl Tryz.func115 AaY ?_;apply Ane (DE G0) AkD Ajp<;>assumption
theorem Ae7:Z8 (DE G0 142):=by unfold Z8;intros;refine lk (g:=142) rfl Tryz.func46 Ac8 ?_;apply Anz (DE G0) Fw AjU Te<;>assumption
theorem AbL:Rp (DE G0 476):=by unfold Rp;intros;refine Fj (R:=Body (DE G0) Jf) (R':=(DE G0) 476) (fun _ _ _ _ h=>lk (g:=476) rfl Tryz.func57 YX h) ?_;apply Aj6 (DE G0) BF Vw Q5 Im Ae7<;>assumption
theorem QC:Ho (DE G0 461):=by unfold Ho;intros;refine AqN (R:=Body (DE G0) Fh) (R':=(DE G0) 461) (fun _ _ _ _ h=>lk (g:=461) rfl Tryz.func10 Qa h) ?_;apply WH (DE G0) Aix Vw Agw AbL<;>assumption
theorem Agm:ZW (DE G0 172):=by unfold ZW;intros;refine lk (g:=172) rfl Tryz.func190 YG ?_;apply AkG (DE G0)<;>assumption
theorem Xt:FK (DE G0 102):=by unfold FK;intros;refine lk (g:=102) rfl Tryz.func141 Sn ?_;apply Ab0 (DE G0) Agm<;>assumption
theorem YC:Gg (DE G0 101):=by unfold Gg;intros;refine lk (g:=101) rfl Tryz.func140 Us ?_;apply Adt (DE G0)<;>assumption
theorem AbP:Ip (DE G0 103):=by unfold Ip;intros;refine lk (g:=103) rfl Tryz.func129 U6 ?_;apply Afw (DE G0)<;>assumption
theorem WB:Jm (DE G0 38):=by unfold Jm;intros;refine lk (g:=38) rfl Tryz.func58 Xg ?_;apply AiL (DE G0) Xt YC AbP<;>assumption
theorem Gf:Sk (DE G0 114):=by unfold Sk;intros;refine lk (g:=114) rfl Tryz.func70 AcC ?_;apply Ann (DE G0)<;>assumption
theorem He:ET (DE G0 176):=by unfold ET;intros;refine lk (g:=176) rfl Tryz.func15 XD ?_;apply AgE (DE G0) Gf<;>assumption
theorem Ado:Vb (DE G0 291):=by unfold Vb;intros;refine lk (g:=291) rfl Tryz.func80 Acv ?_;apply Aka (DE G0) Gf<;>assumption
theorem Td:QF (DE G0 263):=by unfold QF;intros;refine lk (g:=263) rfl Tryz.func17 AaZ ?_;apply AkR (DE G0) He Gf Ado<;>assumption
theorem Aay:AhH (DE G0 228):=by unfold AhH;intros;refine lk (g:=228) rfl Tryz.func59 AgT ?_;apply At7 (DE G0) Td<;>assumption
theorem AfC:Alq (DE G0 264):=fun l i v hl hi=>Akq (Ai:=Ai) (g:=264) (k:=142) (t3:=Tryz.SS.t 3) rfl (fun b off n c i vb voff m vc cs vs w h1 h2 h3 h4 h5 h6 h7 h8 h9 h10 h11 h12 h13 tA tB kA kB h14 h15 h16 h17 h18=>Any2.slices_Insert_int_shift Tryz.RS b off n c i vb voff m vc cs vs w h1 h2 h3 h4 h5 h6 h7 h8 h9 h10 h11 h12 h13 tA tB kA kB h14 h15 h16 h17 h18) (fun b off n c vb voff m vc vs w h1 h2 h3 h4 h5 h6 h7 h8=>Any2.slices_Insert_int_end_room Tryz.RS b off n c vb voff m vc vs w h1 h2 h3 h4 h5 h6 h7 h8) (fun base n c vb voff m vc cs vs w h1 h2 h3 h4 h5 h6 h7 h8 h9 h10=>Any2.slices_Insert_int_end_grow Tryz.RS base n c vb voff m vc cs vs w h1 h2 h3 h4 h5 h6 h7 h8 h9 h10) (fun b off n c i vb voff m vc cs vs w h1 h2 h3 h4 h5 h6 h7 h8 h9 h10 h11=>Any2.slices_Insert_int_grow Tryz.RS b off n c i vb voff m vc cs vs w h1 h2 h3 h4 h5 h6 h7 h8 h9 h10 h11) l i v hl hi
theorem V4:LB (DE G0 230):=by unfold LB;intros;refine lk (g:=230) rfl Tryz.func60 Sg ?_;apply AcQ (DE G0) AfC<;>assumption
theorem X5:M5 (DE G0 177):=by unfold M5;intros;refine lk (g:=177) rfl Tryz.func11 TT ?_;apply Adp (DE G0) WB He Aay V4<;>assumption
theorem Ahx:AgD (DE G0 389):=by unfold AgD;intros;refine lk (g:=389) rfl Tryz.func150 MP ?_;apply AtN (DE G0)<;>assumption
theorem Oc:P5 (DE G0 188):=by unfold P5;intros;refine lk (g:=188) rfl Tryz.func69 K6 ?_;apply Aj7 (DE G0) Ahx<;>assumption
theorem Adq:Wd (DE G0 189):=by unfold Wd;intros;refine lk (g:=189) rfl Tryz.func61 Aa2 ?_;apply Amq (DE G0) Oc<;>assumption
theorem AbZ:Iw (DE G0 242):=by unfold Iw;intros;refine lk (g:=242) rfl Tryz.func82 Zz ?_;apply Aik (DE G0) Oc<;>assumption
theorem IU:BM (DE G0 232):=by unfold BM;intros;refine lk (g:=232) rfl Tryz.func81 TP ?_;apply AaF (DE G0) Gf<;>assumption
theorem JY:Em (DE G0 190):=by unfold Em;intros;refine lk (g:=190) rfl Tryz.func20 VY ?_;apply AdM (DE G0) AbZ IU<;>assumption
theorem TL:Kq (DE G0 180):=by unfold Kq;intros;refine lk (g:=180) rfl Tryz.func12 Si ?_;apply Y7 (DE G0) WB Adq JY<;>assumption
theorem Ad5:KD (DE G0 123):=by unfold KD;intros;refine lk (g:=123) rfl Tryz.func63 AaA ?_;apply Aks (DE G0)<;>assumption
theorem Zw:Pp (DE G0 268):=by unfold Pp;intros;refine lk (g:=268) rfl Tryz.func144 VQ ?_;apply AhV (DE G0) JY<;>assumption
theorem R8:IJ (DE G0) (DE G0 405):=by unfold IJ;intros;refine lk (g:=405) rfl Tryz.func193 IE ?_;apply YJ (DE G0)<;>assumption
theorem OP:F5 (DE G0) (DE G0 269):=by unfold F5;intros;refine lk (g:=269) rfl Tryz.func143 GQ ?_;apply TR (DE G0) R8<;>assumption
theorem AaI:IC (DE G0 234):=by unfold IC;intros;refine lk (g:=234) rfl Tryz.func62 ZG ?_;apply Ahj (DE G0) IU Zw OP<;>assumption
theorem V7:LH (DE G0 266):=by unfold LH;intros;refine lk (g:=266) rfl Tryz.func195 Sb ?_;apply Ad3 (DE G0) Gf<;>assumption
theorem Y4:OW (DE G0) (DE G0 404):=by unfold OW;intros;refine lk (g:=404) rfl Tryz.func224 KA ?_;apply Air (DE G0)<;>assumption
theorem MJ:G5 (DE G0) (DE G0 267):=by unfold G5;intros;refine lk (g:=267) rfl Tryz.func194 Ja ?_;apply AbM (DE G0) Y4<;>assumption
theorem Om:KL (DE G0 233):=by unfold KL;intros;refine lk (g:=233) rfl Tryz.func145 V6 ?_;apply Af8 (DE G0) V7 MJ<;>assumption
theorem Tc:IX (DE G0 235):=by unfold IX;intros;refine lk (g:=235) rfl Tryz.func64 Abc ?_;apply AjI (DE G0) Om<;>assumption
theorem AbV:Gx (DE G0 236):=by unfold Gx;intros;refine lk (g:=236) rfl Tryz.func65 VG ?_;apply AiZ (DE G0) Gf<;>assumption
theorem Xv:EL (DE G0 279):=by unfold EL;intros;refine lk (g:=279) rfl Tryz.func196 UZ ?_;apply Ac6 (DE G0) Gf<;>assumption
theorem WI:M9 (DE G0 270):=by unfold M9;intros;refine lk (g:=270) rfl Tryz.func147 Vr ?_;apply Adh (DE G0) Xv MJ<;>assumption
theorem AiH:O1 (DE G0 183):=by unfold O1;intros;refine lk (g:=183) rfl Tryz.func149 Afa ?_;apply AqG (DE G0) Gf Om<;>assumption
theorem Vf:Lx (DE G0 271):=by unfold Lx;intros;refine lk (g:=271) rfl Tryz.func148 Sd ?_;apply AdI (DE G0) AiH<;>assumption
theorem UK:Kj (DE G0) (DE G0 406):=by unfold Kj;intros;refine lk (g:=406) rfl Tryz.func157 F6 ?_;apply Abn (DE G0)<;>assumption
theorem P9:GI (DE G0) (DE G0 272):=by unfold GI;intros;refine lk (g:=272) rfl Tryz.func86 FN ?_;apply Vk (DE G0) UK<;>assumption
theorem Xr:EJ (DE G0 239):=by unfold EJ;intros;refine lk (g:=239) rfl Tryz.func68 Vm ?_;apply AdZ (DE G0) IU Tc WI Vf P9 Gf<;>assumption
theorem AcG:Rs (DE G0 237):=by unfold Rs;intros;refine lk (g:=237) rfl Tryz.func67 Xw ?_;apply AjF (DE G0) Xr<;>assumption
theorem OA:FQ (DE G0) (DE G0 393):=by unfold FQ;intros;refine lk (g:=393) rfl Tryz.func146 E5 ?_;apply R6 (DE G0)<;>assumption
theorem Ms:EZ (DE G0) (DE G0 238):=by unfold EZ;intros;refine lk (g:=238) rfl Tryz.func66 EB ?_;apply O0 (DE G0) OA<;>assumption
theorem Ac1:Jo (DE G0 184):=by unfold Jo;intros;refine lk (g:=184) rfl Tryz.func13 AaE ?_;apply Ajn (DE G0) Ad5 AaI Tc AbV AcG Ms He Oc Gf<;>assumption
theorem Afh:Z7 (DE G0 117):=by unfold Z7;intros;refine lk (g:=117) rfl Tryz.func90 Ady ?_;apply Ary (DE G0) Gf<;>assumption
theorem AdN:Wn (DE G0 174):=by unfold Wn;intros;refine lk (g:=174) rfl Tryz.func35 AbO ?_;apply AkO (DE G0) Afh Aay Oc<;>assumption
theorem Xi:MW (DE G0 434):=by unfold MW;intros;refine lk (g:=434) rfl Tryz.func16 Vp ?_;apply AcP (DE G0) AdN<;>assumption
theorem WX:Ni (DE G0 121):=by unfold Ni;intros;refine lk (g:=121) rfl Tryz.func18 Vq ?_;apply AdP (DE G0) Oc<;>assumption
theorem Qx:containsS (DE G0 471):=by unfold containsS;intros;refine lk (g:=471) rfl Tryz.func36 Zt ?_;apply Aj1 (DE G0)<;>assumption
theorem AjV:VL (DE G0 462):=by unfold VL;intros;refine lk (g:=462) rfl Tryz.func19 Aie ?_;apply AnJ (DE G0) Qx<;>assumption
theorem AfU:ZR (DE G0 463):=by unfold ZR;intros;refine lk (g:=463) rfl Tryz.func21 AdW ?_;apply Ash (DE G0) Qx<;>assumption
theorem AbT:Xd (DE G0 459):=by unfold Xd;intros;refine lk (g:=459) rfl Tryz.func3 Zk ?_;apply AkW (DE G0) AmC QC X5 TL Ac1 S9 He Xi Td WX JY AjV AfU<;>assumption
theorem den (G0:Gl) (av:List V) (h:Aaw av):DE G0 459 av [] (B true) []:=by
 obtain⟨bs,hb,rfl⟩:=Ax3 h
 exact AbT bs hb
end Go.Eng.T
