/- Own work: part 25 of the proof of FnConsole. -/
import Derived.Test.YtogmkdgkgfhhoaaGreatDoorCL1
set_option linter.unusedSimpArgs false
set_option linter.unusedVariables false
namespace Go.Eng.T
open Go.Proofs Go.Lib
set_option maxRecDepth 100000
variable {W:Go.World}
theorem AbW (ht:Tb W):AfC (DE W 252):=by unfold AfC;intros;refine lk Aec TQ Tryz.func110 ?_;apply AoD _ (Aa4 ht) (AbT ht) (Ab8 ht)<;>assumption
theorem AcZ (ht:Tb W):Uj (DE W 213):=by unfold Uj;intros;refine lk Yy NH Tryz.func336 ?_;apply AiM _ (Jl ht) (AcJ ht) (AbW ht)<;>assumption
theorem AeZ (ht:Tb W):ZL (DE W 142):=by unfold ZL;intros;refine lk Aag OE Tryz.func254 ?_;apply Akz _ (CU ht) (Aiu ht) (AcZ ht)<;>assumption
theorem Ac3 (ht:Tb W):Ui (DE W 284):=by unfold Ui;intros;refine lk Zl M9 Tryz.func450 ?_;apply Ajf _ (CU ht)<;>assumption
theorem Acz (ht:Tb W):V3 (DE W 254):=by unfold V3;intros;refine lk Y9 NG Tryz.func411 ?_;apply AhR _ (Fs ht) (CU ht) (Ac3 ht)<;>assumption
theorem Aay (ht:Tb W):Af6 (DE W 214):=by unfold Af6;intros;refine lk Afq Uf Tryz.func338 ?_;apply AoJ _ (Acz ht)<;>assumption
theorem Acm (ht:Tb W):Vw (DE W 143):=by unfold Vw;intros;refine lk Y2 Nk Tryz.func255 ?_;apply AhV _ (CU ht) (Aay ht) (FN ht)<;>assumption
theorem Rk (ht:Tb W):NV (DE W 155):=by unfold NV;intros;refine lk WQ Mg Tryz.func267 ?_;apply Af7 _ (FN ht)<;>assumption
theorem Zd (ht:Tb W):PN (DE W 144):=by unfold PN;intros;refine lk U8 Kw Tryz.func256 ?_;apply Aep _ (Rk ht)<;>assumption
theorem Adb (ht:Tb W):RZ (DE W 72):=by unfold RZ;intros;refine lk Wz Mx Tryz.func165 ?_;apply Ahi _ (CP ht) (CU ht) (AeZ ht) (Acm ht) (SK ht) (Zd ht)<;>assumption
theorem Oy (ht:Tb W):J3 (DE W 146):=by unfold J3;intros;refine lk Tv Jp Tryz.func258 ?_;apply Acf _ (CP ht) (Fs ht) (Aay ht) (FR ht) (ZN ht)<;>assumption
theorem Aav (ht:Tb W):OT (DE W 74):=by unfold OT;intros;refine lk VJ KJ Tryz.func167 ?_;apply AeP _ (CP ht) (Fs ht) (Oy ht)<;>assumption
theorem Abj (ht:Tb W):RH (DE W 156):=by unfold RH;intros;refine lk WU Ma Tryz.func268 ?_;apply Agg _ (CU ht)<;>assumption
theorem AaD (ht:Tb W):Pq (DE W 82):=by unfold Pq;intros;refine lk U4 KW Tryz.func176 ?_;apply Aem _ (Rk ht) (Abj ht)<;>assumption
theorem YN (ht:Tb W):PX (DE W 147):=by unfold PX;intros;refine lk UM Ky Tryz.func259 ?_;apply Afn _ (Mh ht) (Fs ht)<;>assumption
theorem YO (ht:Tb W):Pj (DE W 148):=by unfold Pj;intros;refine lk Va KV Tryz.func260 ?_;apply AeV _ (Mh ht) (Fs ht)<;>assumption
theorem Jt (ht:Tb W):Ic (DE W 167):=by unfold Ic;intros;refine lk Tk Jy Tryz.func278 ?_;apply Ad0 _<;>assumption
theorem TS (ht:Tb W):JG (DE W 149):=by unfold JG;intros;refine lk QB Ia Tryz.func261 ?_;apply YG _ (CP ht) (Jt ht) (FO ht)<;>assumption
theorem AaU (ht:Tb W):Pk (DE W 75):=by unfold Pk;intros;refine lk Vk Kz Tryz.func168 ?_;apply AeE _ (CP ht) (AaD ht) (YN ht) (Oy ht) (YO ht) (TS ht)<;>assumption
theorem AcY (ht:Tb W):Ry (DE W 96):=by unfold Ry;intros;refine lk WX L8 Tryz.func188 ?_;apply Ahm _ (FO ht) (Jt ht)<;>assumption
theorem AgS (ht:Tb W):Ae1 (DE W 255):=by unfold Ae1;intros;refine lk Acg Ra Tryz.func412 ?_;apply Anj _ (FO ht)<;>assumption
theorem YX (ht:Tb W):PG (DE W 216):=by unfold PG;intros;refine lk U0 KF Tryz.func340 ?_;apply Ae7 _ (Cn ht) (FN ht) (CU ht) (AcY ht) (AgS ht)<;>assumption
theorem Sk (ht:Tb W):IG (DE W 150):=by unfold IG;intros;refine lk Qg GQ Tryz.func262 ?_;apply Xt _ (YX ht) (Jt ht)<;>assumption
theorem Yw (ht:Tb W):MZ (DE W 76):=by unfold MZ;intros;refine lk Tz Jq Tryz.func169 ?_;apply AcI _ (CP ht) (V5 ht) (Sk ht)<;>assumption
theorem Xg (ht:Tb W):MH (DE W 151):=by unfold MH;intros;refine lk TF I9 Tryz.func263 ?_;apply Ac5 _ (Cn ht) (CU ht) (FN ht) (FR ht)<;>assumption
theorem YZ (ht:Tb W):MI (DE W 77):=by unfold MI;intros;refine lk Tx Jb Tryz.func170 ?_;apply Ac0 _ (CP ht) (Xg ht)<;>assumption
theorem Aef (ht:Tb W):UJ (DE W 78):=by unfold UJ;intros;refine lk Yj Ni Tryz.func171 ?_;apply AiB _ (CP ht) (CU ht) (Q0 ht)<;>assumption
theorem Aar (ht:Tb W):Pv (DE W 79):=by unfold Pv;intros;refine lk Vq KD Tryz.func172 ?_;apply Aez _ (CP ht) (CU ht)<;>assumption
theorem Ada (ht:Tb W):RL (DE W 80):=by unfold RL;intros;refine lk Xq LV Tryz.func173 ?_;apply AfW _ (CP ht) (CU ht)<;>assumption
theorem Ye (ht:Tb W):MS (DE W 27):=by unfold MS;intros;refine lk TM Jv Tryz.func85 ?_;apply Adc _ (CP ht) (Adb ht) (Aav ht) (AaU ht) (Yw ht) (YZ ht) (Aef ht) (Aar ht) (Ada ht)<;>assumption
theorem Yg (ht:Tb W):P6 (DE W 485):=by unfold P6;intros;refine lk Um KN Tryz.func116 ?_;apply Aey _ (CP ht) (Ye ht)<;>assumption
theorem Aam (ht:Tb W):Rt (DE W 477):=by unfold Rt;intros;refine DJ (R:=Body (DE W) IK) (R':=DE W 477) (fun _ _ _ _ h=>lk Wm IK Tryz.func42 h) ?_;apply Ais _ (ZQ ht) (Za ht) (Yg ht)<;>assumption
theorem AGH (ht:Tb W):AGp (DE W 559):=by unfold AGp;intros;refine DJ (R:=Body (DE W) Awy) (R':=DE W 559) (fun _ _ _ _ h=>lk AEM Awy Tryz.func118 h) ?_;apply AKH _ (AV ht)<;>assumption
theorem Azo (ht:Tb W):AyC (DE W 555):=by unfold AyC;intros;refine DJ (R:=Body (DE W) Au8) (R':=DE W 555) (fun _ _ _ _ h=>lk ACY Au8 Tryz.func44 h) ?_;apply AI4 _ (AGH ht)<;>assumption
theorem AxX (ht:Tb W):Atr (DE W 547):=by unfold Atr;intros;refine J7 (R:=Body (DE W) AsJ) (R':=DE W 547) (fun _ _ _ _ h=>lk Axg AsJ Tryz.func18 h) ?_;apply AA1 _ (Kt ht) (Vp ht) (Aam ht) (Azo ht)<;>assumption
theorem ADt (ht:Tb W):AF3 (DE W 14):=by
 obtain⟨m,hm⟩:=ht.ml
 exact AJi (k:=46) (b:=0) (t:=9) (W:=W) (m:=m) rfl (lt_of_cell hm) rfl hm (fun s sep m w h1 h2 h3=>Tryz.strings_Split s sep m w h1 h2 h3)
theorem AHc (ht:Tb W):AFm (DE W 37):=AIm (k:=45) (k36:=47) rfl rfl (fun blk off cap d w h1 h2 h3=>Con.del blk off cap d w h1 h2 h3)
theorem AAo (ht:Tb W):AAf (DE W 172):=by unfold AAf;intros;refine lk ABo Awh Tryz.func221 ?_;apply AHH _<;>assumption
theorem ABH (ht:Tb W):MF (DE W 102):=by unfold MF;intros;refine lk Ayj AtZ Tryz.func122 ?_;apply ADP _ (AAo ht)<;>assumption
theorem AvA (ht:Tb W):Je (DE W 101):=by unfold Je;intros;refine lk Ay7 Aui Tryz.func121 ?_;apply AEp _<;>assumption
theorem Ax8 (ht:Tb W):NY (DE W 103):=by unfold NY;intros;refine lk Azt AuL Tryz.func123 ?_;apply AGn _<;>assumption
theorem Alz (ht:Tb W):EF (DE W 38):=by unfold EF;intros;refine lk ABi Avi Tryz.func48 ?_;apply AHd _ (ABH ht) (AvA ht) (Ax8 ht)<;>assumption
theorem Ai7 (ht:Tb W):Vf (DE W 114):=by unfold Vf;intros;refine lk ACh AwZ Tryz.func66 ?_;apply AIX _<;>assumption
theorem YP (ht:Tb W):EB (DE W 185):=AmX (k:=111) (b:=1) (W:=W) rfl ApV (Amj ApV ht.tab) rfl ht.tab (fun n h0 h1 w h=>Tryz.strconv_Itoa n h0 h1 w h)
theorem Fq (ht:Tb W):EB (DE W 120):=by unfold EB;intros;refine lk UZ KX Tryz.func37 ?_;apply AeF _ (YP ht)<;>assumption
theorem ADy (ht:Tb W):ABY (DE W 104):=by
 refine AJx (k:=124) rfl fun l w hw hl=> ?_
 refine Con.parse (Gw:=fun w=>∀b,(AeK W) b->b<w.heap.size/\w.heap[b]? =(AeK W).is b) (fun w w' h hb=>AHV h hb) (fun n w h h1 h2=> ?_) (fun n w h h1 h2=> ?_) (fun w h=> ?_) l w hw hl
 ·have:=AAP (g:=114) (id:=66) rfl (vs:=[.int .i64 n,.int .i64 0,.int .i64 1000000000000]) (v:= .bool (decide (0<=n/\n<=1000000000000))) (Ai7 ht n 0 1000000000000) (fun x hx=>by simp only[List.mem_cons,List.not_mem_nil,or_false]at hx;rcases hx with rfl | rfl | rfl<;>rfl) w h
  rw[Bool.decide_and]at this
  exact this
 ·exact AAP (g:=120) (id:=37) rfl (vs:=[.int .i64 n]) (v:= .string (Ww (itoa n))) (Fq ht n ⟨h1,h2⟩) (fun x hx=>by simp only[List.mem_singleton]at hx;subst hx;rfl) w h
 ·obtain⟨e0,c0,i0⟩:=ht.es
  obtain⟨e1,c1,i1⟩:=ht.er
  exact⟨e0,e1,Akg h c0,i0,Akg h c1,i1⟩
theorem ACe (ht:Tb W):AIO ADv (DE W 39):=by unfold AIO;intros;refine lk AAD AvK Tryz.func49 ?_;apply AGz _ (ADy ht)<;>assumption
theorem Awx (ht:Tb W):Aud (DE W 115):=by unfold Aud;intros;refine lk Ay1 Auk Tryz.func22 ?_;apply AD0 _ (Ai7 ht)<;>assumption
theorem Au1 (ht:Tb W):Q8 (DE W 123):=by unfold Q8;intros;refine lk ACH AwD Tryz.func139 ?_;apply AHS _<;>assumption
theorem AmS (ht:Tb W):Dr (DE W 232):=by unfold Dr;intros;refine lk Ay5 Aum Tryz.func67 ?_;apply AEf _ (Ai7 ht)<;>assumption
theorem AG5 (ht:Tb W):AGq (DE W 389):=by unfold AGq;intros;refine lk Av2 AsX Tryz.func320 ?_;apply AKW _<;>assumption
theorem Arb (ht:Tb W):UQ (DE W 188):=by unfold UQ;intros;refine lk Avd Ar5 Tryz.func235 ?_;apply AHI _ (AG5 ht)<;>assumption
theorem ADU (ht:Tb W):Rz (DE W 242):=by unfold Rz;intros;refine lk ABR Awg Tryz.func321 ?_;apply AHB _ (Arb ht)<;>assumption
theorem AqU (ht:Tb W):FQ (DE W 190):=by unfold FQ;intros;refine lk Azv AuE Tryz.func237 ?_;apply AEj _ (ADU ht) (AmS ht)<;>assumption
theorem ACF (ht:Tb W):Axn (DE W 268):=by unfold Axn;intros;refine lk Azr AuY Tryz.func387 ?_;apply AGA _ (AqU ht)<;>assumption
theorem AxV (ht:Tb W):Auq (DE W) (DE W 405):=by unfold Auq;intros;refine lk AtW ApB Tryz.func436 ?_;apply ACy _<;>assumption
theorem AtJ (ht:Tb W):AsQ (DE W) (DE W 269):=by unfold AsQ;intros;refine lk Atv AnX Tryz.func386 ?_;apply AzK _ (AxV ht)<;>assumption
theorem AyG (ht:Tb W):RP (DE W 234):=by unfold RP;intros;refine lk ABj Awf Tryz.func315 ?_;apply AHr _ (AmS ht) (ACF ht) (AtJ ht)<;>assumption
theorem AAg (ht:Tb W):AvQ (DE W 266):=by unfold AvQ;intros;refine lk AyB AtV Tryz.func249 ?_;apply AEs _ (Ai7 ht)<;>assumption
theorem AAC (ht:Tb W):Axr (DE W) (DE W 404):=by unfold Axr;intros;refine lk AuK ArL Tryz.func250 ?_;apply AHv _<;>assumption
theorem Atl (ht:Tb W):Ate (DE W) (DE W 267):=by unfold Ate;intros;refine lk Aua Aqw Tryz.func152 ?_;apply AD8 _ (AAC ht)<;>assumption
theorem Asz (ht:Tb W):AsS (DE W 233):=by unfold AsS;intros;refine lk Azz AuC Tryz.func151 ?_;apply AFJ _ (AAg ht) (Atl ht)<;>assumption
theorem Azi (ht:Tb W):VF (DE W 235):=by unfold VF;intros;refine lk ACi AwG Tryz.func68 ?_;apply AH1 _ (Asz ht)<;>assumption
theorem Ayk (ht:Tb W):Oe (DE W 236):=by unfold Oe;intros;refine lk AzX AuX Tryz.func316 ?_;apply AHy _ (Ai7 ht)<;>assumption
theorem Aw4 (ht:Tb W):Ib (DE W 279):=by unfold Ib;intros;refine lk Azw AuA Tryz.func153 ?_;apply AEB _ (Ai7 ht)<;>assumption
theorem AuR (ht:Tb W):At7 (DE W 270):=by unfold At7;intros;refine lk AzS AuF Tryz.func69 ?_;apply AES _ (Aw4 ht) (Atl ht)<;>assumption
theorem Awu (ht:Tb W):XD (DE W 183):=by unfold XD;intros;refine lk AE3 Ayb Tryz.func72 ?_;apply AJ4 _ (Ai7 ht) (Asz ht)<;>assumption
theorem AAu (ht:Tb W):AvT (DE W 271):=by unfold AvT;intros;refine lk Ayu At2 Tryz.func71 ?_;apply AEH _ (Awu ht)<;>assumption
theorem Ax9 (ht:Tb W):Au4 (DE W) (DE W 406):=by unfold Au4;intros;refine lk Ath AlU Tryz.func154 ?_;apply ADz _<;>assumption
theorem At6 (ht:Tb W):As3 (DE W) (DE W 272):=by unfold As3;intros;refine lk As4 AjG Tryz.func70 ?_;apply AAs _ (Ax9 ht)<;>assumption
theorem As1 (ht:Tb W):Ij (DE W 239):=by unfold Ij;intros;refine lk Az0 AuD Tryz.func23 ?_;apply AE1 _ (AmS ht) (Azi ht) (AuR ht) (AAu ht) (At6 ht) (Ai7 ht)<;>assumption
theorem ADd (ht:Tb W):AyN (DE W 237):=by unfold AyN;intros;refine lk AAM Avk Tryz.func318 ?_;apply AIa _ (As1 ht)<;>assumption
theorem Awp (ht:Tb W):As8 (DE W) (DE W 393):=by unfold As8;intros;refine lk AsG Aft Tryz.func388 ?_;apply Azb _<;>assumption
theorem Avp (ht:Tb W):AsI (DE W) (DE W 238):=by unfold AsI;intros;refine lk Ar0 Afs Tryz.func317 ?_;apply AxD _ (Awp ht)<;>assumption
theorem ArK (ht:Tb W):FX (DE W 176):=by unfold FX;intros;refine lk AAk Avj Tryz.func226 ?_;apply AFU _ (Ai7 ht)<;>assumption
theorem Azp (ht:Tb W):U3 (DE W 184):=by unfold U3;intros;refine lk ACK AwR Tryz.func233 ?_;apply AIC _ (Au1 ht) (AyG ht) (Azi ht) (Ayk ht) (ADd ht) (Avp ht) (ArK ht) (Arb ht) (Ai7 ht)<;>assumption
theorem ADa (ht:Tb W):RJ (DE W 116):=by unfold RJ;intros;refine lk ABZ Av7 Tryz.func134 ?_;apply AHb _ (Alz ht) (Azp ht)<;>assumption
theorem AIe (ht:Tb W):AF2 (DE W 43):=by unfold AF2;intros;refine lk AzR AuB Tryz.func53 ?_;apply AFj _ (Ai7 ht) (Awx ht) (ADa ht)<;>assumption
theorem As6 (ht:Tb W):Au5 (DE W 117):=by unfold Au5;intros;refine lk ADX Axy Tryz.func135 ?_;apply AKi _ (Ai7 ht)<;>assumption
end Go.Eng.T
