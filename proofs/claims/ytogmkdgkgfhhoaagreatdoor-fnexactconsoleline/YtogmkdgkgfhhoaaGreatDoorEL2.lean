/- Own work: part 26 of the proof of FnExactConsoleLine. -/
import Derived.Test.YtogmkdgkgfhhoaaGreatDoorEL1
set_option linter.unusedSimpArgs false
set_option linter.unusedVariables false
namespace Go.Eng.T
open Go.Proofs Go.Lib
set_option maxRecDepth 100000
variable {W:Go.World}
theorem Sk (ht:Tb W):IG (DE W 150):=by unfold IG;intros;refine lk Qg GQ Tryz.func262 ?_;apply Xt _ (YX ht) (Jt ht)<;>assumption
theorem Yw (ht:Tb W):MZ (DE W 76):=by unfold MZ;intros;refine lk Tz Jq Tryz.func169 ?_;apply AcI _ (CP ht) (V5 ht) (Sk ht)<;>assumption
theorem Xg (ht:Tb W):MH (DE W 151):=by unfold MH;intros;refine lk TF I9 Tryz.func263 ?_;apply Ac5 _ (Cn ht) (CU ht) (FN ht) (FR ht)<;>assumption
theorem YZ (ht:Tb W):MI (DE W 77):=by unfold MI;intros;refine lk Tx Jb Tryz.func170 ?_;apply Ac0 _ (CP ht) (Xg ht)<;>assumption
theorem Aef (ht:Tb W):UJ (DE W 78):=by unfold UJ;intros;refine lk Yj Ni Tryz.func171 ?_;apply AiB _ (CP ht) (CU ht) (Q0 ht)<;>assumption
theorem Aar (ht:Tb W):Pv (DE W 79):=by unfold Pv;intros;refine lk Vq KD Tryz.func172 ?_;apply Aez _ (CP ht) (CU ht)<;>assumption
theorem Ada (ht:Tb W):RL (DE W 80):=by unfold RL;intros;refine lk Xq LV Tryz.func173 ?_;apply AfW _ (CP ht) (CU ht)<;>assumption
theorem Ye (ht:Tb W):MS (DE W 27):=by unfold MS;intros;refine lk TM Jv Tryz.func85 ?_;apply Adc _ (CP ht) (Adb ht) (Aav ht) (AaU ht) (Yw ht) (YZ ht) (Aef ht) (Aar ht) (Ada ht)<;>assumption
theorem AHC (ht:Tb W):MJ (DE W 154):=by unfold MJ;intros;refine lk ANm AMd Tryz.func266 ?_;apply APa _ (AxQ ht)<;>assumption
theorem ANf (ht:Tb W):J5 (DE W 153):=by unfold J5;intros;refine lk AML AKZ Tryz.func265 ?_;apply AN8 _ (AxQ ht) (AHC ht)<;>assumption
theorem AMZ (ht:Tb W):JM (DE W 81):=by unfold JM;intros;refine lk AMx AGw Tryz.func174 ?_;apply ANz _ (AxQ ht) (AHC ht) (ANf ht)<;>assumption
theorem ANv (ht:Tb W):Awz (DE W 83):=by unfold Awz;intros;refine lk AMM AK1 Tryz.func175 ?_;apply AOb _ (CU ht)<;>assumption
theorem AOE (ht:Tb W):ANC (DE W 257):=by unfold ANC;intros;refine lk ANP AMk Tryz.func414 ?_;apply APq _<;>assumption
theorem AN0 (ht:Tb W):AA9 (DE W 218):=by unfold AA9;intros;refine lk AMt AFO Tryz.func342 ?_;apply AOQ _ (Q0 ht) (Oi ht) (AOE ht) (Acw ht)<;>assumption
theorem ANs (ht:Tb W):Axz (DE W 157):=by unfold Axz;intros;refine lk AMv AE8 Tryz.func269 ?_;apply AOt _ (AN0 ht)<;>assumption
theorem AOd (ht:Tb W):AyX (DE W 84):=by unfold AyX;intros;refine lk AM7 AL5 Tryz.func178 ?_;apply AOG _ (ANs ht)<;>assumption
theorem ALl (ht:Tb W):Kb (DE W 85):=by unfold Kb;intros;refine lk AMP ALd Tryz.func177 ?_;apply ANX _ (AHC ht)<;>assumption
theorem AN7 (ht:Tb W):AAY (DE W 165):=by unfold AAY;intros;refine lk ANt AL8 Tryz.func276 ?_;apply AO1 _ (Jl ht) (T9 ht) (AaM ht) (FO ht)<;>assumption
theorem AMY (ht:Tb W):Ayv (DE W 92):=by unfold Ayv;intros;refine lk ANk AMa Tryz.func186 ?_;apply AOW _ (CU ht) (AN7 ht)<;>assumption
theorem AL2 (ht:Tb W):Atq (DE W 86):=by unfold Atq;intros;refine lk AMs AFH Tryz.func179 ?_;apply ANg _ (AMY ht)<;>assumption
theorem ANQ (ht:Tb W):AGT (DE W 158):=by unfold AGT;intros;refine lk ANI AMj Tryz.func270 ?_;apply APr _ (Zd ht)<;>assumption
theorem AMI (ht:Tb W):Axh (DE W 87):=by unfold Axh;intros;refine lk ANe ALZ Tryz.func180 ?_;apply AOI _ (ANQ ht) (FR ht)<;>assumption
theorem AMB (ht:Tb W):Gy (DE W 160):=by unfold Gy;intros;refine lk AMu AFv Tryz.func271 ?_;apply ANa _ (AxQ ht) (AHC ht)<;>assumption
theorem ANi (ht:Tb W):K9 (DE W 88):=by unfold K9;intros;refine lk AMG AJw Tryz.func181 ?_;apply ANV _ (AxQ ht) (AHC ht) (AMB ht)<;>assumption
theorem ANR (ht:Tb W):AyY (DE W 219):=by unfold AyY;intros;refine lk AM5 AL0 Tryz.func343 ?_;apply AOL _ (Fs ht) (CU ht) (Mh ht) (Acz ht) (ZN ht)<;>assumption
theorem ANA (ht:Tb W):AxJ (DE W 161):=by unfold AxJ;intros;refine lk AM3 ALT Tryz.func272 ?_;apply AOn _ (Mh ht) (AMI ht) (ANR ht)<;>assumption
theorem ANZ (ht:Tb W):AAU (DE W 259):=by unfold AAU;intros;refine lk ANr AMf Tryz.func415 ?_;apply AO4 _ (Q0 ht)<;>assumption
theorem AMT (ht:Tb W):AvU (DE W 220):=by unfold AvU;intros;refine lk AMD AHD Tryz.func344 ?_;apply ANJ _ (ANZ ht)<;>assumption
theorem ANh (ht:Tb W):AwB (DE W 162):=by unfold AwB;intros;refine lk AMO AJH Tryz.func273 ?_;apply AN4 _ (AeZ ht) (AMT ht) (FO ht) (V5 ht) (Aa2 ht)<;>assumption
theorem ANw (ht:Tb W):AxG (DE W 163):=by unfold AxG;intros;refine lk AMV ALD Tryz.func274 ?_;apply AOv _ (ANQ ht)<;>assumption
theorem ANc (ht:Tb W):At7 (DE W 221):=by unfold At7;intros;refine lk AMJ AKg Tryz.func345 ?_;apply AN1 _ (Jg ht)<;>assumption
theorem AN6 (ht:Tb W):AAr (DE W 164):=by unfold AAr;intros;refine lk ANB AMb Tryz.func275 ?_;apply AO3 _ (ANc ht) (CU ht)<;>assumption
theorem AOz (ht:Tb W):AA0 (DE W 89):=by unfold AA0;intros;refine lk ANl AMc Tryz.func183 ?_;apply AOR _ (AcU ht) (ANA ht) (ANh ht) (ANw ht) (AN6 ht)<;>assumption
theorem APD (ht:Tb W):OrS (DE W 90):=by unfold OrS;intros;refine lk AN5 AMz Tryz.func182 ?_;apply APF _<;>assumption
theorem APj (ht:Tb W):AO6 (DE W 29):=by unfold AO6;intros;refine lk ANj AL9 Tryz.func87 ?_;apply APb _ (AMZ ht) (AaD ht) (ANv ht) (AOd ht) (ALl ht) (AL2 ht) (AMI ht) (ANi ht) (AOz ht) (APD ht)<;>assumption
theorem ANM (ht:Tb W):Pm (DE W 91):=by unfold Pm;intros;refine lk AMX ALF Tryz.func184 ?_;apply AOp _ (AxQ ht) (ALl ht)<;>assumption
theorem ANu (ht:Tb W):Awv (DE W 94):=by unfold Awv;intros;refine lk AMQ AKt Tryz.func187 ?_;apply AN2 _ (FN ht)<;>assumption
theorem ANo (ht:Tb W):Axm (DE W 225):=by unfold Axm;intros;refine lk AMU ALE Tryz.func348 ?_;apply AOo _ (CU ht)<;>assumption
theorem ANp (ht:Tb W):AxN (DE W 169):=by unfold AxN;intros;refine lk AM0 ALi Tryz.func280 ?_;apply AOr _ (ANo ht) (CU ht)<;>assumption
theorem ANH (ht:Tb W):AxK (DE W 97):=by unfold AxK;intros;refine lk AM1 ALm Tryz.func190 ?_;apply AOx _ (AL2 ht) (ANp ht)<;>assumption
theorem APz (ht:Tb W):APG (DE W 30):=by unfold APG;intros;refine lk ANT AMo Tryz.func88 ?_;apply APw _ (CU ht) (ANM ht) (AMY ht) (AxQ ht) (ANu ht) (ALl ht) (V5 ht) (AcY ht) (ANH ht)<;>assumption
theorem APv (ht:Tb W):AGB (DE W 9):=by unfold AGB;intros;refine lk AMy AGv Tryz.func31 ?_;apply ANF _ (AOU ht) (CP ht) (ANq ht) (ANO ht) (AOM ht) (AOs ht) (Ye ht) (AOl ht) (APj ht) (APz ht)<;>assumption
theorem ADt (ht:Tb W):AF3 (DE W 14):=by
 obtain⟨m,hm⟩:=ht.ml
 exact AJi (k:=46) (b:=0) (t:=9) (W:=W) (m:=m) rfl (lt_of_cell hm) rfl hm (fun s sep m w h1 h2 h3=>Tryz.strings_Split s sep m w h1 h2 h3)
theorem AHc (ht:Tb W):AFm (DE W 37):=AIm (k:=45) (k36:=47) rfl rfl (fun blk off cap d w h1 h2 h3=>Con.del blk off cap d w h1 h2 h3)
theorem AAo (ht:Tb W):AAf (DE W 172):=by unfold AAf;intros;refine lk ABo Awh Tryz.func221 ?_;apply AHH _<;>assumption
theorem ABH (ht:Tb W):MF (DE W 102):=by unfold MF;intros;refine lk Ayj AtZ Tryz.func122 ?_;apply ADP _ (AAo ht)<;>assumption
theorem AvA (ht:Tb W):Je (DE W 101):=by unfold Je;intros;refine lk Ay7 Aui Tryz.func121 ?_;apply AEp _<;>assumption
theorem Ax8 (ht:Tb W):NY (DE W 103):=by unfold NY;intros;refine lk Azt AuL Tryz.func123 ?_;apply AGn _<;>assumption
theorem Alz (ht:Tb W):EF (DE W 38):=by unfold EF;intros;refine lk ABi Avi Tryz.func48 ?_;apply AHd _ (ABH ht) (AvA ht) (Ax8 ht)<;>assumption
theorem Ai7 (ht:Tb W):Vf (DE W 114):=by unfold Vf;intros;refine lk ACh AwZ Tryz.func66 ?_;apply AIX _<;>assumption
theorem YP (ht:Tb W):EB (DE W 185):=AmX (k:=111) (b:=1) (W:=W) rfl ApV (Amj ApV ht.tab) rfl ht.tab (fun n h0 h1 w h=>Tryz.strconv_Itoa n h0 h1 w h)
theorem Fq (ht:Tb W):EB (DE W 120):=by unfold EB;intros;refine lk UZ KX Tryz.func37 ?_;apply AeF _ (YP ht)<;>assumption
theorem ADy (ht:Tb W):ABY (DE W 104):=by
 refine AJx (k:=124) rfl fun l w hw hl=> ?_
 refine Con.parse (Gw:=fun w=>∀b,(AeK W) b->b<w.heap.size/\w.heap[b]? =(AeK W).is b) (fun w w' h hb=>AHV h hb) (fun n w h h1 h2=> ?_) (fun n w h h1 h2=> ?_) (fun w h=> ?_) l w hw hl
 ·have:=AAP (g:=114) (id:=66) rfl (vs:=[.int .i64 n,.int .i64 0,.int .i64 1000000000000]) (v:= .bool (decide (0<=n/\n<=1000000000000))) (Ai7 ht n 0 1000000000000) (fun x hx=>by simp only[List.mem_cons,List.not_mem_nil,or_false]at hx;rcases hx with rfl | rfl | rfl<;>rfl) w h
  rw[Bool.decide_and]at this
  exact this
 ·exact AAP (g:=120) (id:=37) rfl (vs:=[.int .i64 n]) (v:= .string (Ww (itoa n))) (Fq ht n ⟨h1,h2⟩) (fun x hx=>by simp only[List.mem_singleton]at hx;subst hx;rfl) w h
 ·obtain⟨e0,c0,i0⟩:=ht.es
  obtain⟨e1,c1,i1⟩:=ht.er
  exact⟨e0,e1,Akg h c0,i0,Akg h c1,i1⟩
theorem ACe (ht:Tb W):AIO ADv (DE W 39):=by unfold AIO;intros;refine lk AAD AvK Tryz.func49 ?_;apply AGz _ (ADy ht)<;>assumption
theorem Awx (ht:Tb W):Aud (DE W 115):=by unfold Aud;intros;refine lk Ay1 Auk Tryz.func22 ?_;apply AD0 _ (Ai7 ht)<;>assumption
theorem Au1 (ht:Tb W):Q8 (DE W 123):=by unfold Q8;intros;refine lk ACH AwD Tryz.func139 ?_;apply AHS _<;>assumption
theorem AmS (ht:Tb W):Dr (DE W 232):=by unfold Dr;intros;refine lk Ay5 Aum Tryz.func67 ?_;apply AEf _ (Ai7 ht)<;>assumption
theorem AG5 (ht:Tb W):AGq (DE W 389):=by unfold AGq;intros;refine lk Av2 AsX Tryz.func320 ?_;apply AKW _<;>assumption
theorem Arb (ht:Tb W):UQ (DE W 188):=by unfold UQ;intros;refine lk Avd Ar5 Tryz.func235 ?_;apply AHI _ (AG5 ht)<;>assumption
theorem ADU (ht:Tb W):Rz (DE W 242):=by unfold Rz;intros;refine lk ABR Awg Tryz.func321 ?_;apply AHB _ (Arb ht)<;>assumption
theorem AqU (ht:Tb W):FQ (DE W 190):=by unfold FQ;intros;refine lk Azv AuE Tryz.func237 ?_;apply AEj _ (ADU ht) (AmS ht)<;>assumption
theorem ACF (ht:Tb W):Axn (DE W 268):=by unfold Axn;intros;refine lk Azr AuY Tryz.func387 ?_;apply AGA _ (AqU ht)<;>assumption
theorem AxV (ht:Tb W):Auq (DE W) (DE W 405):=by unfold Auq;intros;refine lk AtW ApB Tryz.func436 ?_;apply ACy _<;>assumption
theorem AtJ (ht:Tb W):AsQ (DE W) (DE W 269):=by unfold AsQ;intros;refine lk Atv AnX Tryz.func386 ?_;apply AzK _ (AxV ht)<;>assumption
theorem AyG (ht:Tb W):RP (DE W 234):=by unfold RP;intros;refine lk ABj Awf Tryz.func315 ?_;apply AHr _ (AmS ht) (ACF ht) (AtJ ht)<;>assumption
theorem AAg (ht:Tb W):AvQ (DE W 266):=by unfold AvQ;intros;refine lk AyB AtV Tryz.func249 ?_;apply AEs _ (Ai7 ht)<;>assumption
theorem AAC (ht:Tb W):Axr (DE W) (DE W 404):=by unfold Axr;intros;refine lk AuK ArL Tryz.func250 ?_;apply AHv _<;>assumption
theorem Atl (ht:Tb W):Ate (DE W) (DE W 267):=by unfold Ate;intros;refine lk Aua Aqw Tryz.func152 ?_;apply AD8 _ (AAC ht)<;>assumption
theorem Asz (ht:Tb W):AsS (DE W 233):=by unfold AsS;intros;refine lk Azz AuC Tryz.func151 ?_;apply AFJ _ (AAg ht) (Atl ht)<;>assumption
theorem Azi (ht:Tb W):VF (DE W 235):=by unfold VF;intros;refine lk ACi AwG Tryz.func68 ?_;apply AH1 _ (Asz ht)<;>assumption
theorem Ayk (ht:Tb W):Oe (DE W 236):=by unfold Oe;intros;refine lk AzX AuX Tryz.func316 ?_;apply AHy _ (Ai7 ht)<;>assumption
theorem Aw4 (ht:Tb W):Ib (DE W 279):=by unfold Ib;intros;refine lk Azw AuA Tryz.func153 ?_;apply AEB _ (Ai7 ht)<;>assumption
theorem AuR (ht:Tb W):At7 (DE W 270):=by unfold At7;intros;refine lk AzS AuF Tryz.func69 ?_;apply AES _ (Aw4 ht) (Atl ht)<;>assumption
theorem Awu (ht:Tb W):XD (DE W 183):=by unfold XD;intros;refine lk AE3 Ayb Tryz.func72 ?_;apply AJ4 _ (Ai7 ht) (Asz ht)<;>assumption
theorem AAu (ht:Tb W):AvT (DE W 271):=by unfold AvT;intros;refine lk Ayu At2 Tryz.func71 ?_;apply AEH _ (Awu ht)<;>assumption
theorem Ax9 (ht:Tb W):Au4 (DE W) (DE W 406):=by unfold Au4;intros;refine lk Ath AlU Tryz.func154 ?_;apply ADz _<;>assumption
theorem At6 (ht:Tb W):As3 (DE W) (DE W 272):=by unfold As3;intros;refine lk As4 AjG Tryz.func70 ?_;apply AAs _ (Ax9 ht)<;>assumption
theorem As1 (ht:Tb W):Ij (DE W 239):=by unfold Ij;intros;refine lk Az0 AuD Tryz.func23 ?_;apply AE1 _ (AmS ht) (Azi ht) (AuR ht) (AAu ht) (At6 ht) (Ai7 ht)<;>assumption
theorem ADd (ht:Tb W):AyN (DE W 237):=by unfold AyN;intros;refine lk AAM Avk Tryz.func318 ?_;apply AIa _ (As1 ht)<;>assumption
theorem Awp (ht:Tb W):As8 (DE W) (DE W 393):=by unfold As8;intros;refine lk AsG Aft Tryz.func388 ?_;apply Azb _<;>assumption
theorem Avp (ht:Tb W):AsI (DE W) (DE W 238):=by unfold AsI;intros;refine lk Ar0 Afs Tryz.func317 ?_;apply AxD _ (Awp ht)<;>assumption
theorem ArK (ht:Tb W):FX (DE W 176):=by unfold FX;intros;refine lk AAk Avj Tryz.func226 ?_;apply AFU _ (Ai7 ht)<;>assumption
theorem Azp (ht:Tb W):U3 (DE W 184):=by unfold U3;intros;refine lk ACK AwR Tryz.func233 ?_;apply AIC _ (Au1 ht) (AyG ht) (Azi ht) (Ayk ht) (ADd ht) (Avp ht) (ArK ht) (Arb ht) (Ai7 ht)<;>assumption
theorem ADa (ht:Tb W):RJ (DE W 116):=by unfold RJ;intros;refine lk ABZ Av7 Tryz.func134 ?_;apply AHb _ (Alz ht) (Azp ht)<;>assumption
theorem AIe (ht:Tb W):AF2 (DE W 43):=by unfold AF2;intros;refine lk AzR AuB Tryz.func53 ?_;apply AFj _ (Ai7 ht) (Awx ht) (ADa ht)<;>assumption
theorem As6 (ht:Tb W):Au5 (DE W 117):=by unfold Au5;intros;refine lk ADX Axy Tryz.func135 ?_;apply AKi _ (Ai7 ht)<;>assumption
theorem AEN (ht:Tb W):Az6 (DE W 350):=by unfold Az6;intros;refine lk Azu Au0 Tryz.func484 ?_;apply AGQ _<;>assumption
theorem As2 (ht:Tb W):At9 (DE W) (DE W 298):=by unfold At9;intros;refine lk ABC Awm Tryz.func441 ?_;apply AIf _<;>assumption
theorem ABc (ht:Tb W):U5 (DE W 318):=by unfold U5;intros;refine lk ABN Av9 Tryz.func460 ?_;apply AHE _ (AEN ht) (As2 ht)<;>assumption
theorem AFd (ht:Tb W):AnK (DE W 354):=by unfold AnK;intros;refine lk AGY ABX Tryz.func488 ?_;apply ALf _ (Ai7 ht)<;>assumption
theorem AzA (ht:Tb W):AdJ (DE W 353):=by unfold AdJ;intros;refine lk AGb Az2 Tryz.func489 ?_;apply AKP _ (AFd ht)<;>assumption
theorem ADj (ht:Tb W):Ahf (DE W 322):=by unfold Ahf;intros;refine lk ADJ AxL Tryz.func465 ?_;apply AKI _ (AzA ht) (AFd ht)<;>assumption
theorem AC0 (ht:Tb W):O4 (DE W 319):=by unfold O4;intros;refine lk AAy AvB Tryz.func461 ?_;apply AFI _ (ADj ht)<;>assumption
theorem AGl (ht:Tb W):AC5 (DE W 351):=by unfold AC5;intros;refine lk ACB AwN Tryz.func486 ?_;apply AJW _<;>assumption
theorem Ava (ht:Tb W):AtN (DE W) (DE W 352):=by unfold AtN;intros;refine lk Atg AlL Tryz.func485 ?_;apply AD7 _<;>assumption
theorem AB6 (ht:Tb W):Rj (DE W 321):=by unfold Rj;intros;refine lk AEF AyJ Tryz.func463 ?_;apply AKa _ (AGl ht) (Ava ht)<;>assumption
end Go.Eng.T
