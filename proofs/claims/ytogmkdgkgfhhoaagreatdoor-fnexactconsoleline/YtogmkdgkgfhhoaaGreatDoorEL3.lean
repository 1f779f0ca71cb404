/- Own work: part 27 of the proof of FnExactConsoleLine. -/
import Derived.Test.YtogmkdgkgfhhoaaGreatDoorEL2
set_option linter.unusedSimpArgs false
set_option linter.unusedVariables false
namespace Go.Eng.T
open Go.Proofs Go.Lib
set_option maxRecDepth 100000
variable {W:Go.World}
theorem AtL (ht:Tb W):JX (DE W 320):=by unfold JX;intros;refine lk ACJ AwF Tryz.func462 ?_;apply AHW _ (Ai7 ht) (AB6 ht) (Asz ht)<;>assumption
theorem AGs (ht:Tb W):AFL (DE W 323):=AHz (k:=464) rfl (fun b o c w=>Go.Eng.Ins.ALH b o c w) (fun b o c v w h=>Go.Eng.Ins.ALM b o c v w h) (fun b o c v w h=>Go.Eng.Ins.ALJ b o c v w h)
theorem AFF (ht:Tb W):AFY (DE W 324):=AHx (k:=466) rfl Go.Eng.Ins.ALI
theorem ACa (ht:Tb W):O8 (DE W 290):=by unfold O8;intros;refine lk Azs AuV Tryz.func432 ?_;apply AFy _ (ABc ht) (AC0 ht) (AtL ht) (AB6 ht) (ADj ht) (AGs ht) (AFF ht)<;>assumption
theorem AE4 (ht:Tb W):U7 (DE W 261):=by unfold U7;intros;refine lk ACM Aw2 Tryz.func382 ?_;apply AH6 _ (As1 ht) (ACa ht)<;>assumption
theorem AsU (ht:Tb W):Gr (DE W 292):=by unfold Gr;intros;refine lk ACn AwM Tryz.func437 ?_;apply AH4 _ (AmS ht) (AtL ht)<;>assumption
theorem Azn (ht:Tb W):Q9 (DE W 293):=by unfold Q9;intros;refine lk AAz AvD Tryz.func438 ?_;apply AG3 _ (ABc ht)<;>assumption
theorem AIZ (ht:Tb W):AK8 (DE W 325):=AKU (k:=468) rfl (fun b off n c zs w h1 h2 h3 h4=>Tryz.slices_Max_int b off n c zs w h1 h2 h3 h4)
theorem AFw (ht:Tb W):AC7 (DE W 326):=by unfold AC7;intros;refine lk ACz AwI Tryz.func470 ?_;apply AKh _ (Arb ht) (Ai7 ht)<;>assumption
theorem Axe (ht:Tb W):Atu (DE W) (DE W 327):=by unfold Atu;intros;refine lk As5 Ajk Tryz.func469 ?_;apply AAJ _ (Ava ht)<;>assumption
theorem AGO (ht:Tb W):AFW (DE W 295):=by unfold AFW;intros;refine lk AEY Aya Tryz.func439 ?_;apply AKS _ (AIZ ht) (AFw ht) (Axe ht)<;>assumption
theorem AHg (ht:Tb W):AIh (DE W 296):=AJp (k:=440) rfl (fun n c w=>Tryz.slices_Clone_int_nil n c w) (fun a c w=>Tryz.slices_Clone_int_zero a c w) (fun b off n c zs w h1 h2 h3=>Tryz.slices_Clone_int b off n c zs w h1 h2 h3)
theorem ADm (ht:Tb W):AyQ (DE W 297):=by unfold AyQ;intros;refine lk AAG Avq Tryz.func442 ?_;apply AH3 _ (Arb ht)<;>assumption
theorem Azg (ht:Tb W):Vm (DE W 294):=by unfold Vm;intros;refine lk ACP AwK Tryz.func394 ?_;apply AH8 _ (Awu ht) (AsU ht) (AGO ht) (AHg ht) (ADm ht) (As2 ht)<;>assumption
theorem Auw (ht:Tb W):Jj (DE W 274):=by unfold Jj;intros;refine lk ABV Awk Tryz.func389 ?_;apply AGG _ (AsU ht) (Azn ht) (Azg ht)<;>assumption
theorem AsP (ht:Tb W):Uu (DE W 357):=by unfold Uu;intros;refine lk AvZ AsV Tryz.func57 ?_;apply AJ5 _<;>assumption
theorem ADs (ht:Tb W):Aw8 (DE W 371):=by unfold Aw8;intros;refine lk AB0 Awa Tryz.func510 ?_;apply AIr _ (AsP ht)<;>assumption
theorem AAI (ht:Tb W):Axq (DE W) (DE W 372):=by unfold Axq;intros;refine lk Ap0 Afd Tryz.func509 ?_;apply AG7 _<;>assumption
theorem AF1 (ht:Tb W):VY (DE W 358):=by unfold VY;intros;refine lk AAL AvE Tryz.func493 ?_;apply AFT _ (ADs ht) (AAI ht)<;>assumption
theorem ADr (ht:Tb W):R7 (DE W 340):=by unfold R7;intros;refine lk Aza Auu Tryz.func474 ?_;apply AD4 _ (AsP ht) (AF1 ht)<;>assumption
theorem Aws (ht:Tb W):Ld (DE W 314):=by unfold Ld;intros;refine lk Ay8 Auc Tryz.func456 ?_;apply ADB _ (Auw ht) (ADr ht)<;>assumption
theorem Axd (ht:Tb W):JZ (DE W 273):=by unfold JZ;intros;refine lk AzP AuN Tryz.func390 ?_;apply AEJ _<;>assumption
theorem Awn (ht:Tb W):JH (DE W 240):=by unfold JH;intros;refine lk AyH AtU Tryz.func319 ?_;apply AB9 _ (AmS ht) (Axd ht) (Auw ht)<;>assumption
theorem Awd (ht:Tb W):AfF (DE W 189):=by unfold AfF;intros;refine lk AxU AtM Tryz.func236 ?_;apply AHL _ (Arb ht)<;>assumption
theorem ABw (ht:Tb W):J4 (DE W 360):=by unfold J4;intros;refine lk AzU AuH Tryz.func495 ?_;apply AEI _ (AmS ht) (Axd ht) (Auw ht)<;>assumption
theorem ADR (ht:Tb W):R6 (DE W 341):=by unfold R6;intros;refine lk ABn Awb Tryz.func476 ?_;apply AHo _ (AtL ht) (ABw ht) (Aws ht)<;>assumption
theorem ABQ (ht:Tb W):Awr (DE W 359):=by unfold Awr;intros;refine lk Ay6 Aur Tryz.func494 ?_;apply AFB _ (Arb ht)<;>assumption
theorem ACm (ht:Tb W):Po (DE W 342):=by unfold Po;intros;refine lk ABg Avh Tryz.func475 ?_;apply AFp _ (AsU ht) (Awd ht) (ABQ ht) (As2 ht)<;>assumption
theorem ADc (ht:Tb W):RQ (DE W 315):=by unfold RQ;intros;refine lk Ax3 AtC Tryz.func457 ?_;apply AG1 _ (Awn ht) (Awd ht) (ADR ht) (ACm ht)<;>assumption
theorem AD2 (ht:Tb W):Rs (DE W 287):=by unfold Rs;intros;refine lk ABW Av6 Tryz.func429 ?_;apply AHk _ (AsU ht) (Aws ht) (Azn ht) (ADc ht)<;>assumption
theorem ADQ (ht:Tb W):AyO (DE W 374):=by unfold AyO;intros;refine lk AA4 AvJ Tryz.func512 ?_;apply AIz _ (Arb ht)<;>assumption
theorem AEi (ht:Tb W):QD (DE W 361):=by unfold QD;intros;refine lk ACb AwQ Tryz.func497 ?_;apply AHN _ (ADQ ht) (As2 ht)<;>assumption
theorem ACo (ht:Tb W):Axo (DE W 373):=by unfold Axo;intros;refine lk AxZ AtI Tryz.func511 ?_;apply AEa _ (Aw4 ht)<;>assumption
theorem Az3 (ht:Tb W):Lv (DE W 362):=by unfold Lv;intros;refine lk Ay4 Aue Tryz.func496 ?_;apply ADH _ (ACo ht) (As2 ht)<;>assumption
theorem AFZ (ht:Tb W):Zx (DE W 343):=by unfold Zx;intros;refine lk AyI AtT Tryz.func477 ?_;apply AJd _ (AqU ht) (AsU ht) (AEi ht) (Az3 ht)<;>assumption
theorem Aym (ht:Tb W):NR (DE W 369):=by unfold NR;intros;refine lk ABL Av1 Tryz.func504 ?_;apply AGU _ (Ai7 ht) (AtL ht)<;>assumption
theorem AvV (ht:Tb W):UX (DE W 317):=by unfold UX;intros;refine lk ADV AxM Tryz.func459 ?_;apply AJg _<;>assumption
theorem ACO (ht:Tb W):AxI (DE W 370):=by unfold AxI;intros;refine lk AA8 Avu Tryz.func505 ?_;apply AFG _ (AvV ht) (AuR ht)<;>assumption
theorem ACd (ht:Tb W):PY (DE W 348):=by unfold PY;intros;refine lk AA6 AvM Tryz.func482 ?_;apply AFK _ (AsU ht) (Aym ht) (Arb ht) (AvV ht) (Awd ht) (ACO ht)<;>assumption
theorem Axf (ht:Tb W):Kg (DE W 367):=by unfold Kg;intros;refine lk AzM AuU Tryz.func502 ?_;apply AEA _ (AtL ht)<;>assumption
theorem AIw (ht:Tb W):AJZ (DE W 419):=AJn (k:=514) rfl (fun w=>Go.Eng.Ins.ALr w) (fun n w h1 h2=>Go.Eng.Ins.ALt n w h1 h2)
theorem ABf (ht:Tb W):ABa (DE W 368):=by unfold ABa;intros;refine lk Avs AsF Tryz.func503 ?_;apply AJR _ (AIw ht)<;>assumption
theorem ABy (ht:Tb W):MV (DE W 345):=by unfold MV;intros;refine lk AzE AuP Tryz.func480 ?_;apply AE0 _ (AsU ht) (Axf ht) (ABf ht)<;>assumption
theorem AAT (ht:Tb W):Lb (DE W 346):=by unfold Lb;intros;refine lk Ay9 Aub Tryz.func481 ?_;apply AC9 _ (Aym ht) (Axf ht)<;>assumption
theorem ADO (ht:Tb W):AyT (DE W 375):=by unfold AyT;intros;refine lk Axu Ato Tryz.func513 ?_;apply AH9 _ (Asz ht)<;>assumption
theorem Azh (ht:Tb W):Qq (DE W 364):=by unfold Qq;intros;refine lk Ayq AtX Tryz.func499 ?_;apply AIt _ (ADO ht) (AtJ ht)<;>assumption
theorem ACX (ht:Tb W):OV (DE W 365):=by unfold OV;intros;refine lk Axv Atn Tryz.func501 ?_;apply AGr _ (Azh ht) (AzA ht)<;>assumption
theorem AHl (ht:Tb W):AeA (DE W 366):=by unfold AeA;intros;refine lk AAQ Avl Tryz.func500 ?_;apply AJO _ (ABf ht) (AzA ht)<;>assumption
theorem AAm (ht:Tb W):ZE (DE W 347):=by unfold ZE;intros;refine lk ABF AvX Tryz.func479 ?_;apply AJy _ (Ayk ht) (Azh ht) (Ai7 ht) (ACX ht) (AHl ht)<;>assumption
theorem ACC (ht:Tb W):AxF (DE W 349):=by unfold AxF;intros;refine lk AAv Avv Tryz.func483 ?_;apply AFk _ (AAm ht)<;>assumption
theorem AGN (ht:Tb W):AFu (DE W 316):=by unfold AFu;intros;refine lk ADk AxB Tryz.func458 ?_;apply AKL _ (AFZ ht) (ACd ht) (ABy ht) (AAT ht) (AAm ht) (ACC ht) (AvV ht)<;>assumption
theorem ADq (ht:Tb W):RY (DE W 288):=by unfold RY;intros;refine lk ABG Awl Tryz.func430 ?_;apply AGS _ (Auw ht) (AGN ht)<;>assumption
theorem AEK (ht:Tb W):UC (DE W 289):=by unfold UC;intros;refine lk ACN AwP Tryz.func431 ?_;apply AHJ _ (Awd ht) (AvV ht) (Ai7 ht)<;>assumption
theorem AIi (ht:Tb W):AfC (DE W 262):=by unfold AfC;intros;refine lk AFN Azx Tryz.func381 ?_;apply AKF _ (AD2 ht) (ADq ht) (AEK ht)<;>assumption
theorem AEl (ht:Tb W):Uj (DE W 227):=by unfold Uj;intros;refine lk ACE AwE Tryz.func310 ?_;apply AIb _ (As1 ht) (AE4 ht) (AIi ht)<;>assumption
theorem Az8 (ht:Tb W):ZL (DE W 173):=by unfold ZL;intros;refine lk ADG AxC Tryz.func223 ?_;apply AJE _ (As6 ht) (AEl ht)<;>assumption
theorem AE5 (ht:Tb W):Ui (DE W 291):=by unfold Ui;intros;refine lk ACj Aw3 Tryz.func433 ?_;apply AHF _ (Ai7 ht)<;>assumption
theorem Azl (ht:Tb W):V3 (DE W 263):=by unfold V3;intros;refine lk ACg AwY Tryz.func383 ?_;apply AHT _ (ArK ht) (Ai7 ht) (AE5 ht)<;>assumption
theorem ADE (ht:Tb W):Af6 (DE W 228):=by unfold Af6;intros;refine lk AFV AzB Tryz.func311 ?_;apply AKA _ (Azl ht)<;>assumption
theorem AEG (ht:Tb W):Vw (DE W 174):=by unfold Vw;intros;refine lk ACt AwJ Tryz.func224 ?_;apply AIk _ (As6 ht) (ADE ht) (Arb ht)<;>assumption
theorem AxT (ht:Tb W):PN (DE W 229):=by unfold PN;intros;refine lk AEx Ayx Tryz.func312 ?_;apply AKv _ (Arb ht)<;>assumption
theorem AxR (ht:Tb W):PN (DE W 175):=by unfold PN;intros;refine lk AAZ Avg Tryz.func225 ?_;apply AGt _ (AxT ht)<;>assumption
theorem Ayl (ht:Tb W):RZ (DE W 106):=by unfold RZ;intros;refine lk ABs Av8 Tryz.func126 ?_;apply AGZ _ (Alz ht) (As6 ht) (Az8 ht) (AEG ht) (Ax8 ht) (AxR ht)<;>assumption
theorem AG2 (ht:Tb W):AC8 (DE W 44):=by unfold AC8;intros;refine lk ADo Axp Tryz.func54 ?_;apply AJq _ (Alz ht) (Ayl ht)<;>assumption
theorem AGh (ht:Tb W):AC6 (DE W 105):=by unfold AC6;intros;refine lk Auf AqZ Tryz.func125 ?_;apply AIv _<;>assumption
theorem AEy (ht:Tb W):AyW (DE W 40):=by unfold AyW;intros;refine lk ACA AwS Tryz.func50 ?_;apply AJj _ (AGh ht)<;>assumption
theorem AFD (ht:Tb W):AIR (DE W 264):=fun l i v hl hi=>AH0 (Ae:=Ae) (g:=264) (k:=384) (t3:=Tryz.Azj.t 3) rfl (fun b off n c i vb voff m vc cs vs w h1 h2 h3 h4 h5 h6 h7 h8 h9 h10 h11 h12 h13 tA tB kA kB h14 h15 h16 h17 h18=>Any2.slices_Insert_int_shift Tryz.AyP b off n c i vb voff m vc cs vs w h1 h2 h3 h4 h5 h6 h7 h8 h9 h10 h11 h12 h13 tA tB kA kB h14 h15 h16 h17 h18) (fun b off n c vb voff m vc vs w h1 h2 h3 h4 h5 h6 h7 h8=>Any2.slices_Insert_int_end_room Tryz.AyP b off n c vb voff m vc vs w h1 h2 h3 h4 h5 h6 h7 h8) (fun base n c vb voff m vc cs vs w h1 h2 h3 h4 h5 h6 h7 h8 h9 h10=>Any2.slices_Insert_int_end_grow Tryz.AyP base n c vb voff m vc cs vs w h1 h2 h3 h4 h5 h6 h7 h8 h9 h10) (fun b off n c i vb voff m vc cs vs w h1 h2 h3 h4 h5 h6 h7 h8 h9 h10 h11=>Any2.slices_Insert_int_grow Tryz.AyP b off n c i vb voff m vc cs vs w h1 h2 h3 h4 h5 h6 h7 h8 h9 h10 h11) l i v hl hi
theorem AAp (ht:Tb W):AvR (DE W 230):=by unfold AvR;intros;refine lk Ayz At1 Tryz.func313 ?_;apply AEh _ (AFD ht)<;>assumption
theorem Aw9 (ht:Tb W):J3 (DE W 177):=by unfold J3;intros;refine lk Ay3 Aun Tryz.func227 ?_;apply AED _ (Alz ht) (ArK ht) (ADE ht) (AAp ht)<;>assumption
theorem ACv (ht:Tb W):OT (DE W 107):=by unfold OT;intros;refine lk ABb Avy Tryz.func127 ?_;apply AF8 _ (Alz ht) (ArK ht) (Aw9 ht)<;>assumption
theorem AEc (ht:Tb W):NV (DE W 193):=by unfold NV;intros;refine lk ABr Av0 Tryz.func239 ?_;apply AGD _ (AxT ht)<;>assumption
theorem ADK (ht:Tb W):RH (DE W 194):=by unfold RH;intros;refine lk ABD Awe Tryz.func240 ?_;apply AHs _ (Asz ht) (Ai7 ht)<;>assumption
theorem AxS (ht:Tb W):Pq (DE W 127):=by unfold Pq;intros;refine lk AAl Avf Tryz.func142 ?_;apply AGo _ (AEc ht) (ADK ht)<;>assumption
theorem ACq (ht:Tb W):PX (DE W 178):=by unfold PX;intros;refine lk AA3 AvI Tryz.func228 ?_;apply AGe _ (AvA ht) (ArK ht)<;>assumption
theorem ACp (ht:Tb W):Pj (DE W 179):=by unfold Pj;intros;refine lk AAV AvF Tryz.func229 ?_;apply AFQ _ (AvA ht) (ArK ht)<;>assumption
theorem AwH (ht:Tb W):Aw5 (DE W 189):=by unfold Aw5;intros;refine lk AxU AtM Tryz.func236 ?_;apply AJl _ (Arb ht)<;>assumption
theorem AzV (ht:Tb W):JG (DE W 180):=by unfold JG;intros;refine lk Ayc At5 Tryz.func230 ?_;apply ACu _ (Alz ht) (AwH ht) (AqU ht)<;>assumption
theorem ACG (ht:Tb W):Pk (DE W 108):=by unfold Pk;intros;refine lk Az9 Avn Tryz.func128 ?_;apply AFA _ (Alz ht) (AxS ht) (ACq ht) (Aw9 ht) (ACp ht) (AzV ht)<;>assumption
theorem Ayw (ht:Tb W):Ry (DE W 124):=by unfold Ry;intros;refine lk ABP Awj Tryz.func138 ?_;apply AGE _ (AqU ht) (AwH ht)<;>assumption
theorem AG6 (ht:Tb W):Ae1 (DE W 265):=by unfold Ae1;intros;refine lk AEn AyD Tryz.func385 ?_;apply AKj _ (AqU ht)<;>assumption
theorem ACZ (ht:Tb W):PG (DE W 231):=by unfold PG;intros;refine lk AAR AvG Tryz.func314 ?_;apply AFt _ (AmS ht) (Arb ht) (Ai7 ht) (Ayw ht) (AG6 ht)<;>assumption
theorem Azd (ht:Tb W):IG (DE W 181):=by unfold IG;intros;refine lk Ax2 AtH Tryz.func231 ?_;apply ABl _ (ACZ ht) (AwH ht)<;>assumption
theorem ABk (ht:Tb W):MZ (DE W 109):=by unfold MZ;intros;refine lk AzC AuS Tryz.func129 ?_;apply AEm _ (Alz ht) (Au1 ht) (Azd ht)<;>assumption
theorem AD5 (ht:Tb W):AIN (DE W 197):=AJe (k:=243) rfl (fun p c w=>Tryz.slices_Sort_int_none p c w) (fun b o c zs w h1 h2 h3=>Tryz.slices_Sort_int b o c zs w h1 h2 h3)
theorem AB4 (ht:Tb W):MH (DE W 182):=by unfold MH;intros;refine lk Aze Aup Tryz.func232 ?_;apply AEw _ (AmS ht) (Ai7 ht) (Arb ht) (AD5 ht)<;>assumption
theorem ABS (ht:Tb W):MI (DE W 110):=by unfold MI;intros;refine lk AzN Auz Tryz.func130 ?_;apply AEL _ (Alz ht) (AB4 ht)<;>assumption
theorem AEE (ht:Tb W):UJ (DE W 111):=by unfold UJ;intros;refine lk ACV Aw0 Tryz.func131 ?_;apply AHZ _ (Alz ht) (As6 ht) (Awu ht) (AAo ht)<;>assumption
theorem AB8 (ht:Tb W):Pv (DE W 112):=by unfold Pv;intros;refine lk AAi Avw Tryz.func132 ?_;apply AFX _ (Alz ht) (As6 ht)<;>assumption
theorem ADu (ht:Tb W):RL (DE W 113):=by unfold RL;intros;refine lk ABM Awo Tryz.func133 ?_;apply AHj _ (Alz ht) (Ai7 ht)<;>assumption
theorem ACw (ht:Tb W):MS (DE W 41):=by unfold MS;intros;refine lk AzH AuZ Tryz.func51 ?_;apply AER _ (Alz ht) (Ayl ht) (ACv ht) (ACG ht) (ABk ht) (ABS ht) (AEE ht) (AB8 ht) (ADu ht)<;>assumption
theorem AJf (ht:Tb W):AIM (DE W 42):=by unfold AIM;intros;refine lk AFS AzT Tryz.func52 ?_;apply AK2 _<;>assumption
theorem AhP (ht:Tb W):Ane (DE W 241):=AnU (k:=112) rfl (fun a c sep w=>Tryz.strings_Join_none a c sep w) (fun bk o c xs sep w h1 h2 h3 h4 h5=>Tryz.strings_Join bk o c xs sep w h1 h2 h3 h4 h5)
theorem I4 (ht:Tb W):MJ (DE W 187):=by unfold MJ;intros;refine lk Aaz OP Tryz.func38 ?_;apply AnL _ (Fq ht) (AhP ht)<;>assumption
theorem NM (ht:Tb W):J5 (DE W 192):=by unfold J5;intros;refine lk Tw Ji Tryz.func10 ?_;apply Ac2 _ (Fq ht) (I4 ht)<;>assumption
theorem TI (ht:Tb W):JM (DE W 126):=by unfold JM;intros;refine lk Ri HY Tryz.func9 ?_;apply YH _ (Fq ht) (I4 ht) (NM ht)<;>assumption
theorem ABO (ht:Tb W):Awz (DE W 128):=by unfold Awz;intros;refine lk AzF AuM Tryz.func141 ?_;apply AEO _ (Ai7 ht)<;>assumption
end Go.Eng.T
