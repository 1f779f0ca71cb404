/- Own work: part 26 of the proof of FnExactRunConsole. -/
import Derived.Test.YtogmkdgkgfhhoaaGreatDoorDL2
set_option linter.unusedSimpArgs false
set_option linter.unusedVariables false
namespace Go.Eng.T
open Go.Proofs Go.Lib
set_option maxRecDepth 100000
variable {W:Go.World}
theorem Aw4 (ht:Tb W):Ib (DE W 279):=by unfold Ib;intros;refine lk Azw AuA Tryz.func153 ?_;apply AEB _ (Ai7 ht)<;>assumption
theorem AuR (ht:Tb W):At7 (DE W 270):=by unfold At7;intros;refine lk AzS AuF Tryz.func69 ?_;apply AES _ (Aw4 ht) (Atl ht)<;>assumption
theorem Awu (ht:Tb W):XD (DE W 183):=by unfold XD;intros;refine lk AE3 Ayb Tryz.func72 ?_;apply AJ4 _ (Ai7 ht) (Asz ht)<;>assumption
theorem AAu (ht:Tb W):AvT (DE W 271):=by unfold AvT;intros;refine lk Ayu At2 Tryz.func71 ?_;apply AEH _ (Awu ht)<;>assumption
theorem Ax9 (ht:Tb W):Au4 (DE W) (DE W 406):=by unfold Au4;intros;refine lk Ath AlU Tryz.func154 ?_;apply ADz _<;>assumption
theorem At6 (ht:Tb W):As3 (DE W) (DE W 272):=by unfold As3;intros;refine lk As4 AjG Tryz.func70 ?_;apply AAs _ (Ax9 ht)<;>assumption
theorem As1 (ht:Tb W):Ij (DE W 239):=by unfold Ij;intros;refine lk Az0 AuD Tryz.func23 ?_;apply AE1 _ (AmS ht) (Azi ht) (AuR ht) (AAu ht) (At6 ht) (Ai7 ht)<;>assumption
theorem ADd (ht:Tb W):AyN (DE W 237):=by unfold AyN;intros;refine lk AAM Avk Tryz.func318 ?_;apply AIa _ (As1 ht)<;>assumption
theorem Awp (ht:Tb W):As8 (DE W) (DE W 393):=by unfold As8;intros;refine lk AsG Aft Tryz.func388 ?_;apply Azb _<;>assumption
theorem Avp (ht:Tb W):AsI (DE W) (DE W 238):=by unfold AsI;intros;refine lk Ar0 Afs Tryz.func317 ?_;apply AxD _ (Awp ht)<;>assumption
theorem ArK (ht:Tb W):FX (DE W 176):=by unfold FX;intros;refine lk AAk Avj Tryz.func226 ?_;apply AFU _ (Ai7 ht)<;>assumption
theorem Azp (ht:Tb W):U3 (DE W 184):=by unfold U3;intros;refine lk ACK AwR Tryz.func233 ?_;apply AIC _ (Au1 ht) (AyG ht) (Azi ht) (Ayk ht) (ADd ht) (Avp ht) (ArK ht) (Arb ht) (Ai7 ht)<;>assumption
theorem ADa (ht:Tb W):RJ (DE W 116):=by unfold RJ;intros;refine lk ABZ Av7 Tryz.func134 ?_;apply AHb _ (Alz ht) (Azp ht)<;>assumption
theorem AIe (ht:Tb W):AF2 (DE W 43):=by unfold AF2;intros;refine lk AzR AuB Tryz.func53 ?_;apply AFj _ (Ai7 ht) (Awx ht) (ADa ht)<;>assumption
theorem As6 (ht:Tb W):Au5 (DE W 117):=by unfold Au5;intros;refine lk ADX Axy Tryz.func135 ?_;apply AKi _ (Ai7 ht)<;>assumption
theorem AEN (ht:Tb W):Az6 (DE W 350):=by unfold Az6;intros;refine lk Azu Au0 Tryz.func484 ?_;apply AGQ _<;>assumption
theorem As2 (ht:Tb W):At9 (DE W) (DE W 298):=by unfold At9;intros;refine lk ABC Awm Tryz.func441 ?_;apply AIf _<;>assumption
theorem ABc (ht:Tb W):U5 (DE W 318):=by unfold U5;intros;refine lk ABN Av9 Tryz.func460 ?_;apply AHE _ (AEN ht) (As2 ht)<;>assumption
theorem AFd (ht:Tb W):AnK (DE W 354):=by unfold AnK;intros;refine lk AGY ABX Tryz.func488 ?_;apply ALf _ (Ai7 ht)<;>assumption
theorem AzA (ht:Tb W):AdJ (DE W 353):=by unfold AdJ;intros;refine lk AGb Az2 Tryz.func489 ?_;apply AKP _ (AFd ht)<;>assumption
theorem ADj (ht:Tb W):Ahf (DE W 322):=by unfold Ahf;intros;refine lk ADJ AxL Tryz.func465 ?_;apply AKI _ (AzA ht) (AFd ht)<;>assumption
theorem AC0 (ht:Tb W):O4 (DE W 319):=by unfold O4;intros;refine lk AAy AvB Tryz.func461 ?_;apply AFI _ (ADj ht)<;>assumption
theorem AGl (ht:Tb W):AC5 (DE W 351):=by unfold AC5;intros;refine lk ACB AwN Tryz.func486 ?_;apply AJW _<;>assumption
theorem Ava (ht:Tb W):AtN (DE W) (DE W 352):=by unfold AtN;intros;refine lk Atg AlL Tryz.func485 ?_;apply AD7 _<;>assumption
theorem AB6 (ht:Tb W):Rj (DE W 321):=by unfold Rj;intros;refine lk AEF AyJ Tryz.func463 ?_;apply AKa _ (AGl ht) (Ava ht)<;>assumption
theorem AtL (ht:Tb W):JX (DE W 320):=by unfold JX;intros;refine lk ACJ AwF Tryz.func462 ?_;apply AHW _ (Ai7 ht) (AB6 ht) (Asz ht)<;>assumption
theorem AGs (ht:Tb W):AFL (DE W 323):=AHz (k:=464) rfl (fun b o c w=>Go.Eng.Ins.ALH b o c w) (fun b o c v w h=>Go.Eng.Ins.ALM b o c v w h) (fun b o c v w h=>Go.Eng.Ins.ALJ b o c v w h)
theorem AFF (ht:Tb W):AFY (DE W 324):=AHx (k:=466) rfl Go.Eng.Ins.ALI
theorem ACa (ht:Tb W):O8 (DE W 290):=by unfold O8;intros;refine lk Azs AuV Tryz.func432 ?_;apply AFy _ (ABc ht) (AC0 ht) (AtL ht) (AB6 ht) (ADj ht) (AGs ht) (AFF ht)<;>assumption
theorem AE4 (ht:Tb W):U7 (DE W 261):=by unfold U7;intros;refine lk ACM Aw2 Tryz.func382 ?_;apply AH6 _ (As1 ht) (ACa ht)<;>assumption
theorem AsU (ht:Tb W):Gr (DE W 292):=by unfold Gr;intros;refine lk ACn AwM Tryz.func437 ?_;apply AH4 _ (AmS ht) (AtL ht)<;>assumption
theorem Azn (ht:Tb W):Q9 (DE W 293):=by unfold Q9;intros;refine lk AAz AvD Tryz.func438 ?_;apply AG3 _ (ABc ht)<;>assumption
theorem AIZ (ht:Tb W):AK8 (DE W 325):=AKU (k:=468) rfl (fun b off n c zs w h1 h2 h3 h4=>Tryz.slices_Max_int b off n c zs w h1 h2 h3 h4)
theorem AFw (ht:Tb W):AC7 (DE W 326):=by unfold AC7;intros;refine lk ACz AwI Tryz.func470 ?_;apply AKh _ (Arb ht) (Ai7 ht)<;>assumption
theorem Axe (ht:Tb W):Atu (DE W) (DE W 327):=by unfold Atu;intros;refine lk As5 Ajk Tryz.func469 ?_;apply AAJ _ (Ava ht)<;>assumption
theorem AGO (ht:Tb W):AFW (DE W 295):=by unfold AFW;intros;refine lk AEY Aya Tryz.func439 ?_;apply AKS _ (AIZ ht) (AFw ht) (Axe ht)<;>assumption
theorem AHg (ht:Tb W):AIh (DE W 296):=AJp (k:=440) rfl (fun n c w=>Tryz.slices_Clone_int_nil n c w) (fun a c w=>Tryz.slices_Clone_int_zero a c w) (fun b off n c zs w h1 h2 h3=>Tryz.slices_Clone_int b off n c zs w h1 h2 h3)
theorem ADm (ht:Tb W):AyQ (DE W 297):=by unfold AyQ;intros;refine lk AAG Avq Tryz.func442 ?_;apply AH3 _ (Arb ht)<;>assumption
theorem Azg (ht:Tb W):Vm (DE W 294):=by unfold Vm;intros;refine lk ACP AwK Tryz.func394 ?_;apply AH8 _ (Awu ht) (AsU ht) (AGO ht) (AHg ht) (ADm ht) (As2 ht)<;>assumption
theorem Auw (ht:Tb W):Jj (DE W 274):=by unfold Jj;intros;refine lk ABV Awk Tryz.func389 ?_;apply AGG _ (AsU ht) (Azn ht) (Azg ht)<;>assumption
theorem AsP (ht:Tb W):Uu (DE W 357):=by unfold Uu;intros;refine lk AvZ AsV Tryz.func57 ?_;apply AJ5 _<;>assumption
theorem ADs (ht:Tb W):Aw8 (DE W 371):=by unfold Aw8;intros;refine lk AB0 Awa Tryz.func510 ?_;apply AIr _ (AsP ht)<;>assumption
theorem AAI (ht:Tb W):Axq (DE W) (DE W 372):=by unfold Axq;intros;refine lk Ap0 Afd Tryz.func509 ?_;apply AG7 _<;>assumption
theorem AF1 (ht:Tb W):VY (DE W 358):=by unfold VY;intros;refine lk AAL AvE Tryz.func493 ?_;apply AFT _ (ADs ht) (AAI ht)<;>assumption
theorem ADr (ht:Tb W):R7 (DE W 340):=by unfold R7;intros;refine lk Aza Auu Tryz.func474 ?_;apply AD4 _ (AsP ht) (AF1 ht)<;>assumption
theorem Aws (ht:Tb W):Ld (DE W 314):=by unfold Ld;intros;refine lk Ay8 Auc Tryz.func456 ?_;apply ADB _ (Auw ht) (ADr ht)<;>assumption
theorem Axd (ht:Tb W):JZ (DE W 273):=by unfold JZ;intros;refine lk AzP AuN Tryz.func390 ?_;apply AEJ _<;>assumption
theorem Awn (ht:Tb W):JH (DE W 240):=by unfold JH;intros;refine lk AyH AtU Tryz.func319 ?_;apply AB9 _ (AmS ht) (Axd ht) (Auw ht)<;>assumption
theorem Awd (ht:Tb W):AfF (DE W 189):=by unfold AfF;intros;refine lk AxU AtM Tryz.func236 ?_;apply AHL _ (Arb ht)<;>assumption
theorem ABw (ht:Tb W):J4 (DE W 360):=by unfold J4;intros;refine lk AzU AuH Tryz.func495 ?_;apply AEI _ (AmS ht) (Axd ht) (Auw ht)<;>assumption
theorem ADR (ht:Tb W):R6 (DE W 341):=by unfold R6;intros;refine lk ABn Awb Tryz.func476 ?_;apply AHo _ (AtL ht) (ABw ht) (Aws ht)<;>assumption
theorem ABQ (ht:Tb W):Awr (DE W 359):=by unfold Awr;intros;refine lk Ay6 Aur Tryz.func494 ?_;apply AFB _ (Arb ht)<;>assumption
theorem ACm (ht:Tb W):Po (DE W 342):=by unfold Po;intros;refine lk ABg Avh Tryz.func475 ?_;apply AFp _ (AsU ht) (Awd ht) (ABQ ht) (As2 ht)<;>assumption
theorem ADc (ht:Tb W):RQ (DE W 315):=by unfold RQ;intros;refine lk Ax3 AtC Tryz.func457 ?_;apply AG1 _ (Awn ht) (Awd ht) (ADR ht) (ACm ht)<;>assumption
theorem AD2 (ht:Tb W):Rs (DE W 287):=by unfold Rs;intros;refine lk ABW Av6 Tryz.func429 ?_;apply AHk _ (AsU ht) (Aws ht) (Azn ht) (ADc ht)<;>assumption
theorem ADQ (ht:Tb W):AyO (DE W 374):=by unfold AyO;intros;refine lk AA4 AvJ Tryz.func512 ?_;apply AIz _ (Arb ht)<;>assumption
theorem AEi (ht:Tb W):QD (DE W 361):=by unfold QD;intros;refine lk ACb AwQ Tryz.func497 ?_;apply AHN _ (ADQ ht) (As2 ht)<;>assumption
theorem ACo (ht:Tb W):Axo (DE W 373):=by unfold Axo;intros;refine lk AxZ AtI Tryz.func511 ?_;apply AEa _ (Aw4 ht)<;>assumption
theorem Az3 (ht:Tb W):Lv (DE W 362):=by unfold Lv;intros;refine lk Ay4 Aue Tryz.func496 ?_;apply ADH _ (ACo ht) (As2 ht)<;>assumption
theorem AFZ (ht:Tb W):Zx (DE W 343):=by unfold Zx;intros;refine lk AyI AtT Tryz.func477 ?_;apply AJd _ (AqU ht) (AsU ht) (AEi ht) (Az3 ht)<;>assumption
theorem Aym (ht:Tb W):NR (DE W 369):=by unfold NR;intros;refine lk ABL Av1 Tryz.func504 ?_;apply AGU _ (Ai7 ht) (AtL ht)<;>assumption
theorem AvV (ht:Tb W):UX (DE W 317):=by unfold UX;intros;refine lk ADV AxM Tryz.func459 ?_;apply AJg _<;>assumption
theorem ACO (ht:Tb W):AxI (DE W 370):=by unfold AxI;intros;refine lk AA8 Avu Tryz.func505 ?_;apply AFG _ (AvV ht) (AuR ht)<;>assumption
theorem ACd (ht:Tb W):PY (DE W 348):=by unfold PY;intros;refine lk AA6 AvM Tryz.func482 ?_;apply AFK _ (AsU ht) (Aym ht) (Arb ht) (AvV ht) (Awd ht) (ACO ht)<;>assumption
theorem Axf (ht:Tb W):Kg (DE W 367):=by unfold Kg;intros;refine lk AzM AuU Tryz.func502 ?_;apply AEA _ (AtL ht)<;>assumption
theorem AIw (ht:Tb W):AJZ (DE W 419):=AJn (k:=514) rfl (fun w=>Go.Eng.Ins.ALr w) (fun n w h1 h2=>Go.Eng.Ins.ALt n w h1 h2)
theorem ABf (ht:Tb W):ABa (DE W 368):=by unfold ABa;intros;refine lk Avs AsF Tryz.func503 ?_;apply AJR _ (AIw ht)<;>assumption
theorem ABy (ht:Tb W):MV (DE W 345):=by unfold MV;intros;refine lk AzE AuP Tryz.func480 ?_;apply AE0 _ (AsU ht) (Axf ht) (ABf ht)<;>assumption
theorem AAT (ht:Tb W):Lb (DE W 346):=by unfold Lb;intros;refine lk Ay9 Aub Tryz.func481 ?_;apply AC9 _ (Aym ht) (Axf ht)<;>assumption
theorem ADO (ht:Tb W):AyT (DE W 375):=by unfold AyT;intros;refine lk Axu Ato Tryz.func513 ?_;apply AH9 _ (Asz ht)<;>assumption
theorem Azh (ht:Tb W):Qq (DE W 364):=by unfold Qq;intros;refine lk Ayq AtX Tryz.func499 ?_;apply AIt _ (ADO ht) (AtJ ht)<;>assumption
theorem ACX (ht:Tb W):OV (DE W 365):=by unfold OV;intros;refine lk Axv Atn Tryz.func501 ?_;apply AGr _ (Azh ht) (AzA ht)<;>assumption
theorem AHl (ht:Tb W):AeA (DE W 366):=by unfold AeA;intros;refine lk AAQ Avl Tryz.func500 ?_;apply AJO _ (ABf ht) (AzA ht)<;>assumption
theorem AAm (ht:Tb W):ZE (DE W 347):=by unfold ZE;intros;refine lk ABF AvX Tryz.func479 ?_;apply AJy _ (Ayk ht) (Azh ht) (Ai7 ht) (ACX ht) (AHl ht)<;>assumption
theorem ACC (ht:Tb W):AxF (DE W 349):=by unfold AxF;intros;refine lk AAv Avv Tryz.func483 ?_;apply AFk _ (AAm ht)<;>assumption
theorem AGN (ht:Tb W):AFu (DE W 316):=by unfold AFu;intros;refine lk ADk AxB Tryz.func458 ?_;apply AKL _ (AFZ ht) (ACd ht) (ABy ht) (AAT ht) (AAm ht) (ACC ht) (AvV ht)<;>assumption
theorem ADq (ht:Tb W):RY (DE W 288):=by unfold RY;intros;refine lk ABG Awl Tryz.func430 ?_;apply AGS _ (Auw ht) (AGN ht)<;>assumption
theorem AEK (ht:Tb W):UC (DE W 289):=by unfold UC;intros;refine lk ACN AwP Tryz.func431 ?_;apply AHJ _ (Awd ht) (AvV ht) (Ai7 ht)<;>assumption
theorem AIi (ht:Tb W):AfC (DE W 262):=by unfold AfC;intros;refine lk AFN Azx Tryz.func381 ?_;apply AKF _ (AD2 ht) (ADq ht) (AEK ht)<;>assumption
theorem AEl (ht:Tb W):Uj (DE W 227):=by unfold Uj;intros;refine lk ACE AwE Tryz.func310 ?_;apply AIb _ (As1 ht) (AE4 ht) (AIi ht)<;>assumption
theorem Az8 (ht:Tb W):ZL (DE W 173):=by unfold ZL;intros;refine lk ADG AxC Tryz.func223 ?_;apply AJE _ (As6 ht) (AEl ht)<;>assumption
theorem AE5 (ht:Tb W):Ui (DE W 291):=by unfold Ui;intros;refine lk ACj Aw3 Tryz.func433 ?_;apply AHF _ (Ai7 ht)<;>assumption
theorem Azl (ht:Tb W):V3 (DE W 263):=by unfold V3;intros;refine lk ACg AwY Tryz.func383 ?_;apply AHT _ (ArK ht) (Ai7 ht) (AE5 ht)<;>assumption
theorem ADE (ht:Tb W):Af6 (DE W 228):=by unfold Af6;intros;refine lk AFV AzB Tryz.func311 ?_;apply AKA _ (Azl ht)<;>assumption
end Go.Eng.T
