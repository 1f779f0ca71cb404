/- Own work: part 28 of the proof of FnExactConsoleLine. -/
import Derived.Test.YtogmkdgkgfhhoaaGreatDoorEL3
set_option linter.unusedSimpArgs false
set_option linter.unusedVariables false
namespace Go.Eng.T
open Go.Proofs Go.Lib
set_option maxRecDepth 100000
variable {W:Go.World}
theorem AE2 (ht:Tb W):Ayr (DE W 276):=by unfold Ayr;intros;refine lk Ayg AtS Tryz.func392 ?_;apply ADe _<;>assumption
theorem ADA (ht:Tb W):AyL (DE W 277):=by unfold AyL;intros;refine lk Axl Ati Tryz.func393 ?_;apply AIj _ (Azg ht)<;>assumption
theorem AEZ (ht:Tb W):AA9 (DE W 244):=by unfold AA9;intros;refine lk Ax0 AtA Tryz.func323 ?_;apply AHK _ (Awu ht) (AE2 ht) (ADA ht) (Atl ht)<;>assumption
theorem ACD (ht:Tb W):Axz (DE W 195):=by unfold Axz;intros;refine lk Ax4 AtF Tryz.func241 ?_;apply AFz _ (AEZ ht)<;>assumption
theorem ADl (ht:Tb W):AyX (DE W 129):=by unfold AyX;intros;refine lk AB2 Av3 Tryz.func143 ?_;apply AGX _ (ACD ht)<;>assumption
theorem Ou (ht:Tb W):Kb (DE W 122):=by unfold Kb;intros;refine lk TD Jz Tryz.func15 ?_;apply Acs _ (I4 ht)<;>assumption
theorem AEq (ht:Tb W):AAY (DE W 186):=by unfold AAY;intros;refine lk ACx AwU Tryz.func234 ?_;apply AHO _ (As1 ht) (Awn ht) (Awd ht) (AqU ht)<;>assumption
theorem Azm (ht:Tb W):Ayv (DE W 119):=by unfold Ayv;intros;refine lk ACS AwW Tryz.func136 ?_;apply AHR _ (As6 ht) (AEq ht)<;>assumption
theorem AvN (ht:Tb W):Atq (DE W 130):=by unfold Atq;intros;refine lk AxW AtB Tryz.func144 ?_;apply ABE _ (Azm ht)<;>assumption
theorem ADF (ht:Tb W):AGT (DE W 196):=by unfold AGT;intros;refine lk ADi Axw Tryz.func242 ?_;apply AJI _ (AxR ht)<;>assumption
theorem AEC (ht:Tb W):CompactS (DE W 198):=AF9 (k:=244) rfl (fun p c w=>Tryz.slices_Compact_int_empty p c w) (fun b o c zs w h1 h2 h3=>Tryz.slices_Compact_int b o c zs w h1 h2 h3)
theorem Ayt (ht:Tb W):Axh (DE W 131):=by unfold Axh;intros;refine lk AAH Avt Tryz.func145 ?_;apply AHi _ (ADF ht) (AD5 ht) (AEC ht)<;>assumption
theorem K3 (ht:Tb W):Gy (DE W 199):=by unfold Gy;intros;refine lk Qe GY Tryz.func12 ?_;apply WS _ (Fq ht) (I4 ht)<;>assumption
theorem VH (ht:Tb W):K9 (DE W 132):=by unfold K9;intros;refine lk Sy IA Tryz.func16 ?_;apply Abo _ (Fq ht) (I4 ht) (K3 ht)<;>assumption
theorem ADp (ht:Tb W):AyY (DE W 245):=by unfold AyY;intros;refine lk ABv Awc Tryz.func326 ?_;apply AGL _ (ArK ht) (Ai7 ht) (Azl ht)<;>assumption
theorem ACT (ht:Tb W):AxJ (DE W 200):=by unfold AxJ;intros;refine lk AAW AvH Tryz.func245 ?_;apply AF7 _ (Ayt ht) (ADp ht)<;>assumption
theorem AEt (ht:Tb W):AAU (DE W 299):=by unfold AAU;intros;refine lk ACf AwT Tryz.func407 ?_;apply AIx _<;>assumption
theorem AzD (ht:Tb W):Au7 (DE W 278):=by unfold Au7;intros;refine lk Ax5 AtG Tryz.func406 ?_;apply AEd _ (AEt ht)<;>assumption
theorem AAj (ht:Tb W):AvU (DE W 246):=by unfold AvU;intros;refine lk Ay0 Aul Tryz.func327 ?_;apply ADh _ (AzD ht) (At6 ht)<;>assumption
theorem ABK (ht:Tb W):AwB (DE W 201):=by unfold AwB;intros;refine lk Az1 AuG Tryz.func246 ?_;apply AEQ _ (Az8 ht) (AAj ht) (AqU ht) (Au1 ht) (AyG ht)<;>assumption
theorem ACl (ht:Tb W):AxG (DE W 202):=by unfold AxG;intros;refine lk AAA Avz Tryz.func247 ?_;apply AGi _ (ADF ht)<;>assumption
theorem ADb (ht:Tb W):AyV (DE W 247):=by unfold AyV;intros;refine lk Az4 Avr Tryz.func329 ?_;apply AId _ (AuR ht) (Ai7 ht)<;>assumption
theorem Axc (ht:Tb W):Att (DE W) (DE W 403):=by unfold Att;intros;refine lk AsW Ajb Tryz.func408 ?_;apply AAt _<;>assumption
theorem Av4 (ht:Tb W):As0 (DE W) (DE W 248):=by unfold As0;intros;refine lk AsM Afv Tryz.func328 ?_;apply Ayd _ (Axc ht)<;>assumption
theorem AEP (ht:Tb W):AAr (DE W 203):=by unfold AAr;intros;refine lk ACr AwX Tryz.func248 ?_;apply AIu _ (ADb ht) (Av4 ht)<;>assumption
theorem AEV (ht:Tb W):AA0 (DE W 133):=by unfold AA0;intros;refine lk ACR AwL Tryz.func146 ?_;apply AH7 _ (Azp ht) (ACT ht) (ABK ht) (ACl ht) (AEP ht)<;>assumption
theorem AKq (ht:Tb W):AKC (DE W 46):=by unfold AKC;intros;refine lk AGW ABT Tryz.func56 ?_;apply ALy _ (TI ht) (AxS ht) (ABO ht) (ADl ht) (Ou ht) (AvN ht) (Ayt ht) (VH ht) (AEV ht)<;>assumption
theorem YU (ht:Tb W):Pm (DE W 118):=by unfold Pm;intros;refine lk VK KQ Tryz.func13 ?_;apply AeL _ (Fq ht) (Ou ht)<;>assumption
theorem ABz (ht:Tb W):Awv (DE W 121):=by unfold Awv;intros;refine lk Azy AuI Tryz.func137 ?_;apply AEu _ (Arb ht)<;>assumption
theorem ACQ (ht:Tb W):Axm (DE W 275):=by unfold Axm;intros;refine lk AAB Avx Tryz.func391 ?_;apply AGc _ (Asz ht)<;>assumption
theorem AEU (ht:Tb W):Az5 (DE W 243):=by unfold Az5;intros;refine lk ACs Aw1 Tryz.func322 ?_;apply AJv _ (ACQ ht) (Ai7 ht)<;>assumption
theorem ACU (ht:Tb W):AxN (DE W 191):=by unfold AxN;intros;refine lk ABe AvL Tryz.func238 ?_;apply AFE _ (AEU ht)<;>assumption
theorem ACk (ht:Tb W):AxK (DE W 125):=by unfold AxK;intros;refine lk AAN Avo Tryz.func140 ?_;apply AFM _ (AvN ht) (ACU ht)<;>assumption
theorem AJs (ht:Tb W):AIS (DE W 45):=by unfold AIS;intros;refine lk AA2 Avm Tryz.func55 ?_;apply AHu _ (As6 ht) (YU ht) (Azm ht) (Fq ht) (ABz ht) (Ou ht) (Au1 ht) (Ayw ht) (ACk ht)<;>assumption
theorem AFa (ht:Tb W):AGB (DE W 10):=by unfold AGB;intros;refine lk Ays AtQ Tryz.func19 ?_;apply ADf _ (ADt ht) (AHc ht) Go.Eng.AJh (Alz ht) (ACe ht) (AIe ht) (AG2 ht) (AEy ht) (ACw ht) (AJf ht) (AKq ht) (AJs ht)<;>assumption
theorem APQ (ht:Tb W):AQx (DE W 16):=by unfold AQx;intros;refine lk ATk AQ5 Tryz.func74 ?_;apply AU5 _<;>assumption
theorem AUf (ht:Tb W):ATU (DE W 206):=by unfold ATU;intros;refine lk ATD ARr Tryz.func330 ?_;apply AU9 _ (APQ ht)<;>assumption
theorem AT4 (ht:Tb W):ASX (DE W 139):=by unfold ASX;intros;refine lk ATi ARc Tryz.func251 ?_;apply AUU _ (AUf ht)<;>assumption
theorem ASJ (ht:Tb W):AQP (DE W 62):=by unfold AQP;intros;refine lk ARY AP8 Tryz.func155 ?_;apply ATW _ (APQ ht) (AT4 ht)<;>assumption
theorem ASs (ht:Tb W):AQr (DE W 17):=by unfold AQr;intros;refine lk ARJ APZ Tryz.func75 ?_;apply ATA _ (ASJ ht)<;>assumption
theorem ATh (ht:Tb W):AQ8 (DE W 18):=by unfold AQ8;intros;refine lk ASa AQd Tryz.func76 ?_;apply AUo _ (APQ ht)<;>assumption
theorem AT5 (ht:Tb W):ASU (DE W 140):=by unfold ASU;intros;refine lk ATb AQ3 Tryz.func252 ?_;apply AU2 _ (APQ ht)<;>assumption
theorem ARO (ht:Tb W):AQV (DE W 63):=by unfold AQV;intros;refine lk ASl AQI Tryz.func156 ?_;apply AUD _ (AT5 ht) (APQ ht)<;>assumption
theorem ATm (ht:Tb W):ARf (DE W 19):=by unfold ARf;intros;refine lk AR1 AQk Tryz.func77 ?_;apply AUd _ (ARO ht)<;>assumption
theorem ATE (ht:Tb W):ARw (DE W 64):=by unfold ARw;intros;refine lk ASE AQD Tryz.func157 ?_;apply AUr _ (ARO ht)<;>assumption
theorem ATd (ht:Tb W):AQ1 (DE W 20):=by unfold AQ1;intros;refine lk AR0 AQl Tryz.func78 ?_;apply AUi _ (ATE ht)<;>assumption
theorem AUn (ht:Tb W):ASe (DE W 7):=by unfold ASe;intros;refine lk ASI AQS Tryz.func30 ?_;apply AUI _ (APQ ht) (ASs ht) (ATh ht) (ATm ht) (ATd ht)<;>assumption
theorem APT (ht:Tb W):AQu (DE W 31):=by unfold AQu;intros;refine lk ATl AQW Tryz.func89 ?_;apply AU0 _<;>assumption
theorem AUe (ht:Tb W):ATY (DE W 226):=by unfold ATY;intros;refine lk ATz ARp Tryz.func349 ?_;apply AVd _ (APT ht)<;>assumption
theorem ATR (ht:Tb W):ASW (DE W 170):=by unfold ASW;intros;refine lk AS8 AQY Tryz.func281 ?_;apply AUY _ (AUe ht)<;>assumption
theorem ASF (ht:Tb W):AQO (DE W 98):=by unfold AQO;intros;refine lk ARU AQa Tryz.func191 ?_;apply ATS _ (APT ht) (ATR ht)<;>assumption
theorem ASw (ht:Tb W):AQp (DE W 32):=by unfold AQp;intros;refine lk ARD AP0 Tryz.func90 ?_;apply ATF _ (ASF ht)<;>assumption
theorem AS5 (ht:Tb W):ARh (DE W 33):=by unfold ARh;intros;refine lk AR7 AQe Tryz.func91 ?_;apply AUb _ (APT ht)<;>assumption
theorem ATV (ht:Tb W):ASO (DE W 171):=by unfold ASO;intros;refine lk AS4 ARe Tryz.func282 ?_;apply AUW _ (APT ht)<;>assumption
theorem ARL (ht:Tb W):AQT (DE W 99):=by unfold AQT;intros;refine lk ASz AQK Tryz.func192 ?_;apply AUw _ (ATV ht) (APT ht)<;>assumption
theorem ATa (ht:Tb W):AQX (DE W 34):=by unfold AQX;intros;refine lk ASj AQg Tryz.func92 ?_;apply AUj _ (ARL ht)<;>assumption
theorem ATc (ht:Tb W):ARz (DE W 100):=by unfold ARz;intros;refine lk ASp AQC Tryz.func193 ?_;apply AUF _ (ARL ht)<;>assumption
theorem AS3 (ht:Tb W):AQ2 (DE W 35):=by unfold AQ2;intros;refine lk ASc AQi Tryz.func93 ?_;apply AUc _ (ATc ht)<;>assumption
theorem AUa (ht:Tb W):ASk (DE W 8):=by unfold ASk;intros;refine lk ASG AQQ Tryz.func32 ?_;apply AUK _ (APT ht) (ASw ht) (AS5 ht) (ATa ht) (AS3 ht)<;>assumption
theorem APO (ht:Tb W):Uu (DE W 47):=by unfold Uu;intros;refine lk AS1 AQ6 Tryz.func94 ?_;apply AUV _<;>assumption
theorem AUm (ht:Tb W):AT2 (DE W 249):=by unfold AT2;intros;refine lk ATH ARt Tryz.func350 ?_;apply AVa _ (APO ht)<;>assumption
theorem ATO (ht:Tb W):ASS (DE W 204):=by unfold ASS;intros;refine lk ATf AQ0 Tryz.func283 ?_;apply AUR _ (AUm ht)<;>assumption
theorem ASB (ht:Tb W):AQM (DE W 134):=by unfold AQM;intros;refine lk ART AP9 Tryz.func194 ?_;apply ATQ _ (APO ht) (ATO ht)<;>assumption
theorem ASr (ht:Tb W):AQq (DE W 48):=by unfold AQq;intros;refine lk ARC APW Tryz.func95 ?_;apply ATC _ (ASB ht)<;>assumption
theorem AS9 (ht:Tb W):AQZ (DE W 49):=by unfold AQZ;intros;refine lk AR6 AQf Tryz.func96 ?_;apply AUk _ (APO ht)<;>assumption
theorem ATP (ht:Tb W):ASV (DE W 205):=by unfold ASV;intros;refine lk AS6 AQ9 Tryz.func284 ?_;apply AUZ _ (APO ht)<;>assumption
theorem ARq (ht:Tb W):AQU (DE W 135):=by unfold AQU;intros;refine lk ASu AQE Tryz.func195 ?_;apply AUB _ (ATP ht) (APO ht)<;>assumption
theorem ATo (ht:Tb W):ARa (DE W 50):=by unfold ARa;intros;refine lk ASi AQm Tryz.func97 ?_;apply AT7 _ (ARq ht)<;>assumption
theorem AS2 (ht:Tb W):ARx (DE W 136):=by unfold ARx;intros;refine lk ASC AQH Tryz.func196 ?_;apply AUx _ (ARq ht)<;>assumption
theorem AS7 (ht:Tb W):AQ7 (DE W 51):=by unfold AQ7;intros;refine lk ASb AQj Tryz.func98 ?_;apply AT9 _ (AS2 ht)<;>assumption
theorem AT1 (ht:Tb W):ASg (DE W 11):=by unfold ASg;intros;refine lk ASH AQR Tryz.func33 ?_;apply AUM _ (APO ht) (ASr ht) (AS9 ht) (ATo ht) (AS7 ht)<;>assumption
theorem AOV (ht:Tb W):APo (DE W 52):=by unfold APo;intros;refine lk ASv AQA Tryz.func99 ?_;apply AUv _<;>assumption
theorem ATq (ht:Tb W):ARA (DE W 137):=by unfold ARA;intros;refine lk ASt AQF Tryz.func197 ?_;apply AUz _ (AOV ht)<;>assumption
theorem ARW (ht:Tb W):APV (DE W 53):=by unfold APV;intros;refine lk ARm APN Tryz.func100 ?_;apply ASL _ (AOV ht) (ATq ht)<;>assumption
theorem ASA (ht:Tb W):AQo (DE W 54):=by unfold AQo;intros;refine lk ARK AP3 Tryz.func101 ?_;apply ATt _ (AOV ht)<;>assumption
theorem ASn (ht:Tb W):AQs (DE W 55):=by unfold AQs;intros;refine lk ARF APY Tryz.func102 ?_;apply ATy _ (AOV ht)<;>assumption
theorem ASx (ht:Tb W):AQv (DE W 56):=by unfold AQv;intros;refine lk ARH APU Tryz.func103 ?_;apply ATx _ (AOV ht)<;>assumption
theorem ATn (ht:Tb W):ARg (DE W 12):=by unfold ARg;intros;refine lk AR3 AQc Tryz.func34 ?_;apply AUl _ (AOV ht) (ARW ht) (ASA ht) (ASn ht) (ASx ht)<;>assumption
theorem AOX (ht:Tb W):APm (DE W 57):=by unfold APm;intros;refine lk ASm AQL Tryz.func104 ?_;apply AUs _<;>assumption
theorem ATe (ht:Tb W):ARy (DE W 138):=by unfold ARy;intros;refine lk ASq AQG Tryz.func198 ?_;apply AUE _ (AOX ht)<;>assumption
theorem ARR (ht:Tb W):AP7 (DE W 58):=by unfold AP7;intros;refine lk ARl APJ Tryz.func105 ?_;apply ASM _ (AOX ht) (ATe ht)<;>assumption
theorem ASo (ht:Tb W):AQn (DE W 59):=by unfold AQn;intros;refine lk ARB AP1 Tryz.func106 ?_;apply ATw _ (AOX ht)<;>assumption
theorem ASy (ht:Tb W):AQw (DE W 60):=by unfold AQw;intros;refine lk ARI AP4 Tryz.func107 ?_;apply ATv _ (AOX ht)<;>assumption
theorem ASD (ht:Tb W):AQy (DE W 61):=by unfold AQy;intros;refine lk ARG AP2 Tryz.func108 ?_;apply ATu _ (AOX ht)<;>assumption
theorem ASZ (ht:Tb W):ARd (DE W 13):=by unfold ARd;intros;refine lk ASd AQh Tryz.func35 ?_;apply AUg _ (AOX ht) (ARR ht) (ASo ht) (ASy ht) (ASD ht)<;>assumption
theorem AQ4 (ht:Tb W):APu (DE W 6):=by unfold APu;intros;refine lk AQB AOF Tryz.func6 ?_;apply ARs _ (APv ht) (AFa ht) (AUn ht) (AUa ht) (AT1 ht) (ATn ht) (ASZ ht)<;>assumption
theorem den (ht:Tb W) (av:List V) (h:AO8 [ASY,.str] av):DE W 6 av [] (B true) []:=by
 obtain⟨v0,r0,h0,hr0,rfl⟩:=h
 obtain⟨x0,rfl,l0,w0⟩:=AU3 h0
 obtain⟨v1,r1,h1,hr1,rfl⟩:=hr0
 obtain⟨x1,rfl,w1⟩:=AP6 h1
 have z:r1=[]:=hr1
 subst z
 apply AQ4 ht<;>assumption
end Go.Eng.T
