/- Own work: part 27 of the proof of FnExactRunConsole. -/
import Derived.Test.YtogmkdgkgfhhoaaGreatDoorDL3
set_option linter.unusedSimpArgs false
set_option linter.unusedVariables false
namespace Go.Eng.T
open Go.Proofs Go.Lib
set_option maxRecDepth 100000
variable {W:Go.World}
theorem AEG (ht:Tb W):Vw (DE W 174):=by unfold Vw;intros;refine lk ACt AwJ Tryz.func224 ?_;apply AIk _ (As6 ht) (ADE ht) (Arb ht)<;>assumption
theorem AxT (ht:Tb W):PN (DE W 229):=by unfold PN;intros;refine lk AEx Ayx Tryz.func312 ?_;apply AKv _ (Arb ht)<;>assumption
theorem AxR (ht:Tb W):PN (DE W 175):=by unfold PN;intros;refine lk AAZ Avg Tryz.func225 ?_;apply AGt _ (AxT ht)<;>assumption
theorem Ayl (ht:Tb W):RZ (DE W 106):=by unfold RZ;intros;refine lk ABs Av8 Tryz.func126 ?_;apply AGZ _ (Alz ht) (As6 ht) (Az8 ht) (AEG ht) (Ax8 ht) (AxR ht)<;>assumption
theorem AG2 (ht:Tb W):AC8 (DE W 44):=by unfold AC8;intros;refine lk ADo Axp Tryz.func54 ?_;apply AJq _ (Alz ht) (Ayl ht)<;>assumption
theorem AGh (ht:Tb W):AC6 (DE W 105):=by unfold AC6;intros;refine lk Auf AqZ Tryz.func125 ?_;apply AIv _<;>assumption
theorem AEy (ht:Tb W):AyW (DE W 40):=by unfold AyW;intros;refine lk ACA AwS Tryz.func50 ?_;apply AJj _ (AGh ht)<;>assumption
theorem AFD (ht:Tb W):AIR (DE W 264):=fun l i v hl hi=>AH0 (Ae:=Ae) (g:=264) (k:=384) (t3:=Tryz.Azj.t 3) rfl (fun b off n c i vb voff m vc cs vs w h1 h2 h3 h4 h5 h6 h7 h8 h9 h10 h11 h12 h13 tA tB kA kB h14 h15 h16 h17 h18=>Any2.slices_Insert_int_shift Tryz.AyP b off n c i vb voff m vc cs vs w h1 h2 h3 h4 h5 h6 h7 h8 h9 h10 h11 h12 h13 tA tB kA kB h14 h15 h16 h17 h18) (fun b off n c vb voff m vc vs w h1 h2 h3 h4 h5 h6 h7 h8=>Any2.slices_Insert_int_end_room Tryz.AyP b off n c vb voff m vc vs w h1 h2 h3 h4 h5 h6 h7 h8) (fun base n c vb voff m vc cs vs w h1 h2 h3 h4 h5 h6 h7 h8 h9 h10=>Any2.slices_Insert_int_end_grow Tryz.AyP base n c vb voff m vc cs vs w h1 h2 h3 h4 h5 h6 h7 h8 h9 h10) (fun b off n c i vb voff m vc cs vs w h1 h2 h3 h4 h5 h6 h7 h8 h9 h10 h11=>Any2.slices_Insert_int_grow Tryz.AyP b off n c i vb voff m vc cs vs w h1 h2 h3 h4 h5 h6 h7 h8 h9 h10 h11) l i v hl hi
theorem AAp (ht:Tb W):AvR (DE W 230):=by unfold AvR;intros;refine lk Ayz At1 Tryz.func313 ?_;apply AEh _ (AFD ht)<;>assumption
theorem Aw9 (ht:Tb W):J3 (DE W 177):=by unfold J3;intros;refine lk Ay3 Aun Tryz.func227 ?_;apply AED _ (Alz ht) (ArK ht) (ADE ht) (AAp ht)<;>assumption
theorem ACv (ht:Tb W):OT (DE W 107):=by unfold OT;intros;refine lk ABb Avy Tryz.func127 ?_;apply AF8 _ (Alz ht) (ArK ht) (Aw9 ht)<;>assumption
theorem AEc (ht:Tb W):NV (DE W 193):=by unfold NV;intros;refine lk ABr Av0 Tryz.func239 ?_;apply AGD _ (AxT ht)<;>assumption
theorem ADK (ht:Tb W):RH (DE W 194):=by unfold RH;intros;refine lk ABD Awe Tryz.func240 ?_;apply AHs _ (Asz ht) (Ai7 ht)<;>assumption
theorem AxS (ht:Tb W):Pq (DE W 127):=by unfold Pq;intros;refine lk AAl Avf Tryz.func142 ?_;apply AGo _ (AEc ht) (ADK ht)<;>assumption
theorem ACq (ht:Tb W):PX (DE W 178):=by unfold PX;intros;refine lk AA3 AvI Tryz.func228 ?_;apply AGe _ (AvA ht) (ArK ht)<;>assumption
theorem ACp (ht:Tb W):Pj (DE W 179):=by unfold Pj;intros;refine lk AAV AvF Tryz.func229 ?_;apply AFQ _ (AvA ht) (ArK ht)<;>assumption
theorem AwH (ht:Tb W):Aw5 (DE W 189):=by unfold Aw5;intros;refine lk AxU AtM Tryz.func236 ?_;apply AJl _ (Arb ht)<;>assumption
theorem AzV (ht:Tb W):JG (DE W 180):=by unfold JG;intros;refine lk Ayc At5 Tryz.func230 ?_;apply ACu _ (Alz ht) (AwH ht) (AqU ht)<;>assumption
theorem ACG (ht:Tb W):Pk (DE W 108):=by unfold Pk;intros;refine lk Az9 Avn Tryz.func128 ?_;apply AFA _ (Alz ht) (AxS ht) (ACq ht) (Aw9 ht) (ACp ht) (AzV ht)<;>assumption
theorem Ayw (ht:Tb W):Ry (DE W 124):=by unfold Ry;intros;refine lk ABP Awj Tryz.func138 ?_;apply AGE _ (AqU ht) (AwH ht)<;>assumption
theorem AG6 (ht:Tb W):Ae1 (DE W 265):=by unfold Ae1;intros;refine lk AEn AyD Tryz.func385 ?_;apply AKj _ (AqU ht)<;>assumption
theorem ACZ (ht:Tb W):PG (DE W 231):=by unfold PG;intros;refine lk AAR AvG Tryz.func314 ?_;apply AFt _ (AmS ht) (Arb ht) (Ai7 ht) (Ayw ht) (AG6 ht)<;>assumption
theorem Azd (ht:Tb W):IG (DE W 181):=by unfold IG;intros;refine lk Ax2 AtH Tryz.func231 ?_;apply ABl _ (ACZ ht) (AwH ht)<;>assumption
theorem ABk (ht:Tb W):MZ (DE W 109):=by unfold MZ;intros;refine lk AzC AuS Tryz.func129 ?_;apply AEm _ (Alz ht) (Au1 ht) (Azd ht)<;>assumption
theorem AD5 (ht:Tb W):AIN (DE W 197):=AJe (k:=243) rfl (fun p c w=>Tryz.slices_Sort_int_none p c w) (fun b o c zs w h1 h2 h3=>Tryz.slices_Sort_int b o c zs w h1 h2 h3)
theorem AB4 (ht:Tb W):MH (DE W 182):=by unfold MH;intros;refine lk Aze Aup Tryz.func232 ?_;apply AEw _ (AmS ht) (Ai7 ht) (Arb ht) (AD5 ht)<;>assumption
theorem ABS (ht:Tb W):MI (DE W 110):=by unfold MI;intros;refine lk AzN Auz Tryz.func130 ?_;apply AEL _ (Alz ht) (AB4 ht)<;>assumption
theorem AEE (ht:Tb W):UJ (DE W 111):=by unfold UJ;intros;refine lk ACV Aw0 Tryz.func131 ?_;apply AHZ _ (Alz ht) (As6 ht) (Awu ht) (AAo ht)<;>assumption
theorem AB8 (ht:Tb W):Pv (DE W 112):=by unfold Pv;intros;refine lk AAi Avw Tryz.func132 ?_;apply AFX _ (Alz ht) (As6 ht)<;>assumption
theorem ADu (ht:Tb W):RL (DE W 113):=by unfold RL;intros;refine lk ABM Awo Tryz.func133 ?_;apply AHj _ (Alz ht) (Ai7 ht)<;>assumption
theorem ACw (ht:Tb W):MS (DE W 41):=by unfold MS;intros;refine lk AzH AuZ Tryz.func51 ?_;apply AER _ (Alz ht) (Ayl ht) (ACv ht) (ACG ht) (ABk ht) (ABS ht) (AEE ht) (AB8 ht) (ADu ht)<;>assumption
theorem AJf (ht:Tb W):AIM (DE W 42):=by unfold AIM;intros;refine lk AFS AzT Tryz.func52 ?_;apply AK2 _<;>assumption
theorem AhP (ht:Tb W):Ane (DE W 241):=AnU (k:=112) rfl (fun a c sep w=>Tryz.strings_Join_none a c sep w) (fun bk o c xs sep w h1 h2 h3 h4 h5=>Tryz.strings_Join bk o c xs sep w h1 h2 h3 h4 h5)
theorem I4 (ht:Tb W):MJ (DE W 187):=by unfold MJ;intros;refine lk Aaz OP Tryz.func38 ?_;apply AnL _ (Fq ht) (AhP ht)<;>assumption
theorem NM (ht:Tb W):J5 (DE W 192):=by unfold J5;intros;refine lk Tw Ji Tryz.func10 ?_;apply Ac2 _ (Fq ht) (I4 ht)<;>assumption
theorem TI (ht:Tb W):JM (DE W 126):=by unfold JM;intros;refine lk Ri HY Tryz.func9 ?_;apply YH _ (Fq ht) (I4 ht) (NM ht)<;>assumption
theorem ABO (ht:Tb W):Awz (DE W 128):=by unfold Awz;intros;refine lk AzF AuM Tryz.func141 ?_;apply AEO _ (Ai7 ht)<;>assumption
theorem AE2 (ht:Tb W):Ayr (DE W 276):=by unfold Ayr;intros;refine lk Ayg AtS Tryz.func392 ?_;apply ADe _<;>assumption
theorem ADA (ht:Tb W):AyL (DE W 277):=by unfold AyL;intros;refine lk Axl Ati Tryz.func393 ?_;apply AIj _ (Azg ht)<;>assumption
theorem AEZ (ht:Tb W):AA9 (DE W 244):=by unfold AA9;intros;refine lk Ax0 AtA Tryz.func323 ?_;apply AHK _ (Awu ht) (AE2 ht) (ADA ht) (Atl ht)<;>assumption
theorem ACD (ht:Tb W):Axz (DE W 195):=by unfold Axz;intros;refine lk Ax4 AtF Tryz.func241 ?_;apply AFz _ (AEZ ht)<;>assumption
theorem ADl (ht:Tb W):AyX (DE W 129):=by unfold AyX;intros;refine lk AB2 Av3 Tryz.func143 ?_;apply AGX _ (ACD ht)<;>assumption
theorem Ou (ht:Tb W):Kb (DE W 122):=by unfold Kb;intros;refine lk TD Jz Tryz.func15 ?_;apply Acs _ (I4 ht)<;>assumption
theorem AEq (ht:Tb W):AAY (DE W 186):=by unfold AAY;intros;refine lk ACx AwU Tryz.func234 ?_;apply AHO _ (As1 ht) (Awn ht) (Awd ht) (AqU ht)<;>assumption
theorem Azm (ht:Tb W):Ayv (DE W 119):=by unfold Ayv;intros;refine lk ACS AwW Tryz.func136 ?_;apply AHR _ (As6 ht) (AEq ht)<;>assumption
theorem AvN (ht:Tb W):Atq (DE W 130):=by unfold Atq;intros;refine lk AxW AtB Tryz.func144 ?_;apply ABE _ (Azm ht)<;>assumption
theorem ADF (ht:Tb W):AGT (DE W 196):=by unfold AGT;intros;refine lk ADi Axw Tryz.func242 ?_;apply AJI _ (AxR ht)<;>assumption
theorem AEC (ht:Tb W):CompactS (DE W 198):=AF9 (k:=244) rfl (fun p c w=>Tryz.slices_Compact_int_empty p c w) (fun b o c zs w h1 h2 h3=>Tryz.slices_Compact_int b o c zs w h1 h2 h3)
theorem Ayt (ht:Tb W):Axh (DE W 131):=by unfold Axh;intros;refine lk AAH Avt Tryz.func145 ?_;apply AHi _ (ADF ht) (AD5 ht) (AEC ht)<;>assumption
theorem K3 (ht:Tb W):Gy (DE W 199):=by unfold Gy;intros;refine lk Qe GY Tryz.func12 ?_;apply WS _ (Fq ht) (I4 ht)<;>assumption
theorem VH (ht:Tb W):K9 (DE W 132):=by unfold K9;intros;refine lk Sy IA Tryz.func16 ?_;apply Abo _ (Fq ht) (I4 ht) (K3 ht)<;>assumption
theorem ADp (ht:Tb W):AyY (DE W 245):=by unfold AyY;intros;refine lk ABv Awc Tryz.func326 ?_;apply AGL _ (ArK ht) (Ai7 ht) (Azl ht)<;>assumption
theorem ACT (ht:Tb W):AxJ (DE W 200):=by unfold AxJ;intros;refine lk AAW AvH Tryz.func245 ?_;apply AF7 _ (Ayt ht) (ADp ht)<;>assumption
theorem AEt (ht:Tb W):AAU (DE W 299):=by unfold AAU;intros;refine lk ACf AwT Tryz.func407 ?_;apply AIx _<;>assumption
theorem AzD (ht:Tb W):Au7 (DE W 278):=by unfold Au7;intros;refine lk Ax5 AtG Tryz.func406 ?_;apply AEd _ (AEt ht)<;>assumption
theorem AAj (ht:Tb W):AvU (DE W 246):=by unfold AvU;intros;refine lk Ay0 Aul Tryz.func327 ?_;apply ADh _ (AzD ht) (At6 ht)<;>assumption
theorem ABK (ht:Tb W):AwB (DE W 201):=by unfold AwB;intros;refine lk Az1 AuG Tryz.func246 ?_;apply AEQ _ (Az8 ht) (AAj ht) (AqU ht) (Au1 ht) (AyG ht)<;>assumption
theorem ACl (ht:Tb W):AxG (DE W 202):=by unfold AxG;intros;refine lk AAA Avz Tryz.func247 ?_;apply AGi _ (ADF ht)<;>assumption
theorem ADb (ht:Tb W):AyV (DE W 247):=by unfold AyV;intros;refine lk Az4 Avr Tryz.func329 ?_;apply AId _ (AuR ht) (Ai7 ht)<;>assumption
theorem Axc (ht:Tb W):Att (DE W) (DE W 403):=by unfold Att;intros;refine lk AsW Ajb Tryz.func408 ?_;apply AAt _<;>assumption
theorem Av4 (ht:Tb W):As0 (DE W) (DE W 248):=by unfold As0;intros;refine lk AsM Afv Tryz.func328 ?_;apply Ayd _ (Axc ht)<;>assumption
theorem AEP (ht:Tb W):AAr (DE W 203):=by unfold AAr;intros;refine lk ACr AwX Tryz.func248 ?_;apply AIu _ (ADb ht) (Av4 ht)<;>assumption
theorem AEV (ht:Tb W):AA0 (DE W 133):=by unfold AA0;intros;refine lk ACR AwL Tryz.func146 ?_;apply AH7 _ (Azp ht) (ACT ht) (ABK ht) (ACl ht) (AEP ht)<;>assumption
theorem AKq (ht:Tb W):AKC (DE W 46):=by unfold AKC;intros;refine lk AGW ABT Tryz.func56 ?_;apply ALy _ (TI ht) (AxS ht) (ABO ht) (ADl ht) (Ou ht) (AvN ht) (Ayt ht) (VH ht) (AEV ht)<;>assumption
theorem YU (ht:Tb W):Pm (DE W 118):=by unfold Pm;intros;refine lk VK KQ Tryz.func13 ?_;apply AeL _ (Fq ht) (Ou ht)<;>assumption
theorem ABz (ht:Tb W):Awv (DE W 121):=by unfold Awv;intros;refine lk Azy AuI Tryz.func137 ?_;apply AEu _ (Arb ht)<;>assumption
theorem ACQ (ht:Tb W):Axm (DE W 275):=by unfold Axm;intros;refine lk AAB Avx Tryz.func391 ?_;apply AGc _ (Asz ht)<;>assumption
theorem AEU (ht:Tb W):Az5 (DE W 243):=by unfold Az5;intros;refine lk ACs Aw1 Tryz.func322 ?_;apply AJv _ (ACQ ht) (Ai7 ht)<;>assumption
theorem ACU (ht:Tb W):AxN (DE W 191):=by unfold AxN;intros;refine lk ABe AvL Tryz.func238 ?_;apply AFE _ (AEU ht)<;>assumption
theorem ACk (ht:Tb W):AxK (DE W 125):=by unfold AxK;intros;refine lk AAN Avo Tryz.func140 ?_;apply AFM _ (AvN ht) (ACU ht)<;>assumption
theorem AJs (ht:Tb W):AIS (DE W 45):=by unfold AIS;intros;refine lk AA2 Avm Tryz.func55 ?_;apply AHu _ (As6 ht) (YU ht) (Azm ht) (Fq ht) (ABz ht) (Ou ht) (Au1 ht) (Ayw ht) (ACk ht)<;>assumption
theorem AFa (ht:Tb W):AGB (DE W 10):=by unfold AGB;intros;refine lk Ays AtQ Tryz.func19 ?_;apply ADf _ (ADt ht) (AHc ht) Go.Eng.AJh (Alz ht) (ACe ht) (AIe ht) (AG2 ht) (AEy ht) (ACw ht) (AJf ht) (AKq ht) (AJs ht)<;>assumption
theorem AHY (ht:Tb W):AC4 (DE W 2):=by unfold AC4;intros;refine lk AzZ AuO Tryz.func25 ?_;apply AET _ (ADt ht) (AFa ht)<;>assumption
theorem AN9 (ht:Tb W):AMn (DE W 3):=by unfold AMn;intros;refine lk AMW ALw Tryz.func27 ?_;apply AOH _<;>assumption
theorem AMH (ht:Tb W):AMg (DE W 15):=by unfold AMg;intros;refine lk AM8 ALW Tryz.func73 ?_;apply AOZ _<;>assumption
theorem ANx (ht:Tb W):ALV (DE W 4):=by unfold ALV;intros;refine lk AME AIs Tryz.func28 ?_;apply AOa _ (AMH ht)<;>assumption
theorem ANy (ht:Tb W):ALU (DE W 5):=by unfold ALU;intros;refine lk AMA AHU Tryz.func29 ?_;apply AOe _ (AMH ht)<;>assumption
theorem AMw (ht:Tb W):AHe (DE W 0):=by unfold AHe;intros;refine lk AL6 AEg Tryz.func5 ?_;apply AMF _ (AO5 ht) (AHY ht) (AN9 ht) (ANx ht) (ANy ht)<;>assumption
theorem den (ht:Tb W) (av:List V) (h:AO8 [.str] av):DE W 0 av [] (B true) []:=by
 obtain⟨v0,r0,h0,hr0,rfl⟩:=h
 obtain⟨x0,rfl,w0⟩:=AP6 h0
 have z:r0=[]:=hr0
 subst z
 apply AMw ht<;>assumption
end Go.Eng.T
