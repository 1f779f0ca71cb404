/- Own work: part 10 of the proof of FnViews. -/
import Derived.Test.YtogmkdgkgfhhoaaGreatDoorVEngAL
set_option linter.unusedSimpArgs false
set_option linter.unusedVariables false
namespace Go.Eng.T
open Go.Eng.X
def Gg:Nat->Ce
 |0=>R 0 [x 0 s0,m f] [(2,0)] [0,3]
 |1=>R 1 [P 5 s2,M 1 5 1 [l0],m s1,C 155 [r l1,r l2] [],m l3,X l4 0,X l4 1,m l5,m l6] [(4,8)] [1,2]
 |_=>R 2 [m s4,y .gtr l0 i0,m l1] [(3,2)] [4]
def Kw:Cm:=⟨5,2,[0,1],0,false,[],U (Gg 0) (U (Gg 1) (ur (Gg 2))),[.slot 3]⟩
def U8:List Tmp:=[0,1,2,4,6]
def Ps:Nat->Ce
 |0=>R 0 [m f] [] [3]
 |_=>R 1 [m s0,m s1,y .geq l0 l1,m l2,J 3 (m s0),J 3 (m s2),J 3 (y .leq l4 l5),k l3 l6 f,m l7] [(3,8)] [0,1,2]
def TW:Cm:=⟨4,0,[0,1,2],0,false,[],U (Ps 0) (ur (Ps 1)),[.slot 3]⟩
def Aen:List Tmp:=[0,1,2,6]
def Bn:Nat->Ce
 |0=>R 0 [m i0,m i0] [] [2,3]
 |1=>R 1 [m i0] [(4,0)] []
 |2=>R 2 [m i0] [(5,0)] []
 |3=>R 3 [m i0] [(6,0)] []
 |4=>R 4 [m s6,m s0,e l1,y .lss l0 l2] [(8,3)] []
 |5=>Q 6 [m s0,m s6,A 5 l0 l1,P 5 l2,a 0 zD,W 5 l4 l3] [(7,4)] [] [0] []
 |6=>R 7 [F s7 0,F l0 0,L l1,n l2,m l3,G 4 (F s7 0),G 4 (F l5 1),G 4 (L l6),G 4 (m s1),G 4 (y .lss l7 l8),G 4 (m l9),J 10 (F s7 4),J 10 (L Iz),J 10 (m s1),J 10 (C 166 [r K6,r ME] []),G 4 (k l10 P8 f),k l4 t R5,m V6] [(9,17)] []
 |7=>R 8 [m s5,y .add l0 i1,m l1] [(5,2)] [7]
 |8=>R 9 [F s7 0,F l0 1,L l1,m s1,y .geq l2 l3,m l4] [(10,5)] [7]
 |9=>R 10 [m s4,y .add l0 i1,m l1] [(4,2)] []
 |10=>R 5 [m s6,y .add l0 i1,m l1] [(6,2)] []
 |_=>R 11 [m s4,m s5,m l0,m l1] [(2,2),(3,3)] [0,1,4,5,6]
def Mg:Cm:=⟨11,1,[0,1],0,false,[],U (Bn 0) (U (Bn 1) (U (Bn 2) (j (U (Bn 3) (.block 0 (.loop (j (U (Bn 4) (h 8 sk (.exit 0))) (j (.block 1 (U (Bn 5) (.block 2 (U (Bn 6) (h 9 (d (Bn 7)) (U (Bn 8) (hs 10 (d (Bn 9))))))))) (d (Bn 10))))))) (ur (Bn 11))))),[.slot 2,.slot 3]⟩
def WQ:List Tmp:=[0,1,4,5,6,7,8,9,13,20,40]
def EM:Nat->Ce
 |0=>R 0 [m f] [] [2]
 |1=>R 1 [m i0] [(3,0)] []
 |2=>R 2 [m s3,m s0,e l1,y .lss l0 l2] [(4,3)] []
 |3=>R 4 [m s0,m s3,A 1 l0 l1,L l2,m s1,y .eql l3 l4] [(5,5)] []
 |4=>R 5 [m t] [(2,0)] [0,1,3]
 |5=>R 3 [m s3,y .add l0 i1,m l1] [(3,2)] []
 |_=>R 6 [m f] [(2,0)] [0,1,3]
def QH:Cm:=⟨6,0,[0,1],0,false,[],U (EM 0) (j (U (EM 1) (.block 0 (.loop (j (U (EM 2) (h 4 sk (.exit 0))) (j (.block 1 (U (EM 3) (hs 5 (ur (EM 4))))) (d (EM 5))))))) (ur (EM 6))),[.slot 2]⟩
def AcK:List Tmp:=[0,1,4,5,9,17]
def KH:Nat->Ce
 |0=>R 0 [x 0 s0,m f] [(2,0)] [0,3]
 |_=>T 1 [D (m s1) [] [],D (F s2 3) [] [],D (L l1) [0] [],D (e l2) [] [],D (y .sub l3 i1) [] [],D (C 71 [r l0,r i0,r l4] []) [] [],D (m l5) [] [],K 6 (F s2 4) [] [],K 6 (P 4 l7) [0] [],K 6 (m s1) [] [],K 6 (F s2 3) [] [],K 6 (L l10) [0] [],K 6 (e Iz) [] [],K 6 (C 214 [r l8,r l9,r K6] []) [] [],D (k l6 ME f) [] [],D (m P8) [] [],K 15 (F s2 3) [] [],K 15 (L V6) [0] [],K 15 (m s1) [] [],K 15 (A 4 XK l18) [] [],K 15 (F l19 0) [] [],K 15 (L l20) [] [],K 15 (F s2 4) [] [],K 15 (F l22 0) [] [],K 15 (L l23) [0] [],K 15 (C 166 [r l21,r l24] []) [] [],D (k R5 l25 f) [] [],D (m l26) [] []] [(3,27)] [1,2]
def Nk:Cm:=⟨4,1,[0,1],0,false,[],U (KH 0) (ur (KH 1)),[.slot 3]⟩
def Y2:List Tmp:=[0,1,2,4]
def Gj:Nat->Ce
 |0=>R 0 [x 0 s0,m i0] [(1,0)] [0,2]
 |1=>R 1 [F s1 10,L l0,F s1 4,F l2 0,L l3,C 155 [r l1,r l4] [],m l5,X l6 0,X l6 1,m l7,m l8] [(3,9),(4,10)] []
 |_=>R 2 [m s3,m s4,F s1 8,L l2,F s1 9,L l4,C 156 [r l0,r l1,r l3,r l5] [],m l6] [(2,7)] [1,3,4]
def KW:Cm:=⟨5,1,[0],0,false,[],U (Gj 0) (U (Gj 1) (ur (Gj 2))),[.slot 2]⟩
def U4:List Tmp:=[0,1,2,3,4]
def Pb:Nat->Ce
 |0=>R 0 [x 0 s0,m f] [(3,0)] [0,4]
 |_=>R 1 [m s1,y .geq l0 i0,m l1,J 2 (m s1),J 2 (m s2),J 2 (y .lss l3 l4),k l2 l5 f,m l6,J 7 (m s1),J 7 (P 4 s3),J 7 (m s2),J 7 (C 254 [r l9,r l10] []),J 7 (y .lss l8 Iz),k l7 K6 f,m ME] [(4,14)] [1,2,3]
def Uf:Cm:=⟨5,1,[0,1,2],0,false,[],U (Pb 0) (ur (Pb 1)),[.slot 4]⟩
def Afq:List Tmp:=[0,1,2,3,6]
def BM:Nat->Ce
 |0=>R 0 [m i0] [] [4]
 |1=>R 1 [m s0,C 71 [r l0,r i0,r (i 10000)] [],n l1,m l2,G 3 (m s1),G 3 (C 71 [r l4,r i0,r (i 10000)] []),G 3 (n l5),k l3 t l6,m l7,G 8 (m s2),G 8 (C 71 [r l9,r i1,r (i 10000)] []),G 8 (n l10),k l8 t Iz,m K6,G 13 (m s3),G 13 (C 71 [r P8,r i0,r (i 100)] []),G 13 (n R5),k ME t V6] [(5,17)] []
 |2=>R 2 [m i0] [(4,0)] [0,1,2,3]
 |3=>R 3 [m s1,y .mul (i 100) l0,m s3,m s2,y .mul l2 l3,y .gtr l1 l4,m l5,J 6 (m s1),J 6 (y .mul (i 100) l7),J 6 (m s3),J 6 (m s0),J 6 (m s1),J 6 (y .add l10 Iz),J 6 (y .mul l9 K6),J 6 (y .gtr l8 ME),k l6 P8 f,m R5] [(6,16)] []
 |4=>R 4 [m i2] [(4,0)] [0,1,2,3]
 |5=>R 5 [m s0,m s1,y .add l0 l1,m s2,y .lss l2 l3,m l4] [(7,5)] [2]
 |6=>R 6 [m i0] [(4,0)] [0,1,3]
 |7=>R 7 [m s1,y .mul (i 100) l0,m s3,m s0,m s1,y .add l3 l4,y .mul l2 l5,y .leq l1 l6,m l7] [(8,8)] [0,1,3]
 |8=>R 8 [m i1] [(4,0)] []
 |_=>R 9 [m i2] [(4,0)] []
def Ma:Cm:=⟨9,0,[0,1,2,3],0,false,[],U (BM 0) (j (U (BM 1) (hs 5 (ur (BM 2)))) (j (.block 0 (U (BM 3) (h 6 (ur (BM 4)) (U (BM 5) (h 7 (ur (BM 6)) (U (BM 7) (hs 8 (ur (BM 8))))))))) (ur (BM 9)))),[.slot 4]⟩
def WU:List Tmp:=[0,1,2,3,8,26,27,44,50]
def HZ:Nat->Ce
 |0=>R 0 [m f] [] [1]
 |_=>R 1 [m s0,C 71 [r l0,r i0,r (i 255)] [],m l1,J 2 (m s0),J 2 (y .rem l3 (i 16)),J 2 (y .eql l4 (i 10)),k l2 l5 f,m l6] [(1,7)] [0]
def Jh:Cm:=⟨2,0,[0],0,false,[],U (HZ 0) (ur (HZ 1)),[.slot 1]⟩
def TJ:List Tmp:=[0,2]
def F4:Nat->Ce
 |0=>R 0 [x 0 s0,m i0] [(2,0)] [0,3]
 |1=>R 1 [P 4 s2,C 145 [r l0] [],n l1,m l2,G 3 (F s2 3),G 3 (L l4),k l3 t l5,m l6,G 7 (m s1),G 7 (C 71 [r l8,r i0,r (i 10000)] []),G 7 (n l9),k l7 t l10] [(4,11)] []
 |2=>R 2 [m i0] [(3,0)] [1,2]
 |_=>R 3 [m s1,F s2 1,L l1,F s2 2,L l3,A 1 l2 l4,L l5,y .mul l0 l6,C 284 [r l7,r (i 100)] [],m l8] [(3,9)] [1,2]
def NG:Cm:=⟨5,1,[0,1],0,false,[],U (F4 0) (j (U (F4 1) (hs 4 (ur (F4 2)))) (ur (F4 3))),[.slot 3]⟩
def Y9:List Tmp:=[0,1,2,4,16]
def CW:Nat->Ce
 |0=>R 0 [x 0 s0,m f] [(1,0)] [0,2]
 |1=>R 1 [m i0] [(3,0)] []
 |2=>R 2 [m s3,F s1 1,L l1,e l2,y .lss l0 l3] [(4,4)] []
 |3=>T 4 [D (F s1 1) [] [],D (L l0) [0] [],D (m s3) [] [],D (A 1 l1 l2) [] [],D (L l3) [] [],D (C 71 [r l4,r i1,r (i 100)] []) [] [],D (n l5) [] [],D (m l6) [] [],H 7 (m s3) [] [],H 7 (y .gtr l8 i0) [] [],H 7 (m l9) [] [],K 10 (F s1 1) [] [],K 10 (L Iz) [0] [],K 10 (m s3) [] [],K 10 (y .sub ME i1) [] [],K 10 (A 1 K6 P8) [] [],K 10 (L R5) [] [],K 10 (F s1 1) [] [],K 10 (L XK) [0] [],K 10 (m s3) [] [],K 10 (A 1 l18 l19) [] [],K 10 (L l20) [] [],K 10 (y .geq V6 l21) [] [],H 7 (k l10 l22 f) [] [],D (k l7 t l23) [] []] [(5,24)] []
 |4=>R 5 [m f] [(2,0)] [1,3]
 |5=>R 3 [m s3,y .add l0 i1,m l1] [(3,2)] []
 |_=>R 6 [F s1 0,L l0,C 71 [r l1,r i1,r (i 9)] [],m l2,J 3 (F s1 1),J 3 (L l4),J 3 (e l5),J 3 (C 71 [r l6,r i1,r (i 5)] []),k l3 l7 f,m l8,J 9 (F s1 1),J 9 (L l10),J 9 (F s1 1),J 9 (L K6),J 9 (e ME),J 9 (y .sub P8 i1),J 9 (A 1 Iz R5),J 9 (L V6),J 9 (y .eql XK (i 100)),k l9 l18 f,m l19,J 20 (F s1 2),J 20 (L l21),J 20 (F s1 1),J 20 (L l23),J 20 (e l24),J 20 (y .sub l25 i1),J 20 (C 71 [r l22,r i0,r l26] []),k l20 l27 f,m l28] [(2,29)] [1,3]
def Kv:Cm:=⟨6,1,[0],0,false,[],U (CW 0) (j (U (CW 1) (.block 0 (.loop (j (U (CW 2) (h 4 sk (.exit 0))) (j (.block 1 (U (CW 3) (hs 5 (ur (CW 4))))) (d (CW 5))))))) (ur (CW 6))),[.slot 2]⟩
def Ve:List Tmp:=[0,1,2,3,8,35]
def F3:Nat->Ce
 |0=>R 0 [m i0] [] [2]
 |1=>R 1 [m s0,C 71 [r l0,r i0,r (i 1000000000000)] [],n l1,m l2,G 3 (m s1),G 3 (C 71 [r l4,r i1,r (i 1000000000000)] []),G 3 (n l5),k l3 t l6] [(3,7)] []
 |2=>R 2 [m i0] [(2,0)] [0,1]
 |_=>R 3 [m s0,m s1,y .add l0 l1,y .sub l2 i1,m s1,y .quo l3 l4,m l5] [(2,6)] [0,1]
def M9:Cm:=⟨4,0,[0,1],0,false,[],U (F3 0) (j (U (F3 1) (hs 3 (ur (F3 2)))) (ur (F3 3))),[.slot 2]⟩
def Zl:List Tmp:=[0,1,4,12]
def Eh:Nat->Ce
 |0=>R 0 [x 0 s0,a 1 zW,m f] [(2,0),(3,1)] [0,4]
 |1=>R 1 [P 15 s2,C 22 [r l0] [2,3,4,5,6,7],a 8 zW,W 15 l2 l1] [(5,2)] []
 |2=>R 2 [m s1,C 71 [r l0,r i1,r (i 100)] [],n l1,m l2,G 3 (F s2 12),G 3 (L l4),G 3 (m s1),G 3 (y .sub (i 10000) l6),G 3 (C 71 [r l5,r i0,r l7] []),G 3 (n l8),k l3 t l9] [(6,10)] []
 |3=>R 3 [P 15 s5,W 15 s3 l0,m f] [(4,2)] [1,2,5]
 |4=>R 4 [F s2 12,L l0,m s1,y .add l1 l2,F s5 12,W 1 l4 l3] [] [1,2]
 |_=>R 5 [P 15 s5,W 15 s3 l0,m t] [(4,2)] [5]
def LV:Cm:=⟨7,9,[0,1],0,false,[],U (Eh 0) (U (Eh 1) (j (U (Eh 2) (hs 6 (ur (Eh 3)))) (U (Eh 4) (ur (Eh 5))))),[.cell 3 (some 15),.slot 4]⟩
def Xq:List Tmp:=[0,1,2,4,5,6,19]
def DU:Nat->Ce
 |0=>R 0 [x 0 s0,a 1 zW,m f] [(2,0),(3,1)] [0,4]
 |1=>R 1 [P 15 s2,C 22 [r l0] [2,3,4,5,6,7],a 8 zW,W 15 l2 l1] [(5,2)] []
 |2=>R 2 [m s1,F s2 3,L l1,e l2,y .sub l3 i1,C 71 [r l0,r i0,r l4] [],n l5,m l6,G 7 (F s2 3),G 7 (L l8),G 7 (m s1),G 7 (A 4 l9 l10),G 7 (F Iz 2),G 7 (L K6),G 7 (e ME),G 7 (y .eql P8 i0),k l7 t R5] [(6,16)] [2]
 |3=>R 3 [P 15 s5,W 15 s3 l0,m f] [(4,2)] [1,5]
 |4=>R 4 [F s5 3,L l0,m s1,M 9 4 0 [],A 4 l1 l2,F l4 2,W 1 l5 l3] [] [1]
 |_=>R 5 [P 15 s5,W 15 s3 l0,m t] [(4,2)] [5]
def KD:Cm:=⟨7,10,[0,1],0,false,[],U (DU 0) (U (DU 1) (j (U (DU 2) (hs 6 (ur (DU 3)))) (U (DU 4) (ur (DU 5))))),[.cell 3 (some 15),.slot 4]⟩
def Vq:List Tmp:=[0,1,2,4,5,6,25]
def D5:Nat->Ce
 |0=>R 0 [x 0 s0,x 1 s2,a 2 zW,m f] [(3,0),(4,1),(5,2)] [0,2,6]
 |1=>R 1 [P 15 s3,C 22 [r l0] [3,4,5,6,7,8],a 9 zW,W 15 l2 l1] [(7,2)] []
 |2=>R 2 [m s1,F s3 3,L l1,e l2,y .sub l3 i1,C 71 [r l0,r i0,r l4] [],n l5,m l6,G 7 (P 4 s4),G 7 (C 152 [r l8] []),G 7 (n l9),k l7 t l10,m Iz,G 12 (F s3 3),G 12 (L ME),G 12 (m s1),G 12 (A 4 P8 R5),G 12 (F V6 2),G 12 (L XK),G 12 (e l18),G 12 (y .geq l19 (i 4)),k K6 t l20] [(9,21)] [3]
 |3=>R 3 [P 15 s7,W 15 s5 l0,m f] [(6,2)] [1,4,7]
 |4=>T 4 [D (F s4 0) [] [],D (L l0) [1] [],D (M 10 1 0 []) [10] [10],D (F s4 1) [] [],D (L l3) [1] [],D (q 11 1 8 l2 l4) [10,11] [10,11],D (M 12 1 0 []) [12] [12],D (F s4 2) [] [],D (L l7) [1] [],D (q 13 1 8 l6 l8) [12,13] [12,13],D (F s4 3) [] [],D (L l10) [1] [],D (b [o,N 1,N 1,c] [(0,1,l1),(1,1,l5),(2,1,l9),(3,1,Iz)]) [] [],D (a 14 [o,N 1,N 1,c]) [14] [14],D (W 4 ME K6) [14,17] [14]] [(8,13)] [4]
 |5=>T 5 [D (F s7 3) [] [],D (L l0) [9] [],D (m s1) [] [],D (F s7 3) [] [],D (L l3) [9] [],D (m s1) [] [],D (A 4 l4 l5) [5] [],D (F l6 2) [] [],D (.take 17 l7) [5,17] [5,17],D (P 4 s8) [14] [],D (M 15 4 1 [l9]) [11,13,15] [11,13,15],D (p 16 4 64 l8 l10) [15,16,17] [15,16,17],D (A 4 l1 l2) [5] [],D (F K6 2) [] [],D (W 1 ME Iz) [5,16,17] [5,16]] [] [1,8]
 |_=>R 6 [P 15 s7,W 15 s5 l0,m t] [(6,2)] [7]
def Ni:Cm:=⟨10,18,[0,1,2],0,false,[17],U (D5 0) (U (D5 1) (j (U (D5 2) (hs 9 (ur (D5 3)))) (U (D5 4) (U (D5 5) (ur (D5 6)))))),[.cell 5 (some 15),.slot 6]⟩
def Yj:List Tmp:=[0,1,2,3,5,6,7,8,9,33]
def Ar:Nat->Ce
 |0=>R 0 [x 0 s0,a 1 zW] [(1,0),(2,1)] [0]
 |1=>R 1 [P 15 s1,a 2 zW,W 15 l1 l0] [(3,1)] []
 |2=>R 2 [M 3 1 0 [],F s1 0,L l1,q 4 1 8 l0 l2,F s3 0,W 1 l4 l3] [] []
 |3=>R 3 [M 5 1 0 [],F s1 1,L l1,q 6 1 8 l0 l2,F s3 1,W 1 l4 l3] [] []
 |4=>Q 4 [M 7 4 0 [],F s3 3,W 1 l1 l0] [] [] [] [w 7 24]
 |5=>R 5 [m i0] [(4,0)] []
 |6=>R 6 [m s4,F s1 3,L l1,e l2,y .lss l0 l3] [(7,4)] []
 |7=>Y 8 [D (F s3 3) [] [],D (L l0) [2] [],D (F s1 3) [] [],D (L l2) [0] [],D (m s4) [] [],D (A 4 l3 l4) [] [],D (P 4 l5) [] [],D (C 65 [r l6] [8,9,10]) [8,9,10] [8,9,10],D (M 11 4 1 [l7]) [8,9,10,11] [8,9,10,11],D (p 12 4 80 l1 l8) [11,12,24] [11,12,24],D (F s3 3) [] [],D (W 1 l10 l9) [2] [2]] [] [] [8,9,10,11,12] [w 12 24]
 |8=>R 7 [m s4,y .add l0 i1,m l1] [(4,2)] []
 |9=>R 9 [F s1 4,P 4 l0,C 66 [r l1] [13],F s3 4,W 4 l3 l2] [] [4]
 |10=>Q 10 [M 14 5 0 [],F s3 10,W 1 l1 l0] [] [] [] [w 14 25]
 |11=>R 11 [m i0] [(5,0)] []
 |12=>R 12 [m s5,F s1 10,L l1,e l2,y .lss l0 l3] [(8,4)] []
 |13=>Y 14 [D (F s3 10) [] [],D (L l0) [2] [],D (F s1 10) [] [],D (L l2) [0] [],D (m s5) [] [],D (A 5 l3 l4) [] [],D (P 5 l5) [] [],D (C 67 [r l6] [15,16]) [15,16] [15,16],D (M 17 5 1 [l7]) [15,16,17] [15,16,17],D (p 18 5 72 l1 l8) [17,18,25] [17,18,25],D (F s3 10) [] [],D (W 1 l10 l9) [2] [2]] [] [] [15,16,17,18] [w 18 25]
 |14=>R 13 [m s5,y .add l0 i1,m l1] [(5,2)] []
 |15=>Q 15 [M 19 8 0 [],F s3 11,W 1 l1 l0] [] [5] [] [w 19 26]
 |16=>R 16 [m i0] [(6,0)] []
 |17=>R 17 [m s6,F s1 11,L l1,e l2,y .lss l0 l3] [(9,4)] []
 |18=>Y 19 (.append [D (F s3 11) [] [],D (L l0) [2] [],D (F s1 11) [] [],D (L l2) [0] [],D (m s6) [] [],D (A 8 l3 l4) [] [],D (F l5 0) [] [],D (L l6) [] [],D (F s1 11) [] [],D (L l8) [0] [],D (m s6) [] [],D (A 8 l9 l10) [] [],D (F Iz 1) [] [],D (L K6) [] [],D (F s1 11) [] [],D (L P8) [0] [],D (m s6) [] [],D (A 8 R5 V6) [] [],D (F XK 2) [] [],D (L l18) [] [],D (F s1 11) [] [],D (L l20) [0] [],D (m s6) [] [],D (A 8 l21 l22) [] [],D (F l23 3) [] [],D (P 5 l24) [] [],D (C 67 [r l25] [20,21]) [20,21] [20,21],D (b zL [(0,1,l7),(1,1,ME),(2,1,l19),(3,5,l26)]) [] [],D (M 22 8 1 [l27]) [20,21,22] [20,21,22],D (p 23 8 96 l1 l28) [22,23,26] [22,23,26]] [D (F s3 11) [] [],D (W 1 (l 30) l29) [2] [2]]) [] [] [20,21,22,23] [w 23 26]
 |19=>R 18 [m s6,y .add l0 i1,m l1] [(6,2)] []
 |_=>R 20 [P 15 s3,W 15 s2 l0] [] [1,3,6]
def Na:Cm:=⟨10,27,[0],0,false,[],U (Ar 0) (U (Ar 1) (U (Ar 2) (U (Ar 3) (U (Ar 4) (j (U (Ar 5) (.block 0 (.loop (j (U (Ar 6) (h 7 sk (.exit 0))) (j (.block 1 (d (Ar 7))) (d (Ar 8))))))) (U (Ar 9) (U (Ar 10) (j (U (Ar 11) (.block 2 (.loop (j (U (Ar 12) (h 8 sk (.exit 2))) (j (.block 3 (d (Ar 13))) (d (Ar 14))))))) (U (Ar 15) (j (U (Ar 16) (.block 4 (.loop (j (U (Ar 17) (h 9 sk (.exit 4))) (j (.block 5 (d (Ar 18))) (d (Ar 19))))))) (ur (Ar 20)))))))))))),[.cell 2 (some 15)]⟩
def Y6:List Tmp:=[0,1,2,3,4,5,6,24,48,68]
def Nn:Nat->Ce
 |0=>R 0 [x 0 s0,m f] [(1,0)] [0,2]
 |_=>R 1 [F s1 0,L l0,C 71 [r l1,r i0,r (i 9)] [],m l2,J 3 (F s1 1),J 3 (L l4),J 3 (e l5),J 3 (y .leq l6 (i 6)),k l3 l7 f,m l8,J 9 (F s1 2),J 9 (L l10),J 9 (e Iz),J 9 (y .leq K6 (i 6)),k l9 ME f,m P8,J 15 (F s1 1),J 15 (L V6),J 15 (C 217 [r XK] []),k R5 l18 f,m l19,J 20 (F s1 2),J 20 (L l21),J 20 (C 217 [r l22] []),k l20 l23 f,m l24] [(2,25)] [1]
def QE:Cm:=⟨3,1,[0],0,false,[],U (Nn 0) (ur (Nn 1)),[.slot 2]⟩
def AcF:List Tmp:=[0,1,2]
def DN:Nat->Ce
 |0=>R 0 [x 0 s0,a 1 zE] [(1,0),(2,1)] [0]
 |1=>Y 1 [D (M 2 1 0 []) [2] [2],D (F s1 0) [] [],D (L l1) [0] [],D (q 3 1 8 l0 l2) [2,3] [2,3],D (M 4 1 0 []) [4] [4],D (F s1 1) [] [],D (L l5) [0] [],D (q 5 1 8 l4 l6) [4,5] [4,5],D (F s1 3) [] [],D (L l8) [0] [],D (b zE [(0,1,l3),(1,1,l7),(3,1,l9)]) [] [],D (a 6 zE) [6] [6],D (W 4 Iz l10) [6] [6]] [(3,11)] [] [] [.ownc 6 2 14]
 |2=>R 2 [m i0] [(4,0)] []
 |3=>R 3 [m s4,F s1 2,L l1,e l2,y .lss l0 l3] [(6,4)] []
 |4=>Q 5 [F s1 2,L l0,m s4,A 4 l1 l2,P 4 l3,a 7 [o,N 1,N 1,c],W 4 l5 l4] [(5,5)] [] [7] []
 |5=>Y 6 [D (F s3 2) [] [],D (L l0) [6] [],D (F s5 0) [] [],D (L l2) [7] [],D (M 8 1 0 []) [8] [8],D (F s5 1) [] [],D (L l5) [7] [],D (q 9 1 8 l4 l6) [8,9] [8,9],D (M 10 1 0 []) [10] [10],D (F s5 2) [] [],D (L l9) [7] [],D (q 11 1 8 l8 l10) [10,11] [10,11],D (F s5 3) [] [],D (L K6) [7] [],D (b [o,N 1,N 1,c] [(0,1,l3),(1,1,l7),(2,1,Iz),(3,1,ME)]) [] [],D (M 12 4 1 [P8]) [9,11,12] [9,11,12],D (p 13 4 64 l1 R5) [12,13,14] [12,13,14],D (F s3 2) [] [],D (W 1 XK V6) [6] [6]] [] [5] [8,9,10,11,12,13] [w 13 14]
 |6=>R 4 [m s4,y .add l0 i1,m l1] [(4,2)] []
 |_=>R 7 [P 4 s3,W 4 s2 l0] [] [1,3,4]
def OM:Cm:=⟨7,15,[0],0,false,[],U (DN 0) (U (DN 1) (j (U (DN 2) (.block 0 (.loop (j (U (DN 3) (h 6 sk (.exit 0))) (j (.block 1 (U (DN 4) (d (DN 5)))) (d (DN 6))))))) (ur (DN 7)))),[.cell 2 (some 4)]⟩
def AbO:List Tmp:=[0,1,2,3,4,5,21]
def Ht:Nat->Ce
 |0=>R 0 [x 0 s0,a 1 zR] [(1,0),(2,1)] [0]
 |1=>R 1 [M 2 1 0 [],F s1 1,L l1,q 3 1 8 l0 l2,F s1 1,W 1 l4 l3] [] []
 |_=>R 2 [P 4 s1,W 4 s2 l0] [] [1]
def NA:Cm:=⟨3,4,[0],0,false,[],U (Ht 0) (U (Ht 1) (ur (Ht 2))),[.cell 2 (some 4)]⟩
def Zo:List Tmp:=[0,1,2]
def Fy:Nat->Ce
 |0=>R 0 [x 0 s0,a 1 zD] [(1,0),(2,1)] [0]
 |1=>R 1 [M 2 1 0 [],F s1 0,F l1 2,L l2,q 3 1 8 l0 l3,F s1 0,F l5 2,W 1 l6 l4] [] []
 |2=>R 2 [M 4 1 0 [],F s1 4,L l1,q 5 1 8 l0 l2,F s1 4,W 1 l4 l3] [] []
 |_=>R 3 [P 5 s1,W 5 s2 l0] [] [1]
def KY:Cm:=⟨3,6,[0],0,false,[],U (Fy 0) (U (Fy 1) (U (Fy 2) (ur (Fy 3)))),[.cell 2 (some 5)]⟩
def Uo:List Tmp:=[0,1,2]
def Er:Nat->Ce
 |0=>R 0 [m f] [] [1]
 |1=>R 1 [m i0] [(2,0)] []
 |2=>R 2 [m s2,m s0,e l1,y .lss l0 l2] [(3,3)] []
 |3=>R 4 [m s0,m s2,A 1 l0 l1,L l2,C 71 [r l3,r i0,r (i 255)] [],n l4] [(4,5)] []
 |4=>R 5 [m f] [(1,0)] [0,2]
 |5=>R 3 [m s2,y .add l0 i1,m l1] [(2,2)] []
 |_=>R 6 [m t] [(1,0)] [0,2]
def OW:Cm:=⟨5,0,[0],0,false,[],U (Er 0) (j (U (Er 1) (.block 0 (.loop (j (U (Er 2) (h 3 sk (.exit 0))) (j (.block 1 (U (Er 3) (hs 4 (ur (Er 4))))) (d (Er 5))))))) (ur (Er 6))),[.slot 1]⟩
def Aaj:List Tmp:=[0,2,3,7,15]
def H8:Nat->Ce
 |0=>R 0 [a 0 [N 1,N 2]] [(1,0)] []
 |_=>R 1 [M 1 1 0 [],m s0,q 2 1 8 l0 l1,b [N 1,N 2] [(0,1,l2)],W 2 s1 l3] [] [0]
def Jo:Cm:=⟨2,3,[0],0,false,[],U (H8 0) (ur (H8 1)),[.cell 1 (some 2)]⟩
def TH:List Tmp:=[0,2]
def Bf:Nat->Ce
 |0=>R 0 [x 0 s0,x 1 s1,a 2 [N 1,N 2],m f] [(2,0),(3,1),(4,2)] [0,1,5]
 |1=>T 1 [D (P 4 s2) [0] [],D (C 152 [r l0] []) [] [],D (n l1) [] [],D (m l2) [] [],H 3 (P 2 s3) [1] [],H 3 (C 285 [r l4] []) [] [],H 3 (n l5) [] [],D (k l3 t l6) [] [],D (m l7) [] [],H 8 (F s2 0) [] [],H 8 (L l9) [0] [],H 8 (y .gtr l10 i0) [] [],H 8 (m Iz) [] [],K 12 (F s3 0) [] [],K 12 (L ME) [1] [],K 12 (F s3 0) [] [],K 12 (L R5) [1] [],K 12 (e V6) [] [],K 12 (y .sub XK i1) [] [],K 12 (A 1 P8 l18) [] [],K 12 (L l19) [] [],K 12 (F s2 0) [] [],K 12 (L l21) [0] [],K 12 (y .gtr l20 l22) [] [],H 8 (k K6 l23 f) [] [],D (k l8 t l24) [] []] [(10,25)] []
 |2=>R 2 [b [N 1,N 2] [],W 2 s4 l0,m f] [(5,2)] [2,3]
 |3=>Q 3 [M 3 1 0 [],F s3 0,L l1,q 4 1 8 l0 l2,b [N 1,N 2] [(0,1,l3)],a 5 [N 1,N 2],W 2 l5 l4] [(6,5)] [] [] [.ownc 5 1 10]
 |4=>R 4 [m i0] [(7,0)] []
 |5=>R 5 [m s7,F s3 1,L l1,e l2,y .lss l0 l3] [(11,4)] []
 |6=>R 7 [F s3 1,L l0,m s7,A 2 l1 l2,F l3 0,L l4,m l5] [(8,6)] []
 |7=>R 8 [F s2 2,L l0,m s8,C 166 [r l1,r l2] [],m l3] [(9,4)] []
 |8=>R 9 [F s2 1,L l0,m s8,C 166 [r l1,r l2] [],m l3,G 4 (F s2 3),G 4 (L l5),G 4 (m l6),J 7 (m s9),J 7 (n l8),G 4 (k l7 l9 f),G 4 (m l10),J 11 (m s8),J 11 (C 71 [r K6,r i1,r (i 3)] []),J 11 (n ME),G 4 (k Iz P8 f),k l4 t R5] [(12,16)] []
 |9=>R 10 [b [N 1,N 2] [],W 2 s4 l0,m f] [(5,2)] [2,3,6,7,8,9]
 |10=>R 11 [m s9,n l0] [(13,1)] [9]
 |11=>Y 12 [D (F s6 1) [] [],D (L l0) [5] [],D (m s8) [] [],D (M 6 1 0 []) [6] [6],D (F s3 1) [] [],D (L l4) [1] [],D (m s7) [] [],D (A 2 l5 l6) [] [],D (F l7 1) [] [],D (L l8) [] [],D (q 7 1 8 l3 l9) [6,7] [6,7],D (b [o,N 1] [(0,1,l2),(1,1,l10)]) [] [],D (M 8 2 1 [Iz]) [7,8] [7,8],D (p 9 2 32 l1 K6) [8,9,10] [8,9,10],D (F s6 1) [] [],D (W 1 P8 ME) [5] [5]] [] [8] [6,7,8,9] [w 9 10]
 |12=>R 6 [m s7,y .add l0 i1,m l1] [(7,2)] []
 |_=>R 13 [P 2 s6,W 2 s4 l0,m t] [(5,2)] [2,3,6,7]
def Nv:Cm:=⟨14,11,[0,1],0,false,[],U (Bf 0) (j (U (Bf 1) (hs 10 (ur (Bf 2)))) (U (Bf 3) (j (U (Bf 4) (.block 0 (.loop (j (U (Bf 5) (h 11 sk (.exit 0))) (j (.block 1 (U (Bf 6) (U (Bf 7) (j (U (Bf 8) (hs 12 (ur (Bf 9)))) (U (Bf 10) (hs 13 (d (Bf 11)))))))) (d (Bf 12))))))) (ur (Bf 13))))),[.cell 4 (some 2),.slot 5]⟩
def Zr:List Tmp:=[0,1,2,3,4,5,6,7,8,9,35,46,75,78]
def KG:Nat->Ce
 |0=>R 0 [x 0 s0,m f] [(1,0)] [0,2]
 |_=>R 1 [F s1 0,L l0,C 208 [r l1] [],m l2,J 3 (F s1 1),J 3 (L l4),J 3 (C 312 [r l5] []),k l3 l6 f,m l7] [(2,8)] [1]
def Nq:Cm:=⟨3,1,[0],0,false,[],U (KG 0) (ur (KG 1)),[.slot 2]⟩
def YD:List Tmp:=[0,1,2]
def Cj:Nat->Ce
 |0=>R 0 [m f] [] [1]
 |1=>R 1 [m i0] [(2,0)] []
 |2=>R 2 [m s2,m s0,e l1,y .lss l0 l2] [(3,3)] []
 |3=>T 4 [D (m s0) [] [],D (m s2) [] [],D (A 1 l0 l1) [] [],D (L l2) [] [],D (C 71 [r l3,r i1,r (i 9)] []) [] [],D (n l4) [] [],D (m l5) [] [],H 6 (m s2) [] [],H 6 (y .gtr l7 i0) [] [],H 6 (m l8) [] [],K 9 (m s0) [] [],K 9 (m s2) [] [],K 9 (y .sub Iz i1) [] [],K 9 (A 1 l10 K6) [] [],K 9 (L ME) [] [],K 9 (m s0) [] [],K 9 (m s2) [] [],K 9 (A 1 R5 V6) [] [],K 9 (L XK) [] [],K 9 (y .geq P8 l18) [] [],H 6 (k l9 l19 f) [] [],D (k l6 t l20) [] []] [(4,21)] []
 |4=>R 5 [m f] [(1,0)] [0,2]
 |5=>R 3 [m s2,y .add l0 i1,m l1] [(2,2)] []
 |_=>R 6 [m s0,e l0,y .gtr l1 i0,m l2] [(1,3)] [0,2]
def I6:Cm:=⟨5,0,[0],0,false,[],U (Cj 0) (j (U (Cj 1) (.block 0 (.loop (j (U (Cj 2) (h 3 sk (.exit 0))) (j (.block 1 (U (Cj 3) (hs 4 (ur (Cj 4))))) (d (Cj 5))))))) (ur (Cj 6))),[.slot 1]⟩
def Sv:List Tmp:=[0,2,3,7,31]
def DZ:Nat->Ce
 |0=>R 0 [m f] [] [1]
 |1=>R 1 [m i0] [(2,0)] []
 |2=>R 2 [m s2,m s0,e l1,y .lss l0 l2] [(3,3)] []
 |3=>R 4 (.append [m s0,m s2,A 2 l0 l1,F l2 0,L l3,C 71 [r l4,r i0,r (i 255)] [],n l5,m l6,G 7 (m s0),G 7 (m s2),G 7 (A 2 l8 l9),G 7 (F l10 1),G 7 (L Iz),G 7 (e K6),G 7 (y .gtr ME (i 4)),k l7 t P8,m R5,G 16 (m s0),G 16 (m s2),G 16 (A 2 XK l18),G 16 (F l19 1),G 16 (L l20),G 16 (C 217 [r l21] []),G 16 (n l22),k V6 t l23,m l24,G 25 (m s0),G 25 (m s0),G 25 (m s2),G 25 (A 2 l27 l28)] [G 25 (F l29 0),G 25 (L (l 30)),G 25 (C 309 [r l26,r (l 31)] []),G 25 (m s2),G 25 (y .lss (l 32) (l 33)),k l25 t (l 34)]) [(4,35)] []
 |4=>R 5 [m f] [(1,0)] [0,2]
 |5=>R 3 [m s2,y .add l0 i1,m l1] [(2,2)] []
 |_=>R 6 [m s0,e l0,y .leq l1 (i 6),m l2] [(1,3)] [0,2]
def Nu:Cm:=⟨5,0,[0],0,false,[],U (DZ 0) (j (U (DZ 1) (.block 0 (.loop (j (U (DZ 2) (h 3 sk (.exit 0))) (j (.block 1 (U (DZ 3) (hs 4 (ur (DZ 4))))) (d (DZ 5))))))) (ur (DZ 6))),[.slot 1]⟩
def YM:List Tmp:=[0,2,3,7,45]
def EP:Nat->Ce
 |0=>R 0 [m i0] [] [2]
 |1=>R 1 [m i0] [(3,0)] []
 |2=>R 2 [m s3,m s0,e l1,y .lss l0 l2] [(4,3)] []
 |3=>R 4 [m s0,m s3,A 2 l0 l1,F l2 0,L l3,m s1,y .eql l4 l5] [(5,6)] []
 |4=>R 5 [m s3,m l0] [(2,1)] [0,1,3]
 |5=>R 3 [m s3,y .add l0 i1,m l1] [(3,2)] []
 |_=>R 6 [m (i (-1))] [(2,0)] [0,1,3]
def Qt:Cm:=⟨6,0,[0,1],0,false,[],U (EP 0) (j (U (EP 1) (.block 0 (.loop (j (U (EP 2) (h 4 sk (.exit 0))) (j (.block 1 (U (EP 3) (hs 5 (ur (EP 4))))) (d (EP 5))))))) (ur (EP 6))),[.slot 2]⟩
def AcD:List Tmp:=[0,1,4,5,9,18]
def EW:Nat->Ce
 |0=>R 0 [x 0 s3,a 1 zW,m f] [(4,0),(5,1)] [3,6]
 |1=>R 1 [m s0,m s1,m s2,P 4 s4,b zW [(0,1,l0),(1,1,l1),(2,1,i 77),(3,1,l2),(4,4,l3),(8,1,i 4),(9,1,i 25)],C 22 [r l4] [2,3,4,5,6,7],a 8 zW,W 15 l6 l5] [(7,6)] [0,1,2,4]
 |2=>R 2 [P 15 s7,C 141 [r l0] [],n l1] [(8,2)] []
 |3=>R 3 [b zW [],W 15 s5 l0,m f] [(6,2)] [7]
 |_=>R 4 [P 15 s7,W 15 s5 l0,m t] [(6,2)] [7]
def LP:Cm:=⟨9,9,[0,1,2,3],0,false,[],U (EW 0) (U (EW 1) (j (U (EW 2) (hs 8 (ur (EW 3)))) (ur (EW 4)))),[.cell 5 (some 15),.slot 6]⟩
def Xd:List Tmp:=[0,1,2,3,7,8,9,10,19]
def A9:Nat->Ce
 |0=>R 0 [x 0 s0,a 1 zW] [(1,0),(2,1)] [0]
 |1=>R 1 [P 15 s1,C 22 [r l0] [2,3,4,5,6,7],a 8 zW,W 15 l2 l1] [(3,2)] []
 |2=>R 2 [m i0] [(4,0)] []
 |3=>R 3 [m s4,F s3 3,L l1,e l2,y .lss l0 l3] [(6,4)] []
 |4=>Y 5 [D (F s3 3) [] [],D (L l0) [8] [],D (m s4) [] [],D (A 4 l1 l2) [4] [],D (F l3 0) [] [],D (L l4) [4] [],D (F s1 4) [] [],D (F l6 0) [] [],D (L l7) [0] [],D (C 167 [r l5,r l8] [9]) [9] [9],D (m l9) [] []] [(5,10)] [] [9] []
 |5=>R 6 [F s1 0,L l0,m s5,C 168 [r l1,r l2] [],y .gtr l3 i0] [(7,4)] []
 |6=>R 7 [F s3 3,L l0,m s4,m s5,A 4 l1 l2,F l4 0,W 1 l5 l3] [] [5]
 |7=>R 4 [m s4,y .add l0 i1,m l1] [(4,2)] []
 |8=>R 8 [M 10 5 0 [],F s3 10,W 1 l1 l0] [] [1,4]
 |_=>R 9 [P 15 s3,W 15 s2 l0] [] [3]
def Ia:Cm:=⟨8,11,[0],0,true,[],U (A9 0) (U (A9 1) (j (U (A9 2) (.block 0 (.loop (j (U (A9 3) (h 6 sk (.exit 0))) (j (.block 1 (U (A9 4) (U (A9 5) (hs 7 (d (A9 6)))))) (d (A9 7))))))) (U (A9 8) (ur (A9 9))))),[.cell 2 (some 15)]⟩
def QB:List Tmp:=[0,1,2,3,4,5,12,29]
def Ct:Nat->Ce
 |0=>R 0 [x 0 s0,a 1 zW,m f] [(3,0),(4,1)] [0,5]
 |1=>R 1 [P 15 s3,C 22 [r l0] [2,3,4,5,6,7],a 8 zW,W 15 l2 l1] [(6,2)] []
 |2=>T 2 [D (F s3 0) [] [],D (L l0) [0] [],D (P 15 s3) [0] [],D (C 95 [r l2] [9]) [9] [9],D (m s1) [] [],D (m s2) [] [],D (C 150 [r l1,r l3,r l4,r l5] [10]) [9,10] [10],D (m l6) [] [],D (X l7 0) [] [],D (X l7 1) [] [],D (m l8) [] [],D (m l9) [] []] [(7,10),(8,11)] [2]
 |3=>R 3 [m s8,n l0,m l1,G 2 (m s1),G 2 (F s3 4),G 2 (F l4 0),G 2 (L l5),G 2 (y .eql l3 l6),k l2 t l7] [(9,8)] [1,3,8]
 |4=>R 4 [P 15 s6,W 15 s4 l0,m f] [(5,2)] [6,7]
 |5=>R 5 [m s7,F s6 0,W 1 l1 l0] [] [7]
 |_=>R 6 [P 15 s6,W 15 s4 l0,m t] [(5,2)] [6]
def Jq:Cm:=⟨10,11,[0,1,2],0,false,[],U (Ct 0) (U (Ct 1) (U (Ct 2) (j (U (Ct 3) (hs 9 (ur (Ct 4)))) (U (Ct 5) (ur (Ct 6)))))),[.cell 4 (some 15),.slot 5]⟩
def Tz:List Tmp:=[0,1,2,3,6,7,8,9,10,31]
def CG:Nat->Ce
 |0=>R 0 [x 0 s0,m f] [(1,0)] [0,2]
 |1=>R 1 [m i0] [(3,0)] []
 |2=>R 2 [m s3,F s1 3,L l1,e l2,y .lss l0 l3] [(4,4)] []
 |3=>R 4 [F s1 3,L l0,m s3,A 4 l1 l2,P 4 l3,C 207 [r l4] [],n l5] [(5,6)] []
 |4=>R 5 [m f] [(2,0)] [1,3]
 |5=>R 3 [m s3,y .add l0 i1,m l1] [(3,2)] []
 |6=>T 6 (.append [D (F s1 0) [] [],D (L l0) [0] [],D (C 208 [r l1] []) [] [],D (n l2) [] [],D (m l3) [] [],H 4 (F s1 1) [] [],H 4 (L l5) [0] [],H 4 (C 209 [r l6] []) [] [],H 4 (n l7) [] [],D (k l4 t l8) [] [],D (m l9) [] [],H 10 (F s1 2) [] [],H 10 (L Iz) [0] [],H 10 (C 210 [r K6] []) [] [],H 10 (n ME) [] [],D (k l10 t P8) [] [],D (m R5) [] [],H 16 (F s1 3) [] [],H 16 (L XK) [0] [],H 16 (e l18) [] [],H 16 (y .gtr l19 (i 6)) [] [],D (k V6 t l20) [] [],D (m l21) [] [],H 22 (F s1 4) [] [],H 22 (P 4 l23) [0] [],H 22 (C 145 [r l24] []) [] [],H 22 (n l25) [] [],D (k l22 t l26) [] [],D (m l27) [] [],H 28 (F s1 0) [] []] [H 28 (L l29) [0] [],H 28 (F s1 4) [] [],H 28 (F (l 31) 0) [] [],H 28 (L (l 32)) [0] [],H 28 (C 166 [r (l 30),r (l 33)] []) [] [],H 28 (n (l 34)) [] [],D (k l28 t (l 35)) [] [],D (m (l 36)) [] [],H 37 (F s1 0) [] [],H 37 (L (l 38)) [0] [],H 37 (P 15 s1) [0] [],H 37 (C 95 [r (l 40)] [1]) [1] [1],H 37 (C 211 [r (l 39),r (l 41)] []) [1] [],H 37 (n (l 42)) [] [],D (k (l 37) t (l 43)) [] []]) [(6,44)] [3]
 |7=>R 7 [m f] [(2,0)] [1]
 |_=>R 8 (.append [F s1 8,L l0,C 71 [r l1,r i1,r (i 100)] [],m l2,J 3 (F s1 9),J 3 (L l4),J 3 (C 71 [r l5,r i0,r (i 100)] []),k l3 l6 f,m l7,J 8 (F s1 10),J 8 (L l9),J 8 (e l10),J 8 (y .leq Iz (i 60)),k l8 K6 f,m ME,J 14 (F s1 11),J 14 (L R5),J 14 (e V6),J 14 (y .leq XK (i 60)),k P8 l18 f,m l19,J 20 (F s1 12),J 20 (L l21),J 20 (C 71 [r l22,r i0,r (i 10000)] []),k l20 l23 f,m l24,J 25 (F s1 13),J 25 (L l26),J 25 (F s1 11),J 25 (L l28)] [J 25 (e l29),J 25 (C 71 [r l27,r i0,r (l 30)] []),k l25 (l 31) f,m (l 32),J 33 (F s1 14),J 33 (L (l 34)),J 33 (F s1 4),J 33 (F (l 36) 1),J 33 (L (l 37)),J 33 (e (l 38)),J 33 (C 71 [r (l 35),r i0,r (l 39)] []),k (l 33) (l 40) f,m (l 41)]) [(2,42)] [1]
def M8:Cm:=⟨7,2,[0],0,false,[],U (CG 0) (j (U (CG 1) (.block 0 (.loop (j (U (CG 2) (h 4 sk (.exit 0))) (j (.block 1 (U (CG 3) (hs 5 (ur (CG 4))))) (d (CG 5))))))) (j (U (CG 6) (hs 6 (ur (CG 7)))) (ur (CG 8)))),[.slot 2]⟩
def Zg:List Tmp:=[0,1,2,3,8,17,62]
def BX:Nat->Ce
 |0=>R 0 [m (z 1)] [] [2]
 |1=>Q 1 [M 0 1 0 [],m l0] [(3,1)] [] [] [w 0 3]
 |2=>R 2 [m i0] [(4,0)] []
 |3=>R 3 [m s4,m s0,e l1,y .lss l0 l2] [(5,3)] []
 |4=>R 5 [m s0,m s4,A 1 l0 l1,L l2,m s1,y .neq l3 l4] [(6,5)] []
 |5=>Q 6 [m s3,m s0,m s4,A 1 l1 l2,L l3,M 1 1 1 [l4],q 2 1 8 l0 l5,m l6] [(3,7)] [] [1,2] [w 2 3]
 |6=>R 4 [m s4,y .add l0 i1,m l1] [(4,2)] []
 |_=>R 7 [m s3,m l0] [(2,1)] [0,1,3,4]
def Jy:Cm:=⟨7,4,[0,1],0,false,[],U (BX 0) (U (BX 1) (j (U (BX 2) (.block 0 (.loop (j (U (BX 3) (h 5 sk (.exit 0))) (j (.block 1 (U (BX 4) (hs 6 (d (BX 5))))) (d (BX 6))))))) (ur (BX 7)))),[.slot 2]⟩
def Tk:List Tmp:=[0,1,4,5,6,11,19]
def Ee:Nat->Ce
 |0=>R 0 [m i0] [] [2]
 |1=>R 1 [m s0,m s1,C 224 [r l0,r l1] [0],m l2] [(3,3)] []
 |2=>R 2 [m s0,C 208 [r l0] [],n l1,m l2,G 3 (m s1),G 3 (C 208 [r l4] []),G 3 (n l5),k l3 t l6,m l7,G 8 (m s3),G 8 (e l9),G 8 (y .eql l10 i0),k l8 t Iz] [(4,12)] [0,1]
 |3=>R 3 [m i0] [(2,0)] [3]
 |_=>R 4 [m s3,m s3,e l1,y .sub l2 i1,A 1 l0 l3,L l4,m l5] [(2,6)] [3]
def Jf:Cm:=⟨5,1,[0,1],0,false,[],U (Ee 0) (U (Ee 1) (j (U (Ee 2) (hs 4 (ur (Ee 3)))) (ur (Ee 4)))),[.slot 2]⟩
def TU:List Tmp:=[0,1,4,5,21]
def Ed:Nat->Ce
 |0=>R 0 [m (z 1),m f] [] [4,5]
 |1=>R 1 [m s0,m s1,m s2,m s3,C 216 [r l0,r l1,r l2,r l3] [],n l4] [(6,5)] [1,3]
 |2=>R 2 [M 0 1 0 [],m s0,q 1 1 8 l0 l1,m l2,m f] [(4,3),(5,4)] [0,2]
 |_=>R 3 [m s0,m s2,C 167 [r l0,r l1] [2],m l2,m t] [(4,3),(5,4)] [0,2]
def GQ:Cm:=⟨7,3,[0,1,2,3],0,false,[],U (Ed 0) (j (U (Ed 1) (hs 6 (ur (Ed 2)))) (ur (Ed 3))),[.slot 4,.slot 5]⟩
def Qg:List Tmp:=[0,1,2,3,8,9,15]
def D8:Nat->Ce
 |0=>R 0 [x 0 s0,m (z 1)] [(1,0)] [0,2]
 |1=>Q 1 [M 1 1 0 [],m l0] [(3,1)] [] [] [w 1 6]
 |2=>R 2 [m i0] [(4,0)] []
 |3=>R 3 [m s4,F s1 3,L l1,e l2,y .lss l0 l3] [(5,4)] []
 |4=>Q 5 [m s3,M 2 1 0 [],F s1 3,L l2,m s4,A 4 l3 l4,F l5 0,L l6,q 3 1 8 l1 l7,M 4 1 1 [l8],p 5 1 24 l0 l9,m l10] [(3,11)] [] [2,3,4,5] [w 5 6]
 |5=>R 4 [m s4,y .add l0 i1,m l1] [(4,2)] []
 |_=>R 6 [m s3,m l0] [(2,1)] [1,3,4]
def NK:Cm:=⟨6,7,[0],0,false,[],U (D8 0) (U (D8 1) (j (U (D8 2) (.block 0 (.loop (j (U (D8 3) (h 5 sk (.exit 0))) (j (.block 1 (d (D8 4))) (d (D8 5))))))) (ur (D8 6)))),[.slot 2]⟩
def Yt:List Tmp:=[0,1,2,3,4,10]
def AZ:Nat->Ce
 |0=>R 0 [x 0 s0,m f] [(1,0)] [0,2]
 |1=>R 1 [m i0] [(3,0)] []
 |2=>R 2 [m s3,F s1 1,L l1,e l2,y .lss l0 l3] [(5,4)] []
 |3=>T 4 (.append [D (F s1 1) [] [],D (L l0) [0] [],D (m s3) [] [],D (A 1 l1 l2) [] [],D (L l3) [] [],D (C 71 [r l4,r i0,r (i 255)] []) [] [],D (n l5) [] [],D (m l6) [] [],H 7 (F s1 1) [] [],H 7 (L l8) [0] [],H 7 (m s3) [] [],H 7 (A 1 l9 l10) [] [],H 7 (L Iz) [] [],H 7 (C 250 [r K6] []) [] [],D (k l7 t ME) [] [],D (m P8) [] [],H 15 (m s3) [] [],H 15 (y .gtr V6 i0) [] [],H 15 (m XK) [] [],K 18 (F s1 1) [] [],K 18 (L l19) [0] [],K 18 (m s3) [] [],K 18 (y .sub l21 i1) [] [],K 18 (A 1 l20 l22) [] [],K 18 (L l23) [] [],K 18 (F s1 1) [] [],K 18 (L l25) [0] [],K 18 (m s3) [] [],K 18 (A 1 l26 l27) [] [],K 18 (L l28) [] []] [K 18 (y .geq l24 l29) [] [],H 15 (k l18 (l 30) f) [] [],D (k R5 t (l 31)) [] []]) [(6,32)] []
 |4=>R 5 [m f] [(2,0)] [1,3]
 |5=>R 3 [m s3,y .add l0 i1,m l1] [(3,2)] []
 |6=>R 6 [m i0] [(4,0)] [3]
 |7=>R 7 [m s4,F s1 2,L l1,e l2,y .lss l0 l3] [(7,4)] []
 |8=>R 9 [F s1 2,L l0,m s4,A 4 l1 l2,P 4 l3,C 152 [r l4] [],n l5] [(8,6)] []
 |9=>R 10 [m f] [(2,0)] [1,4]
 |10=>R 8 [m s4,y .add l0 i1,m l1] [(4,2)] []
 |_=>R 11 [F s1 0,L l0,C 208 [r l1] [],m l2,J 3 (F s1 1),J 3 (L l4),J 3 (e l5),J 3 (y .leq l6 (i 5)),k l3 l7 f,m l8,J 9 (F s1 2),J 9 (L l10),J 9 (e Iz),J 9 (y .leq K6 (i 4)),k l9 ME f,m P8,J 15 (F s1 3),J 15 (L V6),J 15 (C 71 [r XK,r i0,r (i 5)] []),k R5 l18 f,m l19] [(2,20)] [1,4]
def JC:Cm:=⟨9,1,[0],0,false,[],U (AZ 0) (j (U (AZ 1) (.block 0 (.loop (j (U (AZ 2) (h 5 sk (.exit 0))) (j (.block 1 (U (AZ 3) (hs 6 (ur (AZ 4))))) (d (AZ 5))))))) (j (U (AZ 6) (.block 2 (.loop (j (U (AZ 7) (h 7 sk (.exit 2))) (j (.block 3 (U (AZ 8) (hs 8 (ur (AZ 9))))) (d (AZ 10))))))) (ur (AZ 11)))),[.slot 2]⟩
def Ti:List Tmp:=[0,1,2,3,4,9,44,49,58]
def Ea:Nat->Ce
 |0=>R 0 [m f] [] [1]
 |1=>R 1 [m i0] [(2,0)] []
 |2=>R 2 [m s2,m s0,e l1,y .lss l0 l2] [(3,3)] []
 |3=>T 4 [D (m s0) [] [],D (m s2) [] [],D (A 1 l0 l1) [] [],D (L l2) [] [],D (C 71 [r l3,r i0,r (i 255)] []) [] [],D (n l4) [] [],D (m l5) [] [],H 6 (m s2) [] [],H 6 (y .gtr l7 i0) [] [],H 6 (m l8) [] [],K 9 (m s0) [] [],K 9 (m s2) [] [],K 9 (y .sub Iz i1) [] [],K 9 (A 1 l10 K6) [] [],K 9 (L ME) [] [],K 9 (m s0) [] [],K 9 (m s2) [] [],K 9 (A 1 R5 V6) [] [],K 9 (L XK) [] [],K 9 (y .geq P8 l18) [] [],H 6 (k l9 l19 f) [] [],D (k l6 t l20) [] []] [(4,21)] []
 |4=>R 5 [m f] [(1,0)] [0,2]
 |5=>R 3 [m s2,y .add l0 i1,m l1] [(2,2)] []
 |_=>R 6 [m t] [(1,0)] [0,2]
def Nz:Cm:=⟨5,0,[0],0,false,[],U (Ea 0) (j (U (Ea 1) (.block 0 (.loop (j (U (Ea 2) (h 3 sk (.exit 0))) (j (.block 1 (U (Ea 3) (hs 4 (ur (Ea 4))))) (d (Ea 5))))))) (ur (Ea 6))),[.slot 1]⟩
def Y7:List Tmp:=[0,2,3,7,31]
def HV:Nat->Ce
 |0=>R 0 [m f] [] [1]
 |_=>R 1 [m s0,C 71 [r l0,r i1,r (i 2147483646)] [],m l1] [(1,2)] [0]
def Jd:Cm:=⟨2,0,[0],0,false,[],U (HV 0) (ur (HV 1)),[.slot 1]⟩
def Uc:List Tmp:=[0,2]
def Dy:Nat->Ce
 |0=>R 0 [m f] [] [2]
 |1=>R 1 [m i0] [(3,0)] []
 |2=>R 2 [m s3,m s1,e l1,y .lss l0 l2] [(4,3)] []
 |3=>R 4 [m s0,m s1,m s3,A 1 l1 l2,L l3,C 168 [r l0,r l4] [],y .eql l5 i0] [(5,6)] []
 |4=>R 5 [m f] [(2,0)] [0,1,3]
 |5=>R 3 [m s3,y .add l0 i1,m l1] [(3,2)] []
 |_=>R 6 [m s0,C 208 [r l0] [],m l1] [(2,2)] [0,1,3]
def LQ:Cm:=⟨6,0,[0,1],0,false,[],U (Dy 0) (j (U (Dy 1) (.block 0 (.loop (j (U (Dy 2) (h 4 sk (.exit 0))) (j (.block 1 (U (Dy 3) (hs 5 (ur (Dy 4))))) (d (Dy 5))))))) (ur (Dy 6))),[.slot 2]⟩
def Wx:List Tmp:=[0,1,4,5,9,18]
def CO:Nat->Ce
 |0=>R 0 [m (z 1)] [] [2]
 |1=>Q 1 [M 0 1 0 [],m l0] [(3,1)] [] [] [w 0 3]
 |2=>R 2 [m i0] [(4,0)] []
 |3=>R 3 [m s4,m s0,e l1,y .lss l0 l2] [(5,3)] []
 |4=>R 5 [m s1,m s0,m s4,A 1 l1 l2,L l3,C 166 [r l0,r l4] []] [(6,5)] []
 |5=>Q 6 [m s3,m s0,m s4,A 1 l1 l2,L l3,M 1 1 1 [l4],q 2 1 8 l0 l5,m l6] [(3,7)] [] [1,2] [w 2 3]
 |6=>R 4 [m s4,y .add l0 i1,m l1] [(4,2)] []
 |_=>R 7 [m s3,m l0] [(2,1)] [0,1,3,4]
def Mc:Cm:=⟨7,4,[0,1],0,false,[],U (CO 0) (U (CO 1) (j (U (CO 2) (.block 0 (.loop (j (U (CO 3) (h 5 sk (.exit 0))) (j (.block 1 (U (CO 4) (hs 6 (d (CO 5))))) (d (CO 6))))))) (ur (CO 7)))),[.slot 2]⟩
def W9:List Tmp:=[0,1,4,5,6,11,19]
def FC:Nat->Ce
 |0=>R 0 [m f] [] [4]
 |1=>R 1 [m s0,C 208 [r l0] [],n l1,m l2,G 3 (m s0),G 3 (m s2),G 3 (C 166 [r l4,r l5] []),G 3 (n l6),k l3 t l7,m l8,G 9 (m s0),G 9 (e l10),G 9 (y .eql Iz i1),k l9 t K6,m ME,G 14 (m s3),G 14 (C 71 [r R5,r i0,r (i 1000)] []),G 14 (n V6),k P8 t XK] [(5,18)] []
 |2=>R 2 [m f] [(4,0)] [0,1,2,3]
 |_=>R 3 [m s0,m s1,m s2,C 96 [r l0,r l1,r l2] [0],e l3,y .eql l4 i0,m l5,J 6 (m s0),J 6 (m s1),J 6 (m s2),J 6 (C 255 [r l7,r l8,r l9] []),J 6 (y .mul (i 1000) l10),J 6 (m s3),J 6 (m s1),J 6 (e ME),J 6 (y .mul K6 P8),J 6 (y .leq Iz R5),k l6 V6 f,m XK] [(4,18)] [0,1,2,3]
def KF:Cm:=⟨6,1,[0,1,2,3],0,false,[],U (FC 0) (j (U (FC 1) (hs 5 (ur (FC 2)))) (ur (FC 3))),[.slot 4]⟩
def U0:List Tmp:=[0,1,2,3,8,27]
def Cg:Nat->Ce
 |0=>R 0 [m (z 1)] [] [3]
 |1=>Q 1 [M 0 1 0 [],m l0] [(4,1)] [] [] [w 0 4]
 |2=>R 2 [m s0,m s2,C 167 [r l0,r l1] [1],m l2] [(5,3)] [2]
 |3=>R 3 [m i0] [(6,0)] []
 |4=>R 4 [m s6,m s1,e l1,y .lss l0 l2] [(7,3)] []
 |5=>R 6 [m s0,m s1,m s6,A 1 l1 l2,L l3,C 168 [r l0,r l4] [],y .gtr l5 i0,m l6,J 7 (m s5),J 7 (m s1),J 7 (m s6),J 7 (A 1 l9 l10),J 7 (L Iz),J 7 (C 168 [r l8,r K6] []),J 7 (y .eql ME i0),k l7 P8 f] [(8,15)] []
 |6=>Q 7 [m s4,m s6,M 2 1 1 [l1],q 3 1 8 l0 l2,m l3] [(4,4)] [] [2,3] [w 3 4]
 |7=>R 5 [m s6,y .add l0 i1,m l1] [(6,2)] []
 |_=>R 8 [m s4,m l0] [(3,1)] [0,1,4,5,6]
def L8:Cm:=⟨9,5,[0,1,2],0,false,[],U (Cg 0) (U (Cg 1) (U (Cg 2) (j (U (Cg 3) (.block 0 (.loop (j (U (Cg 4) (h 7 sk (.exit 0))) (j (.block 1 (U (Cg 5) (hs 8 (d (Cg 6))))) (d (Cg 7))))))) (ur (Cg 8))))),[.slot 3]⟩
def WX:List Tmp:=[0,1,2,6,7,8,9,17,35]
def Em:Nat->Ce
 |0=>R 0 [m i0] [] [3]
 |1=>R 1 [m i0] [(4,0)] []
 |2=>R 2 [m i0] [(5,0)] []
 |3=>R 3 [m s5,m s1,e l1,y .lss l0 l2,m l3,J 4 (m s2),J 4 (y .geq l5 i1),k l4 l6 f] [(6,7)] []
 |4=>R 5 [m s0,m s1,m s5,A 1 l1 l2,L l3,C 168 [r l0,r l4] [],m s2,y .eql l5 l6] [(7,7)] []
 |5=>R 6 [m s4,y .add l0 i1,m l1] [(4,2)] []
 |6=>R 4 [m s5,y .add l0 i1,m l1] [(5,2)] []
 |_=>R 7 [m s4,m l0] [(3,1)] [0,1,2,4,5]
def Ra:Cm:=⟨8,0,[0,1,2],0,false,[],U (Em 0) (U (Em 1) (j (U (Em 2) (.block 0 (.loop (j (U (Em 3) (h 6 sk (.exit 0))) (j (.block 1 (U (Em 4) (hs 7 (d (Em 5))))) (d (Em 6))))))) (ur (Em 7)))),[.slot 3]⟩
def Acg:List Tmp:=[0,1,2,6,7,8,16,26]
def Dl:Nat->Ce
 |0=>R 0 [m (z 1)] [] [2]
 |1=>Q 1 [M 0 1 0 [],m l0] [(3,1)] [] [] [w 0 3]
 |2=>R 2 [m i0] [(4,0)] []
 |3=>R 3 [m s4,m s0,e l1,y .lss l0 l2] [(5,3)] []
 |4=>R 5 [m s1,m s0,m s4,A 1 l1 l2,L l3,C 166 [r l0,r l4] [],n l5] [(6,6)] []
 |5=>Q 6 [m s3,m s0,m s4,A 1 l1 l2,L l3,M 1 1 1 [l4],q 2 1 8 l0 l5,m l6] [(3,7)] [] [1,2] [w 2 3]
 |6=>R 4 [m s4,y .add l0 i1,m l1] [(4,2)] []
 |_=>R 7 [m s3,m l0] [(2,1)] [0,1,3,4]
def NC:Cm:=⟨7,4,[0,1],0,false,[],U (Dl 0) (U (Dl 1) (j (U (Dl 2) (.block 0 (.loop (j (U (Dl 3) (h 5 sk (.exit 0))) (j (.block 1 (U (Dl 4) (hs 6 (d (Dl 5))))) (d (Dl 6))))))) (ur (Dl 7)))),[.slot 2]⟩
def Ze:List Tmp:=[0,1,4,5,6,11,20]
def BG:Nat->Ce
 |0=>R 0 [m (z 1)] [] [2]
 |1=>Q 1 [M 0 1 0 [],m l0] [(3,1)] [] [] [w 0 3]
 |2=>R 2 [m i0] [(4,0)] []
 |3=>R 3 [m s4,m s1,e l1,y .lss l0 l2,m l3,J 4 (m s1),J 4 (C 208 [r l5] []),k l4 l6 f] [(5,7)] []
 |4=>R 5 [m s0,m s1,m s4,m s4,y .add l3 i1,LG.slice 1 l1 (some l2) (some l4),C 260 [r l0,r l5] [],n l6] [(6,7)] []
 |5=>Q 6 [m s3,m s1,m s4,A 1 l1 l2,L l3,M 1 1 1 [l4],q 2 1 8 l0 l5,m l6] [(3,7)] [] [1,2] [w 2 3]
 |6=>R 4 [m s4,y .add l0 i1,m l1] [(4,2)] []
 |_=>R 7 [m s3,m l0] [(2,1)] [0,1,3,4]
def H9:Cm:=⟨7,4,[0,1],0,false,[],U (BG 0) (U (BG 1) (j (U (BG 2) (.block 0 (.loop (j (U (BG 3) (h 5 sk (.exit 0))) (j (.block 1 (U (BG 4) (hs 6 (d (BG 5))))) (d (BG 6))))))) (ur (BG 7)))),[.slot 2]⟩
def QT:List Tmp:=[0,1,4,5,6,15,25]
def Ef:Nat->Ce
 |0=>R 0 [m f] [] [2]
 |1=>R 1 [m s1,C 208 [r l0] [],n l1] [(4,2)] []
 |2=>R 2 [m f] [(2,0)] [0,1]
 |3=>R 3 [m s0,m s1,LG.slice 1 l1 none (some i1),C 256 [r l2] [0,1],C 286 [r l0,r l3] [2,3],m l4,X l5 0,X l5 1,a 4 [N 1,N 2],W 2 l8 l6,m l7] [(3,10)] [0,1]
 |_=>R 4 [m s3,m l0] [(2,1)] [3]
def JD:Cm:=⟨5,5,[0,1],0,false,[],U (Ef 0) (j (U (Ef 1) (hs 4 (ur (Ef 2)))) (U (Ef 3) (ur (Ef 4)))),[.slot 2]⟩
def TB:List Tmp:=[0,1,4,6,9]
def Bl:Nat->Ce
 |0=>R 0 [x 0 s1,a 1 [N 1,N 2],m f] [(2,0),(3,1)] [1,4]
 |1=>R 1 [m s0,e l0,y .gtr l1 (i 4),m l2,G 3 (P 2 s2),G 3 (C 285 [r l4] []),G 3 (n l5),k l3 t l6] [(9,7)] []
 |2=>R 2 [b [N 1,N 2] [],W 2 s3 l0,m f] [(4,2)] [0,2]
 |3=>Q 3 [P 2 s2,C 301 [r l0] [2,3],a 4 [N 1,N 2],W 2 l2 l1] [(5,2)] [2] [] [w 2 8,w 3 9]
 |4=>R 4 [m i0] [(6,0)] []
 |5=>R 5 [m s6,m s0,e l1,y .lss l0 l2] [(10,3)] []
 |6=>Y 7 [D (m s0) [] [],D (m s6) [] [],D (A 4 l0 l1) [] [],D (P 4 l2) [] [],D (P 2 s5) [4] [],D (C 258 [r l3,r l4] [5,6]) [5,6,8,9] [5,6],D (m l5) [] [],D (X l6 0) [] [],D (X l6 1) [] [],D (a 7 [N 1,N 2]) [7] [7],D (W 2 l9 l7) [7] [7],D (m l8) [] []] [(7,9),(8,11)] [] [5,6,7] []
 |7=>R 8 [m s8,n l0] [(11,1)] [8]
 |8=>R 9 [b [N 1,N 2] [],W 2 s3 l0,m f] [(4,2)] [0,5,6,7]
 |9=>Q 10 [P 2 s7,W 2 s5 l0] [] [7] [] [w 5 8,w 6 9]
 |10=>R 6 [m s6,y .add l0 i1,m l1] [(6,2)] []
 |_=>R 11 [P 2 s5,W 2 s3 l0,m t] [(4,2)] [0,5,6]
def Mk:Cm:=⟨12,10,[0,1],0,false,[],U (Bl 0) (j (U (Bl 1) (hs 9 (ur (Bl 2)))) (U (Bl 3) (j (U (Bl 4) (.block 0 (.loop (j (U (Bl 5) (h 10 sk (.exit 0))) (j (.block 1 (U (Bl 6) (j (U (Bl 7) (hs 11 (ur (Bl 8)))) (d (Bl 9))))) (d (Bl 10))))))) (ur (Bl 11))))),[.cell 3 (some 2),.slot 4]⟩
def Wq:List Tmp:=[0,1,3,4,5,6,7,8,9,17,24,37]
def Jw:Nat->Ce
 |0=>R 0 [x 0 s0,a 1 [N 1,N 2]] [(1,0),(2,1)] [0]
 |_=>T 1 [D (M 2 1 0 []) [2] [2],D (F s1 0) [] [],D (L l1) [0] [],D (q 3 1 8 l0 l2) [2,3] [2,3],D (F s1 1) [] [],D (L l4) [0] [],D (C 311 [r l5] [4]) [4] [4],D (b [N 1,N 2] [(0,1,l3),(1,1,l6)]) [] [],D (W 2 s2 l7) [1] [1]] [] [1]
def MB:Cm:=⟨3,5,[0],0,false,[],U (Jw 0) (ur (Jw 1)),[.cell 2 (some 2)]⟩
def Xb:List Tmp:=[0,1,2]
def KS:Nat->Ce
 |0=>R 0 [m (z 2)] [] [1]
 |_=>R 1 [m s0,m s0,C 308 [r l1] [0],C 331 [r l0,r l2] [1],m l3] [(1,4)] [0]
def Nc:Cm:=⟨2,2,[0],0,false,[],U (KS 0) (ur (KS 1)),[.slot 1]⟩
def Zj:List Tmp:=[0,2]
def Dm:Nat->Ce
 |0=>R 0 [m (z 2)] [] [2]
 |1=>Q 1 [M 0 2 0 [],m l0] [(3,1)] [] [] [w 0 5]
 |2=>R 2 [m i0] [(4,0)] []
 |3=>R 3 [m s4,m s0,e l1,y .lss l0 l2] [(5,3)] []
 |4=>R 5 [m s1,m s0,m s4,A 2 l1 l2,F l3 0,L l4,C 166 [r l0,r l5] []] [(6,6)] []
 |5=>Y 6 [D (m s3) [] [],D (m s0) [] [],D (m s4) [] [],D (A 2 l1 l2) [] [],D (F l3 0) [] [],D (L l4) [] [],D (M 1 1 0 []) [1] [1],D (m s0) [] [],D (m s4) [] [],D (A 2 l7 l8) [] [],D (F l9 1) [] [],D (L l10) [] [],D (q 2 1 8 l6 Iz) [1,2] [1,2],D (b [o,N 1] [(0,1,l5),(1,1,K6)]) [] [],D (M 3 2 1 [ME]) [2,3] [2,3],D (p 4 2 32 l0 P8) [3,4,5] [3,4,5],D (m R5) [] []] [(3,16)] [] [1,2,3,4] [w 4 5]
 |6=>R 4 [m s4,y .add l0 i1,m l1] [(4,2)] []
 |_=>R 7 [m s3,m l0] [(2,1)] [0,1,3,4]
def NE:Cm:=⟨7,6,[0,1],0,false,[],U (Dm 0) (U (Dm 1) (j (U (Dm 2) (.block 0 (.loop (j (U (Dm 3) (h 5 sk (.exit 0))) (j (.block 1 (U (Dm 4) (hs 6 (d (Dm 5))))) (d (Dm 6))))))) (ur (Dm 7)))),[.slot 2]⟩
def Zt:List Tmp:=[0,1,4,5,6,11,20]
def Eu:Nat->Ce
 |0=>R 0 [m (z 1)] [] [1]
 |1=>Q 1 [M 0 1 0 [],m l0] [(2,1)] [] [] [w 0 3]
 |2=>R 2 [m i0] [(3,0)] []
 |3=>R 3 [m s3,m s0,e l1,y .lss l0 l2] [(4,3)] []
 |4=>Q 5 [m s2,m s0,m s3,A 2 l1 l2,F l3 0,L l4,M 1 1 1 [l5],q 2 1 8 l0 l6,m l7] [(2,8)] [] [1,2] [w 2 3]
 |5=>R 4 [m s3,y .add l0 i1,m l1] [(3,2)] []
 |_=>R 6 [m s2,m l0] [(1,1)] [0,2,3]
def PD:Cm:=⟨5,4,[0],0,false,[],U (Eu 0) (U (Eu 1) (j (U (Eu 2) (.block 0 (.loop (j (U (Eu 3) (h 4 sk (.exit 0))) (j (.block 1 (d (Eu 4))) (d (Eu 5))))))) (ur (Eu 6)))),[.slot 1]⟩
def Aap:List Tmp:=[0,2,3,4,9]
def Cz:Nat->Ce
 |0=>R 0 [x 0 s0,m (sb [])] [(1,0)] [0,2]
 |1=>R 1 [F s1 0,L l0,n l1] [(4,2)] []
 |2=>R 2 [m (sb [110,111])] [(2,0)] [1]
 |3=>R 3 [F s1 1,L l0,C 120 [r l1] [],y .add (sb [118]) l2,m l3] [(3,4)] []
 |4=>R 4 [F s1 2,L l0,e l1,y .gtr l2 i0] [(5,3)] []
 |5=>R 5 [m s3,F s1 2,L l1,C 187 [r l2,r (sb [44])] [],y .add (sb [58]) l3,y .add l0 l4,m l5] [(3,6)] [1]
 |_=>R 6 [m s3,m l0] [(2,1)] [3]
def Ji:Cm:=⟨6,1,[0],0,false,[],U (Cz 0) (j (U (Cz 1) (hs 4 (ur (Cz 2)))) (U (Cz 3) (j (U (Cz 4) (hs 5 (d (Cz 5)))) (ur (Cz 6))))),[.slot 2]⟩
def Tw:List Tmp:=[0,1,2,3,6,14]
def Dz:Nat->Ce
 |0=>R 0 [x 0 s0,m (sb [])] [(1,0)] [0,2]
 |1=>T 1 [D (F s1 0) [] [],D (P 3 l0) [0] [],D (C 192 [r l1] []) [] [],D (y .add l2 (sb [47])) [] [],D (F s1 3) [] [],D (L l4) [0] [],D (C 120 [r l5] []) [] [],D (y .add l3 l6) [] [],D (m l7) [] []] [(3,8)] []
 |2=>R 2 [F s1 4,L l0,e l1,y .gtr l2 i0] [(4,3)] []
 |3=>R 3 [m s3,F s1 4,L l1,C 187 [r l2,r (sb [44])] [],y .add (sb [33]) l3,y .add l0 l4,m l5] [(3,6)] [1]
 |_=>R 4 [m s3,m l0] [(2,1)] [3]
def HY:Cm:=⟨5,1,[0],0,false,[],U (Dz 0) (U (Dz 1) (j (U (Dz 2) (hs 4 (d (Dz 3)))) (ur (Dz 4)))),[.slot 2]⟩
def Ri:List Tmp:=[0,1,2,3,15]
def IZ:Nat->Ce
 |0=>R 0 [x 0 s0,m (sb [])] [(1,0)] [0,2]
 |_=>T 1 [D (F s1 0) [] [],D (L l0) [0] [],D (C 122 [r l1] []) [] [],D (y .add l2 (sb [124])) [] [],D (F s1 1) [] [],D (L l4) [0] [],D (C 122 [r l5] []) [] [],D (y .add l3 l6) [] [],D (y .add l7 (sb [124])) [] [],D (F s1 2) [] [],D (L l9) [0] [],D (e l10) [] [],D (C 120 [r Iz] []) [] [],D (y .add l8 K6) [] [],D (m ME) [] []] [(2,14)] [1]
def KQ:Cm:=⟨3,1,[0],0,false,[],U (IZ 0) (ur (IZ 1)),[.slot 2]⟩
def VK:List Tmp:=[0,1,2]
def Iy:Nat->Ce
 |0=>R 0 [m (sb [])] [] [1]
 |_=>R 1 [m s0,C 185 [r l0] [],m l1] [(1,2)] [0]
def KX:Cm:=⟨2,0,[0],0,false,[],U (Iy 0) (ur (Iy 1)),[.slot 1]⟩
def UZ:List Tmp:=[0,2]
def DW:Nat->Ce
 |0=>R 0 [m (sb [])] [] [2]
 |1=>Q 1 [M 0 1 0 [],m l0] [(3,1)] [] [] [w 0 3]
 |2=>R 2 [m s0,e l0,m i0] [(5,0),(6,1),(7,2)] [0]
 |3=>R 3 [y .lss s7 s6] [(8,0)] []
 |4=>R 4 [A 1 s5 s7,L l0,m l1] [(4,2)] []
 |5=>Q 5 [m s3,m s4,C 120 [r l1] [],M 1 1 1 [l2],q 2 1 16 l0 l3,m l4] [(3,5)] [4] [1,2] [w 2 3]
 |6=>R 6 [y .add s7 i1,m l0] [(7,1)] []
 |_=>R 7 [m s3,m s1,C 241 [r l0,r l1] [],m l2] [(2,3)] [1,3,5,6,7]
def OP:Cm:=⟨9,4,[0,1],0,false,[],U (DW 0) (U (DW 1) (j (U (DW 2) (.block 0 (.loop (U (DW 3) (j (h 8 sk (.exit 0)) (j (.block 1 (U (DW 4) (d (DW 5)))) (d (DW 6)))))))) (ur (DW 7)))),[.slot 2]⟩
def Aaz:List Tmp:=[0,1,4,5,7,9,10,11,12]
def EY:Nat->Ce
 |0=>R 0 [m (sb [])] [] [1]
 |1=>R 1 [m s0,e l0,y .eql l1 i0] [(2,2)] []
 |2=>R 2 [m (sb [45])] [(1,0)] [0]
 |_=>R 3 [m s0,C 187 [r l0,r (sb [32])] [],m l1] [(1,2)] [0]
def Jz:Cm:=⟨3,0,[0],0,false,[],U (EY 0) (j (U (EY 1) (hs 2 (ur (EY 2)))) (ur (EY 3))),[.slot 1]⟩
def TD:List Tmp:=[0,2,5]
def GV:Nat->Ce
 |0=>R 0 [x 0 s0,m (sb [])] [(1,0)] [0,2]
 |_=>T 1 [D (F s1 12) [] [],D (L l0) [0] [],D (C 120 [r l1] []) [] [],D (y .add l2 (sb [32])) [] [],D (F s1 0) [] [],D (L l4) [0] [],D (C 187 [r l5,r (sb [44])] []) [] [],D (y .add l3 l6) [] [],D (y .add l7 (sb [32])) [] [],D (F s1 4) [] [],D (P 4 l9) [0] [],D (C 199 [r l10] []) [] [],D (y .add l8 Iz) [] [],D (y .add K6 (sb [32])) [] [],D (F s1 3) [] [],D (L P8) [0] [],D (e R5) [] [],D (F s1 11) [] [],D (L XK) [0] [],D (e l18) [] [],D (F s1 13) [] [],D (L l20) [0] [],D (M 1 1 3 [V6,l19,l21]) [1] [1],D (C 187 [r l22,r (sb [32])] []) [1] [],D (y .add ME l23) [] [],D (m l24) [] []] [(2,25)] [1]
def IA:Cm:=⟨3,2,[0],0,false,[],U (GV 0) (ur (GV 1)),[.slot 2]⟩
def Sy:List Tmp:=[0,1,2]
def Df:Nat->Ce
 |0=>R 0 [x 0 s0,m (sb [])] [(1,0)] [0,2]
 |1=>T 1 [D (F s1 0) [] [],D (L l0) [0] [],D (C 120 [r l1] []) [] [],D (y .add (sb [118]) l2) [] [],D (y .add l3 (sb [32])) [] [],D (F s1 1) [] [],D (L l5) [0] [],D (C 187 [r l6,r (sb [44])] []) [] [],D (y .add l4 l7) [] [],D (m l8) [] []] [(3,9)] []
 |2=>R 2 [F s1 3,L l0] [(4,1)] []
 |3=>R 3 [m s3,y .add l0 (sb [111,102,102]),m l1] [(2,2)] [1,3]
 |_=>R 4 [m s3,y .add l0 (sb [64]),F s1 2,L l2,C 120 [r l3] [],y .add l1 l4,m l5] [(2,6)] [1,3]
def GY:Cm:=⟨5,1,[0],0,false,[],U (Df 0) (U (Df 1) (j (U (Df 2) (hs 4 (ur (Df 3)))) (ur (Df 4)))),[.slot 2]⟩
def Qe:List Tmp:=[0,1,2,3,14]
def Aj:Nat->Ce
 |0=>R 0 [x 0 s0,x 1 s1,a 2 zW,m f] [(2,0),(3,1),(4,2)] [0,1,5]
 |1=>R 1 [F s3 0,L l0] [(6,1)] []
 |2=>R 2 [y .eql s6 i1,m l0] [(7,1)] []
 |3=>R 3 [P 15 s2,F s3 1,L l1,C 72 [r l0,r l2] [3,4,5,6,7,8],X l3 0,X l3 1,W 15 s4 l4,m l5] [(5,7)] [2,3,6]
 |4=>R 4 [y .eql s6 i2,m l0] [(8,1)] []
 |5=>R 5 [P 15 s2,C 74 [r l0] [9,10,11,12,13,14],X l1 0,X l1 1,W 15 s4 l2,m l3] [(5,5)] [2,3,6]
 |6=>R 6 [y .eql s6 (i 3),m l0] [(9,1)] []
 |7=>R 7 [P 15 s2,C 75 [r l0] [15,16,17,18,19,20],X l1 0,X l1 1,W 15 s4 l2,m l3] [(5,5)] [2,3,6]
 |8=>R 8 [y .eql s6 (i 4),m l0] [(10,1)] []
 |9=>R 9 [P 15 s2,F s3 1,L l1,C 76 [r l0,r l2,r (i 200)] [21,22,23,24,25,26],X l3 0,X l3 1,W 15 s4 l4,m l5] [(5,7)] [2,3,6]
 |10=>R 10 [y .eql s6 (i 5),m l0] [(11,1)] []
 |11=>R 11 [P 15 s2,F s3 1,L l1,C 77 [r l0,r l2] [27,28,29,30,31,32],X l3 0,X l3 1,W 15 s4 l4,m l5] [(5,7)] [2,3,6]
 |12=>R 12 [y .eql s6 (i 6),m l0] [(12,1)] []
 |13=>R 13 [P 15 s2,F s3 1,L l1,F s3 2,P 4 l3,C 78 [r l0,r l2,r l4] [33,34,35,36,37,38],X l5 0,X l5 1,W 15 s4 l6,m l7] [(5,9)] [2,3,6]
 |14=>R 14 [y .eql s6 (i 7),m l0] [(13,1)] []
 |15=>R 15 [P 15 s2,F s3 1,L l1,C 79 [r l0,r l2] [39,40,41,42,43,44],X l3 0,X l3 1,W 15 s4 l4,m l5] [(5,7)] [2,3,6]
 |16=>R 16 [y .eql s6 (i 8),m l0] [(14,1)] [6]
 |17=>R 17 [P 15 s2,F s3 1,L l1,C 80 [r l0,r l2] [45,46,47,48,49,50],X l3 0,X l3 1,W 15 s4 l4,m l5] [(5,7)] [2,3]
 |_=>R 18 [P 15 s2,C 22 [r l0] [51,52,53,54,55,56],W 15 s4 l1,m f] [(5,3)] [2,3]
def Jv:Cm:=⟨15,57,[0,1],0,false,[],U (Aj 0) (j (U (Aj 1) (.block 0 (U (Aj 2) (h 7 (ur (Aj 3)) (U (Aj 4) (h 8 (ur (Aj 5)) (U (Aj 6) (h 9 (ur (Aj 7)) (U (Aj 8) (h 10 (ur (Aj 9)) (U (Aj 10) (h 11 (ur (Aj 11)) (U (Aj 12) (h 12 (ur (Aj 13)) (U (Aj 14) (h 13 (ur (Aj 15)) (U (Aj 16) (hs 14 (ur (Aj 17)))))))))))))))))))) (ur (Aj 18))),[.cell 4 (some 15),.slot 5]⟩
def TM:List Tmp:=[0,1,2,3,4,5,7,8,16,22,28,36,44,54,62]
def Bo:Nat->Ce
 |0=>R 0 [x 0 s0,a 1 zW,m f] [(2,0),(3,1)] [0,4]
 |1=>Q 1 [P 15 s2,C 22 [r l0] [2,3,4,5,6,7],a 8 zW,W 15 l2 l1] [(5,2)] [] [] [w 6 18]
 |2=>R 2 [m s1,F s2 3,L l1,e l2,y .sub l3 i1,C 71 [r l0,r i0,r l4] [],n l5,m l6,G 7 (F s2 11),G 7 (L l8),G 7 (e l9),G 7 (y .geq l10 (i 60)),k l7 t Iz,m K6,G 13 (F s2 10),G 13 (L P8),G 13 (e R5),G 13 (y .geq V6 (i 60)),k ME t XK] [(8,18)] []
 |3=>R 3 [P 15 s5,W 15 s3 l0,m f] [(4,2)] [1,2,5]
 |4=>R 4 [P 15 s2,m s1,C 142 [r l0,r l1] [9,10],a 11 zD,W 5 l3 l2] [(6,3)] []
 |5=>R 5 [P 15 s2,m s1,C 143 [r l0,r l1] [],m l2] [(7,3)] []
 |6=>R 6 [F s5 11,L l0,m s1,F s2 12,L l3,m s7,P 5 s6,b zL [(0,1,l2),(1,1,l4),(2,1,l5),(3,5,l6)],LG.lend 11 12 8 1 [l7],p 13 8 96 l1 l8,F s5 11,W 1 l10 l9] [] [1]
 |7=>R 7 [m s7] [(9,0)] [7]
 |8=>Y 8 [D (F s5 10) [] [],D (L l0) [8] [],D (P 5 s6) [11] [],D (C 67 [r l2] [14,15]) [9,10,14,15] [14,15],D (M 16 5 1 [l3]) [14,15,16] [14,15,16],D (p 17 5 72 l1 l4) [16,17,18] [16,17,18],D (F s5 10) [] [],D (W 1 l6 l5) [8] [8]] [] [] [] [w 17 18]
 |9=>R 9 [P 5 s6,F s2 4,F l1 0,L l2,C 144 [r l0,r l3] []] [(10,4)] [6]
 |10=>R 10 [F s2 13,L l0,y .add l1 i1,F s5 13,W 1 l3 l2] [] [2]
 |_=>R 11 [P 15 s5,W 15 s3 l0,m t] [(4,2)] [5]
def Mx:Cm:=⟨11,19,[0,1],0,true,[],U (Bo 0) (U (Bo 1) (j (U (Bo 2) (hs 8 (ur (Bo 3)))) (U (Bo 4) (U (Bo 5) (U (Bo 6) (j (U (Bo 7) (hs 9 (U (Bo 8) (U (Bo 9) (hs 10 (d (Bo 10))))))) (ur (Bo 11)))))))),[.cell 3 (some 15),.slot 4]⟩
def Wz:List Tmp:=[0,1,2,4,5,6,7,8,29,48,60]
def Fz:Nat->Ce
 |0=>R 0 [x 0 s0,a 1 zW,m f] [(1,0),(2,1)] [0,3]
 |1=>R 1 [F s1 14,L l0,y .neq l1 i0,m l2,G 3 (F s1 4),G 3 (P 4 l4),G 3 (C 145 [r l5] []),G 3 (n l6),k l3 t l7,m l8,G 9 (F s1 4),G 9 (F l10 3),G 9 (L Iz),k l9 t K6] [(4,13)] []
 |2=>R 2 [P 15 s1,C 22 [r l0] [2,3,4,5,6,7],W 15 s2 l1,m f] [(3,3)] [1]
 |_=>R 3 [P 15 s1,C 146 [r l0] [8,9,10,11,12,13],W 15 s2 l1,m t] [(3,3)] [1]
def KJ:Cm:=⟨5,14,[0],0,false,[],U (Fz 0) (j (U (Fz 1) (hs 4 (ur (Fz 2)))) (ur (Fz 3))),[.cell 2 (some 15),.slot 3]⟩
def VJ:List Tmp:=[0,1,2,3,17]
def Ao:Nat->Ce
 |0=>R 0 [x 0 s0,a 1 zW,m f] [(1,0),(2,1)] [0,3]
 |1=>R 1 [P 15 s1,C 22 [r l0] [2,3,4,5,6,7],a 8 zW,W 15 l2 l1] [(4,2)] []
 |2=>R 2 [F s1 14,L l0,y .eql l1 i0] [(9,2)] []
 |3=>R 3 [P 15 s4,W 15 s2 l0,m f] [(3,2)] [1,4]
 |4=>R 4 [P 15 s1,C 82 [r l0] []] [(10,1)] []
 |5=>R 5 [y .eql s10 i1,m l0] [(11,1)] []
 |6=>R 6 [F s1 4,P 4 l0,C 147 [r l1] [9],m l2,X l3 0,X l3 1,a 10 zR,W 4 l6 l4,m l5] [(5,6),(6,8)] [1,10]
 |7=>R 7 [m s6,n l0] [(12,1)] [6]
 |8=>R 8 [P 15 s4,W 15 s2 l0,m f] [(3,2)] [4,5]
 |9=>R 9 [P 4 s5,F s4 4,W 4 l1 l0] [] [5]
 |10=>R 10 [P 15 s4,C 146 [r l0] [11,12,13,14,15,16],W 15 s2 l1,m t] [(3,3)] [4]
 |11=>R 11 [y .eql s10 i2,m l0] [(13,1)] [10]
 |12=>R 12 [F s1 4,P 4 l0,C 148 [r l1] [17],m l2,X l3 0,X l3 1,a 18 zR,W 4 l6 l4,m l5] [(7,6),(8,8)] []
 |13=>R 13 [m s8,n l0] [(14,1)] [8]
 |14=>R 14 [P 15 s4,W 15 s2 l0,m f] [(3,2)] [1,4,7]
 |15=>R 15 [P 15 s1,C 149 [r l0] [19,20,21,22,23,24],W 15 s4 l1] [] [1]
 |16=>R 16 [P 4 s7,F s4 4,W 4 l1 l0] [] [7]
 |17=>R 17 [P 15 s4,W 15 s2 l0,m t] [(3,2)] [4]
 |_=>R 18 [P 15 s4,W 15 s2 l0,m f] [(3,2)] [1,4]
def Kz:Cm:=⟨15,25,[0],0,false,[],U (Ao 0) (U (Ao 1) (j (U (Ao 2) (hs 9 (ur (Ao 3)))) (j (U (Ao 4) (.block 0 (U (Ao 5) (h 11 (U (Ao 6) (j (U (Ao 7) (hs 12 (ur (Ao 8)))) (U (Ao 9) (ur (Ao 10))))) (U (Ao 11) (hs 13 (U (Ao 12) (j (U (Ao 13) (hs 14 (ur (Ao 14)))) (U (Ao 15) (U (Ao 16) (ur (Ao 17)))))))))))) (ur (Ao 18))))),[.cell 2 (some 15),.slot 3]⟩
def Vk:List Tmp:=[0,1,2,3,4,5,6,7,8,13,16,17,26,32,41]
def Cs:Nat->Ce
 |0=>R 0 [x 0 s0,a 1 zW,m f] [(2,0),(3,1)] [0,4]
 |1=>R 1 [P 15 s2,C 22 [r l0] [2,3,4,5,6,7],a 8 zW,W 15 l2 l1] [(5,2)] []
 |2=>R 2 [F s2 0,L l0,m s1,C 151 [r l1,r l2] [9],m l3,X l4 0,X l4 1,m l5,m l6] [(6,7),(7,8)] [1,2]
 |3=>R 3 [m s7,n l0] [(8,1)] [7]
 |4=>R 4 [P 15 s5,W 15 s3 l0,m f] [(4,2)] [5,6]
 |5=>R 5 [m s6,F s5 0,W 1 l1 l0] [] [6]
 |_=>R 6 [P 15 s5,W 15 s3 l0,m t] [(4,2)] [5]
def Jb:Cm:=⟨9,10,[0,1],0,false,[],U (Cs 0) (U (Cs 1) (U (Cs 2) (j (U (Cs 3) (hs 8 (ur (Cs 4)))) (U (Cs 5) (ur (Cs 6)))))),[.cell 3 (some 15),.slot 4]⟩
def Tx:List Tmp:=[0,1,2,4,5,6,7,8,19]
def Gw:Nat->Ce
 |0=>R 0 [x 0 s0,a 1 zD] [(2,0),(3,1)] [0]
 |1=>R 1 [m s1,F s2 3,L l1,e l2,y .sub l3 i1,C 71 [r l0,r i0,r l4] [],n l5] [(4,6)] []
 |2=>R 2 [b zD [],W 5 s3 l0] [] [1,2]
 |_=>T 3 [D (F s2 3) [] [],D (L l0) [0] [],D (m s1) [] [],D (A 4 l1 l2) [] [],D (P 4 l3) [] [],D (F s2 0) [] [],D (L l5) [0] [],D (F s2 1) [] [],D (L l7) [0] [],D (F s2 2) [] [],D (L l9) [0] [],D (F s2 12) [] [],D (L Iz) [0] [],D (C 212 [r K6] []) [] [],D (y .mul (i 16) ME) [] [],D (m s1) [] [],D (y .add P8 R5) [] [],D (C 213 [r l4,r l6,r l8,r l10,r V6] [2,3]) [2,3] [2,3],D (W 5 s3 XK) [1] [1]] [] [1,2]
def OE:Cm:=⟨5,4,[0,1],0,false,[],U (Gw 0) (j (U (Gw 1) (hs 4 (ur (Gw 2)))) (ur (Gw 3))),[.cell 3 (some 5)]⟩
def Aag:List Tmp:=[0,1,2,4,11]
def A7:Nat->Ce
 |0=>R 0 [x 0 s0,a 1 zW] [(1,0),(2,1)] [0]
 |1=>R 1 [P 15 s1,C 22 [r l0] [2,3,4,5,6,7],a 8 zW,W 15 l2 l1] [(3,2)] []
 |2=>R 2 [F s1 4,P 4 l0,C 145 [r l1] [],n l2,m l3,G 4 (F s1 4),G 4 (F l5 3),G 4 (L l6),k l4 t l7] [(5,8)] []
 |3=>R 3 [P 15 s3,W 15 s2 l0] [] [1,3]
 |4=>R 4 [m i0] [(4,0)] []
 |5=>R 5 [m s4,F s3 3,L l1,e l2,y .lss l0 l3] [(6,4)] []
 |6=>R 7 [F s1 4,P 4 l0,m s4,F s3 3,L l3,e l4,C 214 [r l1,r l2,r l5] []] [(7,6)] []
 |7=>Y 8 [D (F s3 3) [] [],D (L l0) [8] [],D (m s4) [] [],D (F s3 3) [] [],D (L l3) [8] [],D (m s4) [] [],D (A 4 l4 l5) [4] [],D (F l6 0) [] [],D (L l7) [4] [],D (F s1 4) [] [],D (F l9 0) [] [],D (L l10) [0] [],D (C 159 [r l8,r Iz] [9]) [9] [9],D (A 4 l1 l2) [4] [],D (F ME 0) [] [],D (W 1 P8 K6) [4,9] [4,9]] [] [] [9] []
 |8=>R 6 [m s4,y .add l0 i1,m l1] [(4,2)] []
 |9=>R 9 [M 10 5 0 [],F s3 10,W 1 l1 l0] [] [4]
 |10=>R 10 [F s1 14,L l0,F s1 4,F l2 2,L l3,y .add l4 i1,C 215 [r l1,r l5] [],F s3 14,W 1 l7 l6] [] [1]
 |_=>R 11 [P 15 s3,W 15 s2 l0] [] [3]
def Jp:Cm:=⟨8,11,[0],0,true,[],U (A7 0) (U (A7 1) (j (U (A7 2) (hs 5 (ur (A7 3)))) (j (U (A7 4) (.block 0 (.loop (j (U (A7 5) (h 6 sk (.exit 0))) (j (.block 1 (U (A7 6) (hs 7 (d (A7 7))))) (d (A7 8))))))) (U (A7 9) (U (A7 10) (ur (A7 11))))))),[.cell 2 (some 15)]⟩
def Tv:List Tmp:=[0,1,2,3,4,15,21,30]
def DR:Nat->Ce
 |0=>R 0 [x 0 s0,a 1 zR,m f] [(1,0),(2,1)] [0,3]
 |1=>R 1 [P 4 s1,C 66 [r l0] [2],a 3 zR,W 4 l2 l1] [(4,2)] []
 |2=>R 2 [P 4 s1,C 145 [r l0] [],n l1,m l2,G 3 (F s1 3),G 3 (L l4),k l3 t l5,m l6,G 7 (F s1 2),G 7 (L l8),G 7 (F s1 1),G 7 (L l10),G 7 (e Iz),G 7 (y .sub K6 i1),G 7 (y .eql l9 ME),k l7 t P8] [(5,15)] []
 |3=>R 3 [P 4 s4,W 4 s2 l0,m f] [(3,2)] [1,4]
 |4=>R 4 [F s1 2,L l0,y .add l1 i1,F s4 2,W 1 l3 l2] [] [1]
 |_=>R 5 [P 4 s4,W 4 s2 l0,m t] [(3,2)] [4]
def Ky:Cm:=⟨6,4,[0],0,false,[],U (DR 0) (U (DR 1) (j (U (DR 2) (hs 5 (ur (DR 3)))) (U (DR 4) (ur (DR 5))))),[.cell 2 (some 4),.slot 3]⟩
def UM:List Tmp:=[0,1,2,3,4,22]
def CY:Nat->Ce
 |0=>R 0 [x 0 s0,a 1 zR,m f] [(1,0),(2,1)] [0,3]
 |1=>R 1 [P 4 s1,C 66 [r l0] [2],a 3 zR,W 4 l2 l1] [(4,2)] []
 |2=>R 2 [P 4 s1,C 145 [r l0] [],n l1,m l2,G 3 (F s1 3),G 3 (L l4),k l3 t l5] [(5,6)] [1]
 |3=>R 3 [P 4 s4,W 4 s2 l0,m f] [(3,2)] [4]
 |4=>R 4 [F s4 3,W 1 l0 t] [] []
 |5=>R 5 [F s4 2,W 1 l0 i0] [] []
 |_=>R 6 [P 4 s4,W 4 s2 l0,m t] [(3,2)] [4]
def KV:Cm:=⟨6,4,[0],0,false,[],U (CY 0) (U (CY 1) (j (U (CY 2) (hs 5 (ur (CY 3)))) (U (CY 4) (U (CY 5) (ur (CY 6)))))),[.cell 2 (some 4),.slot 3]⟩
def Va:List Tmp:=[0,1,2,3,4,13]
def E8:Nat->Ce
 |0=>R 0 [m (z 1),m f] [] [2,3]
 |1=>R 1 [m s0,C 208 [r l0] [],n l1,m l2,G 3 (m s1),G 3 (C 71 [r l4,r i1,r (i 9)] []),G 3 (n l5),k l3 t l6,m l7,G 8 (m s0),G 8 (m s1),G 8 (C 166 [r l9,r l10] []),k l8 t Iz] [(4,12)] []
 |2=>R 2 [M 0 1 0 [],m s0,q 1 1 8 l0 l1,m l2,m f] [(2,3),(3,4)] [0,1]
 |_=>R 3 [m s0,m s1,C 159 [r l0,r l1] [2],m l2,m t] [(2,3),(3,4)] [0,1]
def I9:Cm:=⟨5,3,[0,1],0,false,[],U (E8 0) (j (U (E8 1) (hs 4 (ur (E8 2)))) (ur (E8 3))),[.slot 2,.slot 3]⟩
def TF:List Tmp:=[0,1,4,5,18]
def EO:Nat->Ce
 |0=>R 0 [m (z 1)] [] [2]
 |1=>R 1 [m i0] [(3,0)] []
 |2=>R 2 [m s3,m s0,e l1,y .lss l0 l2,m l3,J 4 (m s0),J 4 (m s3),J 4 (A 1 l5 l6),J 4 (L l7),J 4 (m s1),J 4 (y .lss l8 l9),k l4 l10 f] [(4,11)] []
 |3=>R 3 [m s3,y .add l0 i1,m l1] [(3,2)] []
 |4=>R 4 [m s3,m s0,e l1,y .lss l0 l2,m l3,J 4 (m s0),J 4 (m s3),J 4 (A 1 l5 l6),J 4 (L l7),J 4 (m s1),J 4 (y .eql l8 l9),k l4 l10 f] [(5,11)] []
 |5=>R 5 [M 0 1 0 [],m s0,q 1 1 8 l0 l1,m l2] [(2,3)] [0,1,3]
 |_=>T 6 [D (M 2 1 0 []) [2] [2],D (m s0) [] [],D (m s3) [] [],D (.slice 1 l1 none (some l2)) [] [],D (q 3 1 8 l0 l3) [2,3] [2,3],D (m s1) [] [],D (M 4 1 1 [l5]) [4] [4],D (q 5 1 8 l4 l6) [3,4,5] [3,5],D (m s0) [] [],D (m s3) [] [],D (.slice 1 l8 (some l9) none) [] [],D (q 6 1 8 l7 l10) [5,6] [5,6],D (m Iz) [] []] [(2,12)] [0,1,3]
def QC:Cm:=⟨6,7,[0,1],0,false,[],U (EO 0) (U (EO 1) (j (.block 0 (.loop (j (U (EO 2) (h 4 sk (.exit 0))) (.block 1 (d (EO 3)))))) (j (U (EO 4) (hs 5 (ur (EO 5)))) (ur (EO 6))))),[.slot 2]⟩
def Acu:List Tmp:=[0,1,4,5,17,31]
def F7:Nat->Ce
 |0=>R 0 [x 0 s0,a 1 zD] [(5,0),(6,1)] [0]
 |1=>R 1 [P 4 s5,C 207 [r l0] [],n l1] [(7,2)] []
 |2=>R 2 [b zD [],W 5 s6 l0] [] [1,2,3,4,5]
 |_=>T 3 [D (P 4 s5) [0] [],D (m s4) [] [],D (C 251 [r l0,r l1] [2,3]) [2,3] [2,3],D (F s5 2) [] [],D (L l3) [0] [],D (m s1) [] [],D (m s2) [] [],D (m s3) [] [],D (C 252 [r l2,r l4,r l5,r l6,r l7] [4,5]) [2,3,4,5] [4,5],D (W 5 s6 l8) [1] [1]] [] [1,2,3,4,5]
def NH:Cm:=⟨8,6,[0,1,2,3,4],0,false,[],U (F7 0) (j (U (F7 1) (hs 7 (ur (F7 2)))) (ur (F7 3))),[.cell 6 (some 5)]⟩
def Yy:List Tmp:=[0,1,2,3,4,5,10,13]
def KC:Nat->Ce
 |0=>R 0 [m i0] [] [1]
 |_=>R 1 [m s0,C 253 [r (i 100000),r l0] [],C 215 [r (i (-100000)),r l1] [],m l2] [(1,3)] [0]
def Ny:Cm:=⟨2,0,[0],0,false,[],U (KC 0) (ur (KC 1)),[.slot 1]⟩
def Zf:List Tmp:=[0,2]
def Kq:Nat->Ce
 |0=>R 0 [m i0] [] [2]
 |1=>R 1 [m s1,m s0,y .gtr l0 l1] [(3,2)] []
 |2=>R 2 [m s1,m l0] [(2,1)] [0,1]
 |_=>R 3 [m s0,m l0] [(2,1)] [0,1]
def WM:Cm:=⟨4,0,[0,1],0,false,[],U (Kq 0) (j (U (Kq 1) (hs 3 (ur (Kq 2)))) (ur (Kq 3))),[.slot 2]⟩
def Ahn:List Tmp:=[0,1,4,7]
def GJ:Nat->Ce
 |0=>R 0 [x 0 s0,a 1 zD] [(5,0),(6,1)] [0]
 |1=>R 1 [P 2 s5,m s1,C 280 [r l0,r l1] [2,3],m l2,X l3 0,X l3 1,X l3 2,a 4 [N 1,N 2],W 2 l7 l4,m l5,m l6] [(7,7),(8,9),(9,10)] []
 |2=>R 2 [m s9,n l0] [(10,1)] [9]
 |3=>R 3 [m s8,b zD [(3,1,l0)],W 5 s6 l1] [] [1,2,3,4,5,7,8]
 |_=>T 4 [D (P 2 s7) [4] [],D (m s1) [] [],D (m s2) [] [],D (m s3) [] [],D (m s4) [] [],D (C 281 [r l0,r l1,r l2,r l3,r l4] [5]) [2,3,5] [5],D (m s8) [] [],D (P 2 s5) [0] [],D (P 2 s7) [4] [],D (C 282 [r l7,r l8] [6]) [2,3,6] [6],D (b zD [(0,3,l5),(3,1,l6),(4,1,l9)]) [] [],D (W 5 s6 l10) [1] [1]] [] [1,2,3,4,5,7,8]
def TQ:Cm:=⟨11,7,[0,1,2,3,4],0,false,[],U (GJ 0) (U (GJ 1) (j (U (GJ 2) (hs 10 (ur (GJ 3)))) (ur (GJ 4)))),[.cell 6 (some 5)]⟩
def Aec:List Tmp:=[0,1,2,3,4,5,10,11,12,13,22]
def CF:Nat->Ce
 |0=>R 0 [x 0 s0,a 1 [N 1,N 2]] [(2,0),(3,1)] [0]
 |1=>R 1 [P 4 s2,C 207 [r l0] [],n l1] [(6,2)] []
 |2=>R 2 [b [N 1,N 2] [],W 2 s3 l0] [] [1,2]
 |3=>Q 3 [M 2 2 0 [],m l0] [(4,1)] [] [] [w 2 8]
 |4=>R 4 [m i0] [(5,0)] []
 |5=>R 5 [m s5,F s2 1,L l1,e l2,y .lss l0 l3] [(7,4)] []
 |6=>Q 7 [m s4,F s2 1,L l1,m s5,A 1 l2 l3,L l4,b [o,N 1] [(0,1,l5)],M 3 2 1 [l6],p 4 2 32 l0 l7,m l8] [(4,9)] [] [3,4] [w 4 8]
 |7=>R 6 [m s5,y .add l0 i1,m l1] [(5,2)] []
 |_=>R 8 [M 5 1 0 [],F s2 0,L l1,q 6 1 8 l0 l2,m s4,m s1,C 283 [r l4,r l5] [7],b [N 1,N 2] [(0,1,l3),(1,1,l6)],W 2 s3 l7] [] [1,2,4,5]
def NF:Cm:=⟨8,9,[0,1],0,false,[],U (CF 0) (j (U (CF 1) (hs 6 (ur (CF 2)))) (U (CF 3) (j (U (CF 4) (.block 0 (.loop (j (U (CF 5) (h 7 sk (.exit 0))) (j (.block 1 (d (CF 6))) (d (CF 7))))))) (ur (CF 8))))),[.cell 3 (some 2)]⟩
def YI:List Tmp:=[0,1,2,4,5,6,9,16]
def Kc:Nat->Ce
 |0=>R 0 [m i0] [] [2]
 |1=>R 1 [m s1,m s0,y .lss l0 l1] [(3,2)] []
 |2=>R 2 [m s1,m l0] [(2,1)] [0,1]
 |_=>R 3 [m s0,m l0] [(2,1)] [0,1]
def Xi:Cm:=⟨4,0,[0,1],0,false,[],U (Kc 0) (j (U (Kc 1) (hs 3 (ur (Kc 2)))) (ur (Kc 3))),[.slot 2]⟩
def Agv:List Tmp:=[0,1,4,7]
def Ch:Nat->Ce
 |0=>R 0 [x 0 s0,a 1 [N 1,N 2],m i0,m f] [(2,0),(3,1)] [0,4,5]
 |1=>R 1 [P 2 s2,C 285 [r l0] [],n l1] [(8,2)] []
 |2=>R 2 [b [N 1,N 2] [],W 2 s3 l0,m i0,m f] [(4,2),(5,3)] [1,2]
 |3=>R 3 [P 2 s2,m s1,C 300 [r l0,r l1] []] [(9,2)] []
 |4=>R 4 [P 2 s2,C 301 [r l0] [2,3],W 2 s3 l1,m i1,m t] [(4,3),(5,4)] [1,2]
 |5=>R 5 [P 2 s2,m s1,C 302 [r l0,r l1] [4,5],m l2,X l3 0,X l3 1,a 6 [N 1,N 2],W 2 l6 l4,m l5] [(6,6),(7,8)] [2]
 |6=>R 6 [m s7,n l0,m l1,G 2 (P 2 s6),G 2 (m s1),G 2 (C 300 [r l3,r l4] []),G 2 (n l5),k l2 t l6] [(10,7)] [1,7]
 |7=>R 7 [b [N 1,N 2] [],W 2 s3 l0,m i2,m f] [(4,2),(5,3)] [6]
 |_=>R 8 [P 2 s6,W 2 s3 l0,m i2,m t] [(4,2),(5,3)] [6]
def L9:Cm:=⟨11,7,[0,1],0,false,[],U (Ch 0) (j (U (Ch 1) (hs 8 (ur (Ch 2)))) (j (U (Ch 3) (hs 9 (ur (Ch 4)))) (U (Ch 5) (j (U (Ch 6) (hs 10 (ur (Ch 7)))) (ur (Ch 8)))))),[.cell 3 (some 2),.slot 4,.slot 5]⟩
def WG:List Tmp:=[0,1,2,4,5,6,7,8,11,15,31]
def BB:Nat->Ce
 |0=>R 0 [x 0 s0,a 1 [c,o,N 1]] [(5,0),(6,1)] [0]
 |1=>R 1 [m s1,P 2 s5,C 286 [r l0,r l1] [2,3],m l2,X l3 0,X l3 1,a 4 [N 1,N 2],W 2 l6 l4,m l5] [(7,6),(8,8)] [1]
 |2=>R 2 [m s8,n l0] [(12,1)] [8]
 |3=>R 3 [b [c,o,N 1] [],W 3 s6 l0] [] [2,3,4,5,7]
 |4=>R 4 [m s2,m s3,P 2 s7,C 303 [r l0,r l1,r l2] [5],m l3,X l4 0,X l4 1,a 6 [o,N 2],W 2 l7 l5,m l6] [(9,7),(10,9)] [2,3]
 |5=>R 5 [m s10,n l0,m l1,G 2 (P 2 s5),G 2 (P 2 s9),G 2 (C 304 [r l3,r l4] []),G 2 (n l5),k l2 t l6] [(13,7)] [10]
 |6=>R 6 [b [c,o,N 1] [],W 3 s6 l0] [] [4,5,7,9]
 |7=>T 7 [D (m s4) [] [],D (P 2 s5) [0] [],D (C 305 [r l1] [7]) [7] [7],D (P 2 s9) [6] [],D (C 306 [r l3] [8]) [5,8] [8],D (M 9 1 2 [l2,l4]) [7,8,9] [7,8,9],D (C 307 [r l0,r l5,r i1] []) [9] [],D (m l6) [] []] [(11,7)] [5]
 |8=>T 8 [D (m s11) [] [],D (y .eql l0 i0) [] [],D (m l1) [] [],H 2 (m s11) [] [],H 2 (m s4) [] [],H 2 (P 2 s7) [4] [],H 2 (C 305 [r l5] [10]) [2,3,10] [10],H 2 (P 2 s9) [6] [],H 2 (C 306 [r l7] [11]) [5,11] [11],H 2 (M 12 1 2 [l6,l8]) [10,11,12] [10,11,12],H 2 (C 307 [r l4,r l9,r i1] []) [12] [],H 2 (y .neq l3 l10) [] [],D (k l2 t Iz) [] []] [(14,12)] [4,7,11]
 |9=>R 9 [b [c,o,N 1] [],W 3 s6 l0] [] [9]
 |_=>T 10 [D (F s9 0) [] [],D (L l0) [6] [],D (F s9 1) [] [],D (L l2) [6] [],D (C 308 [r l3] [13]) [5,13] [13],D (b [c,o,N 1] [(0,1,t),(1,1,l1),(2,1,l4)]) [] [],D (W 3 s6 l5) [1] [1]] [] [9]
def LM:Cm:=⟨15,14,[0,1,2,3,4],0,false,[],U (BB 0) (U (BB 1) (j (U (BB 2) (hs 12 (ur (BB 3)))) (U (BB 4) (j (U (BB 5) (hs 13 (ur (BB 6)))) (U (BB 7) (j (U (BB 8) (hs 14 (ur (BB 9)))) (ur (BB 10)))))))),[.cell 6 (some 3)]⟩
def Xm:List Tmp:=[0,1,2,3,4,5,10,11,12,13,14,15,23,39,60]
def Dq:Nat->Ce
 |0=>R 0 [x 0 s0,x 1 s1,m (z 1)] [(2,0),(3,1)] [0,1,4]
 |1=>Q 1 [F s2 0,L l0,F s3 0,L l2,C 223 [r l1,r l3] [2],m l4] [(5,5)] [] [] [w 2 5]
 |2=>R 2 [m i0] [(6,0)] []
 |3=>R 3 [m s6,F s2 1,L l1,e l2,y .lss l0 l3] [(7,4)] []
 |4=>T 5 [D (F s3 1) [] [],D (L l0) [1] [],D (F s2 1) [] [],D (L l2) [0] [],D (m s6) [] [],D (A 2 l3 l4) [] [],D (F l5 0) [] [],D (L l6) [] [],D (C 309 [r l1,r l7] []) [] [],D (y .lss l8 i0) [] [],D (m l9) [] [],K 10 (F s2 1) [] [],K 10 (L Iz) [0] [],K 10 (m s6) [] [],K 10 (A 2 K6 ME) [] [],K 10 (F P8 0) [] [],K 10 (L R5) [] [],K 10 (C 71 [r V6,r i0,r (i 255)] []) [] [],D (k l10 XK f) [] []] [(8,18)] []
 |5=>Q 6 [m s5,F s2 1,L l1,m s6,A 2 l2 l3,F l4 0,L l5,y .add (i 1000) l6,M 3 1 1 [l7],q 4 1 8 l0 l8,m l9] [(5,10)] [] [3,4] [w 4 5]
 |6=>R 4 [m s6,y .add l0 i1,m l1] [(6,2)] []
 |_=>R 7 [m s5,m l0] [(4,1)] [2,3,5,6]
def Nb:Cm:=⟨9,6,[0,1],0,false,[],U (Dq 0) (U (Dq 1) (j (U (Dq 2) (.block 0 (.loop (j (U (Dq 3) (h 7 sk (.exit 0))) (j (.block 1 (U (Dq 4) (hs 8 (d (Dq 5))))) (d (Dq 6))))))) (ur (Dq 7)))),[.slot 4]⟩
def YJ:List Tmp:=[0,1,2,3,4,5,6,16,37]
def FJ:Nat->Ce
 |0=>R 0 [x 0 s0,m f] [(2,0)] [0,3]
 |1=>R 1 [m s1,P 2 s2,C 286 [r l0,r l1] [1,2],m l2,X l3 0,X l3 1,a 3 [N 1,N 2],W 2 l6 l4,m l5] [(4,6),(5,8)] [1]
 |_=>R 2 [m s5,m l0,J 1 (P 2 s4),J 1 (P 2 s2),J 1 (C 328 [r l2,r l3] []),k l1 l4 f,m l5] [(3,6)] [2,4,5]
def IU:Cm:=⟨6,4,[0,1],0,false,[],U (FJ 0) (U (FJ 1) (ur (FJ 2))),[.slot 3]⟩
def Sr:List Tmp:=[0,1,2,4,5,6]
def Da:Nat->Ce
 |0=>R 0 [x 0 s0,a 1 [N 1,N 2],m f] [(2,0),(3,1)] [0,4]
 |1=>R 1 [P 2 s2,C 285 [r l0] [],n l1] [(6,2)] []
 |2=>R 2 [b [N 1,N 2] [],W 2 s3 l0,m f] [(4,2)] [1,2]
 |3=>R 3 [m s1,F s2 0,L l1,C 222 [r l0,r l2] [2],m l3] [(5,4)] []
 |_=>T 4 [D (P 2 s2) [0] [],D (m s5) [] [],D (m s1) [] [],D (F s2 0) [] [],D (L l3) [0] [],D (m s5) [] [],D (C 223 [r l4,r l5] [3]) [2,3] [3],D (F s2 1) [] [],D (L l7) [0] [],D (C 329 [r l2,r l6,r l8] [4]) [3,4] [4],D (C 330 [r l0,r l1,r l9] [5,6]) [2,4,5,6] [5,6],D (X l10 0) [] [],D (X l10 1) [] [],D (W 2 s3 Iz) [1] [1],D (m K6) [] []] [(4,14)] [1,2,5]
def GU:Cm:=⟨7,7,[0,1],0,false,[],U (Da 0) (j (U (Da 1) (hs 6 (ur (Da 2)))) (U (Da 3) (ur (Da 4)))),[.cell 3 (some 2),.slot 4]⟩
def Qc:List Tmp:=[0,1,2,4,5,6,9]
def Dx:Nat->Ce
 |0=>R 0 [x 0 s2,a 1 [o,N 2],m f] [(3,0),(4,1)] [2,5]
 |1=>R 1 [m s0,F s3 0,L l1,C 168 [r l0,r l2] [],m l3] [(6,4)] [0]
 |2=>R 2 [P 2 s3,C 285 [r l0] [],n l1,m l2,G 3 (m s6),G 3 (y .eql l4 i0),k l3 t l5] [(7,6)] []
 |3=>R 3 [b [o,N 2] [],W 2 s4 l0,m f] [(5,2)] [1,3,6]
 |_=>R 4 [m s6,F s3 1,L l1,m s1,C 331 [r l2,r l3] [2],C 332 [r l4] [3],b [o,N 2] [(0,1,l0),(1,1,l5)],W 2 s4 l6,m t] [(5,8)] [1,3,6]
def H6:Cm:=⟨8,4,[0,1,2],0,false,[],U (Dx 0) (U (Dx 1) (j (U (Dx 2) (hs 7 (ur (Dx 3)))) (ur (Dx 4)))),[.cell 4 (some 2),.slot 5]⟩
def QX:List Tmp:=[0,1,2,5,6,7,8,19]
def CV:Nat->Ce
 |0=>R 0 [x 0 s0,x 1 s1,m f] [(2,0),(3,1)] [0,1,4]
 |1=>R 1 [m i0] [(5,0)] []
 |2=>R 2 [m s5,F s3 1,L l1,e l2,y .lss l0 l3] [(6,4)] []
 |3=>T 4 [D (F s2 1) [] [],D (L l0) [0] [],D (F s3 1) [] [],D (L l2) [1] [],D (m s5) [] [],D (A 2 l3 l4) [] [],D (F l5 0) [] [],D (L l6) [] [],D (C 309 [r l1,r l7] []) [] [],D (y .lss l8 i0) [] [],D (m l9) [] [],H 10 (F s3 1) [] [],H 10 (L Iz) [1] [],H 10 (m s5) [] [],H 10 (A 2 K6 ME) [] [],H 10 (F P8 0) [] [],H 10 (L R5) [] [],H 10 (C 250 [r V6] []) [] [],D (k l10 t XK) [] []] [(7,18)] []
 |4=>R 5 [m f] [(4,0)] [2,3,5]
 |5=>R 3 [m s5,y .add l0 i1,m l1] [(5,2)] []
 |_=>R 6 [P 2 s2,C 285 [r l0] [],m l1,J 2 (P 2 s3),J 2 (C 333 [r l3] []),k l2 l4 f,m l5,J 6 (F s2 0),J 6 (L l7),J 6 (F s3 0),J 6 (L l9),J 6 (C 166 [r l8,r l10] []),k l6 Iz f,m K6] [(4,13)] [2,3,5]
def KU:Cm:=⟨8,2,[0,1],0,false,[],U (CV 0) (j (U (CV 1) (.block 0 (.loop (j (U (CV 2) (h 6 sk (.exit 0))) (j (.block 1 (U (CV 3) (hs 7 (ur (CV 4))))) (d (CV 5))))))) (ur (CV 6))),[.slot 4]⟩
def Vg:List Tmp:=[0,1,2,3,4,5,10,31]
def FL:Nat->Ce
 |0=>R 0 [m i0] [] [3]
 |1=>R 1 [m s0,C 210 [r l0] [],n l1,m l2,G 3 (m s1),G 3 (C 334 [r l4] []),G 3 (n l5),k l3 t l6,m l7,G 8 (m s2),G 8 (C 71 [r l9,r i0,r i1] []),G 8 (n l10),k l8 t Iz] [(4,12)] []
 |2=>R 2 [m i0] [(3,0)] [0,1,2]
 |_=>R 3 [m s0,m s2,m s1,C 335 [r l2] [],M 0 1 2 [l1,l3],C 336 [r l0,r l4] [],m l5] [(3,6)] [0,1,2]
def Mt:Cm:=⟨5,1,[0,1,2],0,false,[],U (FL 0) (j (U (FL 1) (hs 4 (ur (FL 2)))) (ur (FL 3))),[.slot 3]⟩
def WO:List Tmp:=[0,1,2,6,19]
def Eg:Nat->Ce
 |0=>R 0 [x 0 s0,m (z 1)] [(1,0)] [0,2]
 |1=>R 1 [P 2 s1,C 285 [r l0] [],n l1] [(4,2)] []
 |2=>R 2 [M 1 1 0 [],m l0] [(2,1)] [1]
 |3=>R 3 [F s1 1,L l0,C 337 [r l1] [2],m l2,X l3 0,X l3 1,m l4,m l5] [(3,6)] []
 |_=>R 4 [F s1 0,L l0,e l1,M 3 1 1 [l2],F s1 0,L l4,q 4 1 8 l3 l5,m s3,q 5 1 8 l6 l7,m l8] [(2,9)] [1,3]
def Jk:Cm:=⟨5,6,[0],0,false,[],U (Eg 0) (j (U (Eg 1) (hs 4 (ur (Eg 2)))) (U (Eg 3) (ur (Eg 4)))),[.slot 2]⟩
def Tt:List Tmp:=[0,1,2,3,7]
def DY:Nat->Ce
 |0=>R 0 [x 0 s0,m (z 1)] [(1,0)] [0,2]
 |1=>R 1 [P 2 s1,C 333 [r l0] [],n l1] [(4,2)] []
 |2=>R 2 [M 1 1 0 [],m l0] [(2,1)] [1]
 |3=>R 3 [F s1 1,L l0,C 337 [r l1] [2],m l2,X l3 0,X l3 1,m l4,m l5] [(3,6)] []
 |_=>R 4 [F s1 0,L l0,M 3 1 1 [l1],m s3,q 4 1 8 l2 l3,m l4] [(2,5)] [1,3]
def IY:Cm:=⟨5,5,[0],0,false,[],U (DY 0) (j (U (DY 1) (hs 4 (ur (DY 2)))) (U (DY 3) (ur (DY 4)))),[.slot 2]⟩
def SB:List Tmp:=[0,1,2,3,7]
def Iw:Nat->Ce
 |0=>R 0 [m i0] [] [1]
 |_=>R 1 [m s0,C 313 [r l0,r i0,r (i 16)] [],y .mul (i 16) l1,y .add l2 (i 10),m l3] [(1,4)] [0]
def KA:Cm:=⟨2,0,[0],0,false,[],U (Iw 0) (ur (Iw 1)),[.slot 1]⟩
def Vz:List Tmp:=[0,2]
def Gv:Nat->Ce
 |0=>R 0 [m i0] [] [3]
 |1=>R 1 [m s2,y .lss l0 i1] [(4,1)] []
 |2=>R 2 [m i0] [(3,0)] [0,1,2]
 |_=>R 3 [m s0,m s1,M 0 1 2 [l0,l1],C 338 [r l2] [],m s2,C 339 [r l3,r l4] [],m l5] [(3,6)] [0,1,2]
def O0:Cm:=⟨5,1,[0,1,2],0,false,[],U (Gv 0) (j (U (Gv 1) (hs 4 (ur (Gv 2)))) (ur (Gv 3))),[.slot 3]⟩
def AaY:List Tmp:=[0,1,2,6,8]
def GZ:Nat->Ce
 |0=>R 0 [x 0 s0,x 1 s1,m f] [(2,0),(3,1)] [0,1,4]
 |_=>R 1 [F s2 0,L l0,F s3 0,L l2,C 355 [r l1,r l3] [],m l4,J 5 (F s2 1),J 5 (L l6),J 5 (F s3 1),J 5 (L l8),J 5 (C 356 [r l7,r l9] []),k l5 l10 f,m Iz] [(4,12)] [2,3]
def IW:Cm:=⟨5,2,[0,1],0,false,[],U (GZ 0) (ur (GZ 1)),[.slot 4]⟩
def SG:List Tmp:=[0,1,2,3,4]
def Aw:Nat->Ce
 |0=>R 0 [x 0 s0,a 1 [N 1,N 2],m f] [(3,0),(4,1)] [0,5]
 |1=>R 1 [P 2 s3,C 285 [r l0] [],n l1] [(9,2)] []
 |2=>R 2 [b [N 1,N 2] [],W 2 s4 l0,m f] [(5,2)] [1,2,3]
 |3=>Q 3 [b [N 1,N 2] [],a 2 [N 1,N 2],W 2 l1 l0] [(6,1)] [] [] [.ownc 2 0 9,.ownc 2 1 10]
 |4=>R 4 [m i0] [(7,0)] []
 |5=>R 5 [m s7,F s3 0,L l1,e l2,y .lss l0 l3] [(10,4)] []
 |6=>R 7 [m s1,F s3 0,L l1,m s7,A 1 l2 l3,L l4,C 166 [r l0,r l5] [],n l6] [(11,7)] []
 |7=>Y 8 [D (F s6 0) [] [],D (L l0) [2] [],D (F s3 0) [] [],D (L l2) [0] [],D (m s7) [] [],D (A 1 l3 l4) [] [],D (L l5) [] [],D (M 3 1 1 [l6]) [3] [3],D (q 4 1 8 l1 l7) [3,4,9] [4,9],D (F s6 0) [] [],D (W 1 l9 l8) [2] [2]] [] [] [3,4] [w 4 9]
 |8=>R 6 [m s7,y .add l0 i1,m l1] [(7,2)] []
 |9=>R 9 [m i0] [(8,0)] [1,7]
 |10=>R 10 [m s8,F s3 1,L l1,e l2,y .lss l0 l3] [(12,4)] []
 |11=>R 12 [m s2,F s3 1,L l1,m s8,A 2 l2 l3,F l4 0,L l5,C 166 [r l0,r l6] [],n l7] [(13,8)] []
 |12=>Y 13 [D (F s6 1) [] [],D (L l0) [2] [],D (F s3 1) [] [],D (L l2) [0] [],D (m s8) [] [],D (A 2 l3 l4) [] [],D (F l5 0) [] [],D (L l6) [] [],D (M 5 1 0 []) [5] [5],D (F s3 1) [] [],D (L l9) [0] [],D (m s8) [] [],D (A 2 l10 Iz) [] [],D (F K6 1) [] [],D (L ME) [] [],D (q 6 1 8 l8 P8) [5,6] [5,6],D (b [o,N 1] [(0,1,l7),(1,1,R5)]) [] [],D (M 7 2 1 [V6]) [6,7] [6,7],D (p 8 2 32 l1 XK) [7,8,10] [7,8,10],D (F s6 1) [] [],D (W 1 l19 l18) [2] [2]] [] [] [5,6,7,8] [w 8 10]
 |13=>R 11 [m s8,y .add l0 i1,m l1] [(8,2)] []
 |14=>R 14 [F s6 0,L l0,e l1,y .eql l2 i0] [(14,3)] [2,3,8]
 |15=>R 15 [b [N 1,N 2] [],W 2 s4 l0,m f] [(5,2)] [6]
 |_=>R 16 [P 2 s6,W 2 s4 l0,m t] [(5,2)] [6]
def Ku:Cm:=⟨15,11,[0,1,2],0,false,[],U (Aw 0) (j (U (Aw 1) (hs 9 (ur (Aw 2)))) (U (Aw 3) (j (U (Aw 4) (.block 0 (.loop (j (U (Aw 5) (h 10 sk (.exit 0))) (j (.block 1 (U (Aw 6) (hs 11 (d (Aw 7))))) (d (Aw 8))))))) (j (U (Aw 9) (.block 2 (.loop (j (U (Aw 10) (h 12 sk (.exit 2))) (j (.block 3 (U (Aw 11) (hs 13 (d (Aw 12))))) (d (Aw 13))))))) (j (U (Aw 14) (hs 14 (ur (Aw 15)))) (ur (Aw 16))))))),[.cell 4 (some 2),.slot 5]⟩
def UF:List Tmp:=[0,1,2,3,6,7,8,9,10,13,20,30,45,56,80]
def Bc:Nat->Ce
 |0=>R 0 [m (z 1)] [] [3]
 |1=>Q 1 [M 0 1 0 [],m l0] [(4,1)] [] [] [w 0 9]
 |2=>R 2 [m s2,C 312 [r l0] [],n l1,m l2,G 3 (m s0),G 3 (m s1),G 3 (C 260 [r l4,r l5] []),G 3 (n l6),k l3 t l7] [(9,8)] []
 |3=>R 3 [m s4,m l0] [(3,1)] [0,1,2,4]
 |4=>R 4 [m i0] [(5,0)] []
 |5=>R 5 [m s5,m s2,e l1,y .lss l0 l2] [(10,3)] []
 |6=>Q 7 [m s1,LG.slice 1 l0 none (some i1),C 256 [r l1] [1,2],a 3 [N 1,N 2],W 2 l3 l2] [(6,3)] [] [1,2,3] []
 |7=>R 8 [m s2,m s5,m s5,y .add l2 i1,LG.slice 2 l0 (some l1) (some l3),F s6 1,W 1 l5 l4] [] []
 |8=>Q 9 [m s0,P 2 s6,C 286 [r l0,r l1] [4,5],m l2,X l3 0,X l3 1,a 6 [N 1,N 2],W 2 l6 l4,m l5] [(7,6),(8,8)] [] [4,5,6] []
 |9=>R 10 [m s8,n l0,m l1,G 2 (F s7 1),G 2 (L l3),G 2 (F s6 1),G 2 (L l5),G 2 (C 356 [r l4,r l6] []),G 2 (n l7),k l2 t l8] [(11,9)] [6,7,8]
 |10=>Q 11 [m s4,m s2,m s5,A 2 l1 l2,F l3 0,L l4,M 7 1 1 [l5],q 8 1 8 l0 l6,m l7] [(4,8)] [] [7,8] [w 8 9]
 |11=>R 6 [m s5,y .add l0 i1,m l1] [(5,2)] []
 |_=>R 12 [m s4,m l0] [(3,1)] [0,1,2,4,5]
def Mv:Cm:=⟨12,10,[0,1,2],0,false,[],U (Bc 0) (U (Bc 1) (j (U (Bc 2) (hs 9 (ur (Bc 3)))) (j (U (Bc 4) (.block 0 (.loop (j (U (Bc 5) (h 10 sk (.exit 0))) (j (.block 1 (U (Bc 6) (U (Bc 7) (U (Bc 8) (U (Bc 9) (hs 11 (d (Bc 10)))))))) (d (Bc 11))))))) (ur (Bc 12))))),[.slot 3]⟩
def Wo:List Tmp:=[0,1,2,6,7,8,9,10,11,21,26,53]
def BL:Nat->Ce
 |0=>R 0 [m (z 2)] [] [1]
 |1=>Q 1 [M 0 2 0 [],m l0] [(2,1)] [] [] [w 0 5]
 |2=>R 2 [m i0] [(3,0)] []
 |3=>R 3 [m s3,m s0,e l1,y .lss l0 l2] [(4,3)] []
 |4=>R 5 [m s0,m s3,A 2 l0 l1,F l2 0,L l3,C 250 [r l4] [],n l5] [(5,6)] []
 |5=>Y 6 [D (m s2) [] [],D (m s0) [] [],D (m s3) [] [],D (A 2 l1 l2) [] [],D (F l3 0) [] [],D (L l4) [] [],D (M 1 1 0 []) [1] [1],D (m s0) [] [],D (m s3) [] [],D (A 2 l7 l8) [] [],D (F l9 1) [] [],D (L l10) [] [],D (q 2 1 8 l6 Iz) [1,2] [1,2],D (b [o,N 1] [(0,1,l5),(1,1,K6)]) [] [],D (M 3 2 1 [ME]) [2,3] [2,3],D (p 4 2 32 l0 P8) [3,4,5] [3,4,5],D (m R5) [] []] [(2,16)] [] [1,2,3,4] [w 4 5]
 |6=>R 4 [m s3,y .add l0 i1,m l1] [(3,2)] []
 |_=>R 7 [m s2,m l0] [(1,1)] [0,2,3]
def IX:Cm:=⟨6,6,[0],0,false,[],U (BL 0) (U (BL 1) (j (U (BL 2) (.block 0 (.loop (j (U (BL 3) (h 4 sk (.exit 0))) (j (.block 1 (U (BL 4) (hs 5 (d (BL 5))))) (d (BL 6))))))) (ur (BL 7)))),[.slot 1]⟩
def SF:List Tmp:=[0,2,3,4,9,18]
def Ja:Nat->Ce
 |0=>R 0 [x 0 s0,m f] [(1,0)] [0,2]
 |_=>R 1 [F s1 0,L l0,C 71 [r l1,r i1,r (i 9)] [],m l2,J 3 (F s1 1),J 3 (L l4),J 3 (C 312 [r l5] []),k l3 l6 f,m l7] [(2,8)] [1]
def LK:Cm:=⟨3,1,[0],0,false,[],U (Ja 0) (ur (Ja 1)),[.slot 2]⟩
def XF:List Tmp:=[0,1,2]
def BQ:Nat->Ce
 |0=>R 0 [m f] [] [1]
 |1=>R 1 [m i0] [(2,0)] []
 |2=>R 2 [m s2,m s0,e l1,y .lss l0 l2] [(3,3)] []
 |3=>R 4 [m s0,m s2,A 1 l0 l1,L l2,C 217 [r l3] [],n l4] [(4,5)] []
 |4=>R 5 [m f] [(1,0)] [0,2]
 |5=>R 3 [m s2,y .add l0 i1,m l1] [(2,2)] []
 |_=>R 6 [m s0,e l0,y .leq l1 (i 12),m l2] [(1,3)] [0,2]
def H7:Cm:=⟨5,0,[0],0,false,[],U (BQ 0) (j (U (BQ 1) (.block 0 (.loop (j (U (BQ 2) (h 3 sk (.exit 0))) (j (.block 1 (U (BQ 3) (hs 4 (ur (BQ 4))))) (d (BQ 5))))))) (ur (BQ 6))),[.slot 1]⟩
def Q7:List Tmp:=[0,2,3,7,15]
def IE:Nat->Ce
 |0=>R 0 [m i0] [] [2]
 |_=>R 1 [m s0,M 0 1 1 [l0],m s1,q 1 1 8 l1 l2,m s0,M 2 1 1 [l4],q 3 1 8 l3 l5,C 338 [r l6] [],m l7] [(2,8)] [0,1]
def KO:Cm:=⟨3,4,[0,1],0,false,[],U (IE 0) (ur (IE 1)),[.slot 2]⟩
def Ux:List Tmp:=[0,1,4]
def A8:Nat->Ce
 |0=>R 0 [m i0] [] [1]
 |1=>R 1 [m i1] [(2,0)] []
 |2=>R 2 [m s0,C 334 [r l0] [],n l1] [(4,2)] []
 |3=>R 3 [m i0] [(1,0)] [0,2]
 |4=>R 4 [m i0] [(3,0)] []
 |5=>R 5 [m s3,m s0,e l1,y .lss l0 l2] [(5,3)] []
 |6=>Y 7 [D (m s2) [] [],D (m s0) [] [],D (m s3) [] [],D (A 1 l1 l2) [] [],D (L l3) [] [],D (e l4) [] [],D (M 0 1 2 [l0,l5]) [0] [0],D (m s0) [] [],D (m s3) [] [],D (A 1 l7 l8) [] [],D (L l9) [] [],D (q 1 1 8 l6 l10) [0,1] [0,1],D (C 338 [r Iz] []) [1] [],D (m K6) [] []] [(2,13)] [] [0,1] []
 |7=>R 6 [m s3,y .add l0 i1,m l1] [(3,2)] []
 |_=>R 8 [m s2,m l0] [(1,1)] [0,2,3]
def Gt:Cm:=⟨6,2,[0],0,false,[],U (A8 0) (U (A8 1) (j (U (A8 2) (hs 4 (ur (A8 3)))) (j (U (A8 4) (.block 0 (.loop (j (U (A8 5) (h 5 sk (.exit 0))) (j (.block 1 (d (A8 6))) (d (A8 7))))))) (ur (A8 8))))),[.slot 1]⟩
def Pe:List Tmp:=[0,2,3,4,7,11]
def Bq:Nat->Ce
 |0=>R 0 [m (z 1),m f] [] [1,2]
 |1=>R 1 [m s0,C 312 [r l0] [],n l1] [(5,2)] []
 |2=>R 2 [M 0 1 0 [],m l0,m f] [(1,1),(2,2)] [0]
 |3=>Q 3 [m s0,e l0,M 1 1 1 [l1],m l2] [(3,3)] [] [] [w 1 5]
 |4=>R 4 [m i0] [(4,0)] []
 |5=>R 5 [m s4,m s0,e l1,y .lss l0 l2] [(6,3)] []
 |6=>Y 7 [D (m s3) [] [],D (m s0) [] [],D (m s4) [] [],D (A 2 l1 l2) [] [],D (F l3 0) [] [],D (L l4) [] [],D (m s0) [] [],D (m s4) [] [],D (A 2 l6 l7) [] [],D (F l8 1) [] [],D (L l9) [] [],D (e l10) [] [],D (M 2 1 2 [l5,Iz]) [2] [2],D (q 3 1 8 l0 K6) [2,3,5] [3,5],D (m ME) [] []] [(3,14)] [] [2,3] [w 3 5]
 |7=>Q 8 [m s3,m s0,m s4,A 2 l1 l2,F l3 1,L l4,q 4 1 8 l0 l5,m l6] [(3,7)] [] [4] [w 4 5]
 |8=>R 6 [m s4,y .add l0 i1,m l1] [(4,2)] []
 |_=>R 9 [m s3,m l0,m t] [(1,1),(2,2)] [0,3,4]
def Jr:Cm:=⟨7,6,[0],0,false,[],U (Bq 0) (j (U (Bq 1) (hs 5 (ur (Bq 2)))) (U (Bq 3) (j (U (Bq 4) (.block 0 (.loop (j (U (Bq 5) (h 6 sk (.exit 0))) (j (.block 1 (U (Bq 6) (d (Bq 7)))) (d (Bq 8))))))) (ur (Bq 9))))),[.slot 1,.slot 2]⟩
def Tp:List Tmp:=[0,2,3,4,5,8,16]
def Ka:Nat->Ce
 |0=>R 0 [m i0] [] [2]
 |1=>R 1 [m s1,C 71 [r l0,r i1,r (i 1000000000000)] [],n l1] [(3,2)] []
 |2=>R 2 [m i0] [(2,0)] [0,1]
 |_=>R 3 [m s0,m s1,y .rem l0 l1,m s1,y .add l2 l3,m s1,y .rem l4 l5,m l6] [(2,7)] [0,1]
def Xp:Cm:=⟨4,0,[0,1],0,false,[],U (Ka 0) (j (U (Ka 1) (hs 3 (ur (Ka 2)))) (ur (Ka 3))),[.slot 2]⟩
def AfQ:List Tmp:=[0,1,4,7]
def Fw:Nat->Ce
 |0=>R 0 [m i0] [] [1]
 |1=>R 1 [m (i 11)] [(2,0)] []
 |2=>R 2 [m i0] [(3,0)] []
 |3=>R 3 [m s3,m s0,e l1,y .lss l0 l2] [(4,3)] []
 |4=>R 5 [m s2,y .mul l0 (i 1000003),m s0,m s3,A 1 l2 l3,L l4,C 339 [r l5,r (i 2147483647)] [],y .add l1 l6,y .add l7 (i 13),y .rem l8 (i 2147483647),m l9] [(2,10)] []
 |5=>R 4 [m s3,y .add l0 i1,m l1] [(3,2)] []
 |_=>R 6 [m s2,m l0] [(1,1)] [0,2,3]
def TL:Cm:=⟨5,0,[0],0,false,[],U (Fw 0) (U (Fw 1) (j (U (Fw 2) (.block 0 (.loop (j (U (Fw 3) (h 4 sk (.exit 0))) (j (.block 1 (d (Fw 4))) (d (Fw 5))))))) (ur (Fw 6)))),[.slot 1]⟩
def AeG:List Tmp:=[0,2,3,4,8]
def BN:Nat->Ce
 |0=>R 0 [m f] [] [2]
 |1=>R 1 [m s0,e l0,m s1,e l2,y .neq l1 l3] [(4,4)] []
 |2=>R 2 [m f] [(2,0)] [0,1]
 |3=>R 3 [m i0] [(3,0)] []
 |4=>R 4 [m s3,m s0,e l1,y .lss l0 l2] [(5,3)] []
 |5=>T 6 [D (m s0) [] [],D (m s3) [] [],D (A 1 l0 l1) [] [],D (L l2) [] [],D (m s1) [] [],D (m s3) [] [],D (A 1 l4 l5) [] [],D (L l6) [] [],D (y .neq l3 l7) [] []] [(6,8)] []
 |6=>R 7 [m f] [(2,0)] [0,1,3]
 |7=>R 5 [m s3,y .add l0 i1,m l1] [(3,2)] []
 |_=>R 8 [m t] [(2,0)] [0,1,3]
def KL:Cm:=⟨7,0,[0,1],0,false,[],U (BN 0) (j (U (BN 1) (hs 4 (ur (BN 2)))) (j (U (BN 3) (.block 0 (.loop (j (U (BN 4) (h 5 sk (.exit 0))) (j (.block 1 (U (BN 5) (hs 6 (ur (BN 6))))) (d (BN 7))))))) (ur (BN 8)))),[.slot 2]⟩
def Vu:List Tmp:=[0,1,4,5,10,14,25]
def BO:Nat->Ce
 |0=>R 0 [m f] [] [2]
 |1=>R 1 [m s0,e l0,m s1,e l2,y .neq l1 l3] [(4,4)] []
 |2=>R 2 [m f] [(2,0)] [0,1]
 |3=>R 3 [m i0] [(3,0)] []
 |4=>R 4 [m s3,m s0,e l1,y .lss l0 l2] [(5,3)] []
 |5=>T 6 [D (m s0) [] [],D (m s3) [] [],D (A 2 l0 l1) [] [],D (F l2 0) [] [],D (L l3) [] [],D (m s1) [] [],D (m s3) [] [],D (A 2 l5 l6) [] [],D (F l7 0) [] [],D (L l8) [] [],D (y .neq l4 l9) [] [],D (m l10) [] [],H 11 (m s0) [] [],H 11 (m s3) [] [],H 11 (A 2 K6 ME) [] [],H 11 (F P8 1) [] [],H 11 (L R5) [] [],H 11 (m s1) [] [],H 11 (m s3) [] [],H 11 (A 2 XK l18) [] [],H 11 (F l19 1) [] [],H 11 (L l20) [] [],H 11 (C 355 [r V6,r l21] []) [] [],H 11 (n l22) [] [],D (k Iz t l23) [] []] [(6,24)] []
 |6=>R 7 [m f] [(2,0)] [0,1,3]
 |7=>R 5 [m s3,y .add l0 i1,m l1] [(3,2)] []
 |_=>R 8 [m t] [(2,0)] [0,1,3]
def KM:Cm:=⟨7,0,[0,1],0,false,[],U (BO 0) (j (U (BO 1) (hs 4 (ur (BO 2)))) (j (U (BO 3) (.block 0 (.loop (j (U (BO 4) (h 5 sk (.exit 0))) (j (.block 1 (U (BO 5) (hs 6 (ur (BO 6))))) (d (BO 7))))))) (ur (BO 8)))),[.slot 2]⟩
def VZ:List Tmp:=[0,1,4,5,10,14,41]
attribute [simp] Gg Kw Ps TW Bn Mg EM QH KH Nk Gj KW Pb Uf BM Ma HZ Jh F4 NG CW Kv F3 M9 Eh LV DU KD D5 Ni Ar Na Nn QE DN OM Ht NA Fy KY Er OW H8 Jo Bf Nv KG Nq Cj I6 DZ Nu EP Qt EW LP A9 Ia Ct Jq CG M8 BX Jy Ee Jf Ed GQ D8 NK AZ JC Ea Nz HV Jd Dy LQ CO Mc FC KF Cg L8 Em Ra Dl NC BG H9 Ef JD Bl Mk Jw MB KS Nc Dm NE Eu PD Cz Ji Dz HY IZ KQ Iy KX DW OP EY Jz GV IA Df GY Aj Jv Bo Mx Fz KJ Ao Kz Cs Jb Gw OE A7 Jp DR Ky CY KV E8 I9 EO QC F7 NH KC Ny Kq WM GJ TQ CF NF Kc Xi Ch L9 BB LM Dq Nb FJ IU Da GU Dx H6 CV KU FL Mt Eg Jk DY IY Iw KA Gv O0 GZ IW Aw Ku Bc Mv BL IX Ja LK BQ H7 IE KO A8 Gt Bq Jr Ka Xp Fw TL BN KL BO KM
end Go.Eng.T
namespace Go.Eng.T
end Go.Eng.T
