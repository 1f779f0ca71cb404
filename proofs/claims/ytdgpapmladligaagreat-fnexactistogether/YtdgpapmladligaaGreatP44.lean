/- Own work: part 44 of the proof of FnExactIsTogether. -/
import Derived.Test.YtdgpapmladligaaGreatEngAT
set_option linter.unusedSimpArgs false
set_option linter.unusedVariables false
namespace Go.Eng.T
open Go.Eng.X
def Dg:Nat→Bv
 |0=>R 0 [x 0 (s 0),m (i 0)] [(2,0)] [0,3]
 |1=>R 1 [F (s 2) 0,P 3 (l 0),m (s 1),C 140 [r (l 1),r (l 2)] [],m (l 3)] [(1,4)] []
 |2=>R 2 [m (s 1),y .lss (l 0) (i 0)] [(4,1)] []
 |3=>R 3 [m (i (-1))] [(3,0)] [1,2]
 |4=>R 4 [F (s 2) 4,L (l 0),m (s 1),C 16 [r (l 1),r (l 2)] [],m (l 3)] [(1,4)] [2]
 |5=>R 5 [m (s 1),y .lss (l 0) (i 0)] [(5,1)] []
 |6=>R 6 [m (i (-1))] [(3,0)] [1]
 |_=>R 7 [m (s 1),m (l 0)] [(3,1)] [1]
def PI:BA:=⟨6,1,[0,1],0,false,[],j (d (Dg 0)) (j (d (Dg 1)) (j (j (d (Dg 2)) (h 4 (j (d (Dg 3)) (.ret)) (.skip))) (j (d (Dg 4)) (j (j (d (Dg 5)) (h 5 (j (d (Dg 6)) (.ret)) (.skip))) (j (d (Dg 7)) (.ret)))))),[.slot 3]⟩
def AaT:List Tmp:=[0,1,2,4,10,16]
def ED:Nat→Bv
 |0=>R 0 [x 0 (s 0),a 1 zD] [(1,0),(2,1)] [0]
 |1=>R 1 [a 2 zD] [(3,0)] []
 |2=>R 2 [F (s 1) 0,P 3 (l 0),C 171 [r (l 1)] [3],F (s 3) 0,W 3 (l 3) (l 2)] [] []
 |3=>R 3 [F (s 1) 3,L (l 0),F (s 3) 3,W 1 (l 2) (l 1)] [] []
 |4=>R 4 [F (s 1) 4,L (l 0),C 31 [r (l 1)] [4],F (s 3) 4,W 1 (l 3) (l 2)] [] [1]
 |_=>R 5 [P 5 (s 3),W 5 (s 2) (l 0)] [] [3]
def OV:BA:=⟨4,5,[0],0,false,[],j (d (ED 0)) (j (d (ED 1)) (j (d (ED 2)) (j (d (ED 3)) (j (d (ED 4)) (j (d (ED 5)) (.ret)))))),[.cell 2 (some 5)]⟩
def Abi:List Tmp:=[0,1,2,3]
def Df:Nat→Bv
 |0=>R 0 [x 0 (s 0),x 1 (s 1),m f] [(2,0),(3,1)] [0,1,4]
 |1=>R 1 [F (s 2) 0,P 3 (l 0),F (s 3) 0,P 3 (l 2),C 205 [r (l 1),r (l 3)] [],n (l 4)] [(5,5)] []
 |2=>R 2 [m f] [(4,0)] [2,3]
 |3=>R 3 [F (s 2) 3,L (l 0),F (s 3) 3,L (l 2),y .neq (l 1) (l 3)] [(6,4)] []
 |4=>R 4 [m f] [(4,0)] [2,3]
 |5=>R 5 [F (s 2) 4,L (l 0),F (s 3) 4,L (l 2),C 47 [r (l 1),r (l 3)] [],n (l 4)] [(7,5)] [2,3]
 |6=>R 6 [m f] [(4,0)] []
 |_=>R 7 [m t] [(4,0)] []
def PV:BA:=⟨8,2,[0,1],0,false,[],j (d (Df 0)) (j (j (d (Df 1)) (h 5 (j (d (Df 2)) (.ret)) (.skip))) (j (j (d (Df 3)) (h 6 (j (d (Df 4)) (.ret)) (.skip))) (j (j (d (Df 5)) (h 7 (j (d (Df 6)) (.ret)) (.skip))) (j (d (Df 7)) (.ret))))),[.slot 4]⟩
def AaH:List Tmp:=[0,1,2,3,4,10,15,21]
def BO:Nat→Bv
 |0=>R 0 [m f] [] [2]
 |1=>R 1 [m (s 0),e (l 0),m (s 1),e (l 2),y .neq (l 1) (l 3)] [(4,4)] []
 |2=>R 2 [m f] [(2,0)] [0,1]
 |3=>R 3 [m (i 0)] [(3,0)] []
 |4=>R 4 [m (s 3),m (s 0),e (l 1),y .lss (l 0) (l 2)] [(5,3)] []
 |5=>T 6 [D (m (s 0)) [] [],D (m (s 3)) [] [],D (A 4 (l 0) (l 1)) [] [],D (P 4 (l 2)) [] [],D (m (s 1)) [] [],D (m (s 3)) [] [],D (A 4 (l 4) (l 5)) [] [],D (P 4 (l 6)) [] [],D (C 134 [r (l 3),r (l 7)] []) [] [],D (n (l 8)) [] []] [(6,9)] []
 |6=>R 7 [m f] [(2,0)] [0,1,3]
 |7=>R 5 [m (s 3),y .add (l 0) (i 1),m (l 1)] [(3,2)] []
 |_=>R 8 [m t] [(2,0)] [0,1,3]
def KN:BA:=⟨7,0,[0,1],0,false,[],j (d (BO 0)) (j (j (d (BO 1)) (h 4 (j (d (BO 2)) (.ret)) (.skip))) (j (j (d (BO 3)) (.block 0 (.loop (j (j (d (BO 4)) (h 5 (.skip) (.exit 0))) (j (.block 1 (j (d (BO 5)) (h 6 (j (d (BO 6)) (.ret)) (.skip)))) (d (BO 7))))))) (j (d (BO 8)) (.ret)))),[.slot 2]⟩
def VZ:List Tmp:=[0,1,4,5,10,14,26]
def Te:Nat→Bv
 |0=>R 0 [m f] [] [3]
 |_=>R 1 [m (s 0),m (s 1),y .geq (l 0) (l 1),m (l 2),J 3 (m (s 0)),J 3 (m (s 2)),J 3 (y .leq (l 4) (l 5)),k (l 3) (l 6) f,m (l 7)] [(3,8)] [0,1,2]
def XK:BA:=⟨4,0,[0,1,2],0,false,[],j (d (Te 0)) (j (d (Te 1)) (.ret)),[.slot 3]⟩
def AkX:List Tmp:=[0,1,2,6]
def NV:Nat→Bv
 |0=>R 0 [m f] [] [3]
 |_=>R 1 [m (s 1),m (s 0),y .leq (l 0) (l 1),m (l 2),J 3 (m (s 0)),J 3 (m (s 2)),J 3 (y .leq (l 4) (l 5)),k (l 3) (l 6) f,m (l 7)] [(3,8)] [0,1,2]
def Rh:BA:=⟨4,0,[0,1,2],0,false,[],j (d (NV 0)) (j (d (NV 1)) (.ret)),[.slot 3]⟩
def AcE:List Tmp:=[0,1,2,6]
def Gp:Nat→Bv
 |0=>R 0 [x 0 (s 0),m (i 0)] [(2,0)] [0,3]
 |1=>R 1 [F (s 2) 2,L (l 0),m (s 1),C 16 [r (l 1),r (l 2)] [],m (l 3)] [(1,4)] [2]
 |2=>R 2 [m (s 1),y .lss (l 0) (i 0)] [(4,1)] []
 |3=>R 3 [m (i (-1))] [(3,0)] [1]
 |_=>R 4 [m (s 1),m (l 0)] [(3,1)] [1]
def TG:BA:=⟨5,1,[0,1],0,false,[],j (d (Gp 0)) (j (d (Gp 1)) (j (j (d (Gp 2)) (h 4 (j (d (Gp 3)) (.ret)) (.skip))) (j (d (Gp 4)) (.ret)))),[.slot 3]⟩
def Afq:List Tmp:=[0,1,2,4,10]
def Gj:Nat→Bv
 |0=>R 0 [m (i 0)] [] [2]
 |1=>R 1 [m (s 1),m (s 0),e (l 1),y .sub (l 0) (l 2),m (l 3)] [(1,4)] [0]
 |2=>R 2 [m (s 1),y .lss (l 0) (i 0)] [(3,1)] []
 |3=>R 3 [m (i (-1))] [(2,0)] [1]
 |_=>R 4 [m (s 1),m (l 0)] [(2,1)] [1]
def Sy:BA:=⟨4,0,[0,1],0,false,[],j (d (Gj 0)) (j (d (Gj 1)) (j (j (d (Gj 2)) (h 3 (j (d (Gj 3)) (.ret)) (.skip))) (j (d (Gj 4)) (.ret)))),[.slot 2]⟩
def Agb:List Tmp:=[0,1,4,10]
def FO:Nat→Bv
 |0=>R 0 [x 0 (s 0),a 1 [c,o,N 1]] [(1,0),(2,1)] [0]
 |1=>R 1 [a 2 [c,o,N 1]] [(3,0)] []
 |2=>R 2 [F (s 1) 0,L (l 0),F (s 3) 0,W 1 (l 2) (l 1)] [] []
 |3=>R 3 [F (s 1) 1,L (l 0),F (s 3) 1,W 1 (l 2) (l 1)] [] []
 |4=>R 4 [F (s 1) 2,L (l 0),C 31 [r (l 1)] [3],F (s 3) 2,W 1 (l 3) (l 2)] [] [1]
 |_=>R 5 [P 3 (s 3),W 3 (s 2) (l 0)] [] [3]
def TU:BA:=⟨4,4,[0],0,false,[],j (d (FO 0)) (j (d (FO 1)) (j (d (FO 2)) (j (d (FO 3)) (j (d (FO 4)) (j (d (FO 5)) (.ret)))))),[.cell 2 (some 3)]⟩
def Ahi:List Tmp:=[0,1,2,3]
def EJ:Nat→Bv
 |0=>R 0 [m (z 1)] [] [1]
 |1=>R 1 [m (s 0),e (l 0),I9.makeSlice 0 1 8 [o] (l 1),m (l 2)] [(2,3)] []
 |2=>R 2 [m (i 0)] [(3,0)] []
 |3=>R 3 [m (s 3),m (s 0),e (l 1),y .lss (l 0) (l 2)] [(4,3)] []
 |4=>R 5 [m (s 2),m (s 3),m (s 0),m (s 3),A 1 (l 2) (l 3),L (l 4),A 1 (l 0) (l 1),W 1 (l 6) (l 5)] [] []
 |5=>R 4 [m (s 3),y .add (l 0) (i 1),m (l 1)] [(3,2)] []
 |_=>R 6 [m (s 2),m (l 0)] [(1,1)] [0,2,3]
def TK:BA:=⟨5,1,[0],0,false,[],j (d (EJ 0)) (j (d (EJ 1)) (j (j (d (EJ 2)) (.block 0 (.loop (j (j (d (EJ 3)) (h 4 (.skip) (.exit 0))) (j (.block 1 (d (EJ 4))) (d (EJ 5))))))) (j (d (EJ 6)) (.ret)))),[.slot 1]⟩
def Agj:List Tmp:=[0,2,3,4,11]
def Ee:Nat→Bv
 |0=>R 0 [x 0 (s 0),x 1 (s 1),m f] [(2,0),(3,1)] [0,1,4]
 |1=>R 1 [F (s 2) 0,L (l 0),F (s 3) 0,L (l 2),I9.beq true (l 1) (l 3)] [(5,4)] []
 |2=>R 2 [m f] [(4,0)] [2,3]
 |3=>R 3 [F (s 2) 1,L (l 0),F (s 3) 1,L (l 2),y .neq (l 1) (l 3)] [(6,4)] []
 |4=>R 4 [m f] [(4,0)] [2,3]
 |5=>R 5 [F (s 2) 2,L (l 0),F (s 3) 2,L (l 2),C 47 [r (l 1),r (l 3)] [],n (l 4)] [(7,5)] [2,3]
 |6=>R 6 [m f] [(4,0)] []
 |_=>R 7 [m t] [(4,0)] []
def TB:BA:=⟨8,2,[0,1],0,false,[],j (d (Ee 0)) (j (j (d (Ee 1)) (h 5 (j (d (Ee 2)) (.ret)) (.skip))) (j (j (d (Ee 3)) (h 6 (j (d (Ee 4)) (.ret)) (.skip))) (j (j (d (Ee 5)) (h 7 (j (d (Ee 6)) (.ret)) (.skip))) (j (d (Ee 7)) (.ret))))),[.slot 4]⟩
def AfN:List Tmp:=[0,1,2,3,4,9,14,20]
def Dw:Nat→Bv
 |0=>R 0 [m f] [] [2]
 |1=>R 1 [m (s 0),e (l 0),m (s 1),e (l 2),y .neq (l 1) (l 3)] [(4,4)] []
 |2=>R 2 [m f] [(2,0)] [0,1]
 |3=>R 3 [m (i 0)] [(3,0)] []
 |4=>R 4 [m (s 3),m (s 0),e (l 1),y .lss (l 0) (l 2)] [(5,3)] []
 |5=>T 6 [D (m (s 0)) [] [],D (m (s 3)) [] [],D (A 1 (l 0) (l 1)) [] [],D (L (l 2)) [] [],D (m (s 1)) [] [],D (m (s 3)) [] [],D (A 1 (l 4) (l 5)) [] [],D (L (l 6)) [] [],D (y .neq (l 3) (l 7)) [] []] [(6,8)] []
 |6=>R 7 [m f] [(2,0)] [0,1,3]
 |7=>R 5 [m (s 3),y .add (l 0) (i 1),m (l 1)] [(3,2)] []
 |_=>R 8 [m t] [(2,0)] [0,1,3]
def Tt:BA:=⟨7,0,[0,1],0,false,[],j (d (Dw 0)) (j (j (d (Dw 1)) (h 4 (j (d (Dw 2)) (.ret)) (.skip))) (j (j (d (Dw 3)) (.block 0 (.loop (j (j (d (Dw 4)) (h 5 (.skip) (.exit 0))) (j (.block 1 (j (d (Dw 5)) (h 6 (j (d (Dw 6)) (.ret)) (.skip)))) (d (Dw 7))))))) (j (d (Dw 8)) (.ret)))),[.slot 2]⟩
def Af7:List Tmp:=[0,1,4,5,10,14,25]
def BI:Nat→Bv
 |0=>R 0 [x 0 (s 0),x 1 (s 1),m f] [(2,0),(3,1)] [0,1,4]
 |1=>R 1 [F (s 2) 0,L (l 0),F (s 3) 0,L (l 2),C 47 [r (l 1),r (l 3)] [],n (l 4)] [(5,5)] []
 |2=>R 2 [m f] [(4,0)] [2,3]
 |3=>R 3 [F (s 2) 1,L (l 0),F (s 3) 1,L (l 2),C 47 [r (l 1),r (l 3)] [],n (l 4)] [(6,5)] []
 |4=>R 4 [m f] [(4,0)] [2,3]
 |5=>R 5 [F (s 2) 2,L (l 0),F (s 3) 2,L (l 2),C 204 [r (l 1),r (l 3)] [],n (l 4)] [(7,5)] []
 |6=>R 6 [m f] [(4,0)] [2,3]
 |7=>R 7 [F (s 2) 3,L (l 0),F (s 3) 3,L (l 2),y .neq (l 1) (l 3)] [(8,4)] [2,3]
 |8=>R 8 [m f] [(4,0)] []
 |_=>R 9 [m t] [(4,0)] []
def L8:BA:=⟨9,2,[0,1],0,false,[],j (d (BI 0)) (j (j (d (BI 1)) (h 5 (j (d (BI 2)) (.ret)) (.skip))) (j (j (d (BI 3)) (h 6 (j (d (BI 4)) (.ret)) (.skip))) (j (j (d (BI 5)) (h 7 (j (d (BI 6)) (.ret)) (.skip))) (j (j (d (BI 7)) (h 8 (j (d (BI 8)) (.ret)) (.skip))) (j (d (BI 9)) (.ret)))))),[.slot 4]⟩
def Yo:List Tmp:=[0,1,2,3,4,10,16,22,27]
def FB:Nat→Bv
 |0=>R 0 [m f] [] [2]
 |1=>R 1 [m (i 0)] [(3,0)] []
 |2=>R 2 [m (s 3),m (s 0),e (l 1),y .lss (l 0) (l 2)] [(4,3)] []
 |3=>R 4 [m (s 0),m (s 3),A 1 (l 0) (l 1),L (l 2),m (s 1),y .eql (l 3) (l 4)] [(5,5)] []
 |4=>R 5 [m t] [(2,0)] [0,1,3]
 |5=>R 3 [m (s 3),y .add (l 0) (i 1),m (l 1)] [(3,2)] []
 |_=>R 6 [m f] [(2,0)] [0,1,3]
def Uq:BA:=⟨6,0,[0,1],0,false,[],j (d (FB 0)) (j (j (d (FB 1)) (.block 0 (.loop (j (j (d (FB 2)) (h 4 (.skip) (.exit 0))) (j (.block 1 (j (d (FB 3)) (h 5 (j (d (FB 4)) (.ret)) (.skip)))) (d (FB 5))))))) (j (d (FB 6)) (.ret))),[.slot 2]⟩
def Ahr:List Tmp:=[0,1,4,5,9,17]
def EK:Nat→Bv
 |0=>R 0 [m f] [] [2]
 |_=>R 1 [m (s 0),m (s 1),C 389 [r (l 0),r (l 1)] [],y .geq (l 2) (i 0),m (l 3)] [(2,4)] [0,1]
def Fh:BA:=⟨3,0,[0,1],0,false,[],j (d (EK 0)) (j (d (EK 1)) (.ret)),[.slot 2]⟩
def MW:List Tmp:=[0,1,4]
def EI:Nat→Bv
 |0=>R 0 [x 0 (s 0),m (i 0)] [(2,0)] [0,3]
 |1=>R 1 [F (s 2) 1,L (l 0),m (s 1),C 16 [r (l 1),r (l 2)] [],m (l 3)] [(1,4)] []
 |2=>R 2 [m (s 1),y .lss (l 0) (i 0)] [(4,1)] []
 |3=>R 3 [m (i (-1))] [(3,0)] [1,2]
 |4=>R 4 [F (s 2) 2,L (l 0),m (s 1),C 16 [r (l 1),r (l 2)] [],m (l 3)] [(1,4)] [2]
 |5=>R 5 [m (s 1),y .lss (l 0) (i 0)] [(5,1)] []
 |6=>R 6 [m (i (-1))] [(3,0)] [1]
 |_=>R 7 [m (s 1),m (l 0)] [(3,1)] [1]
def U1:BA:=⟨6,1,[0,1],0,false,[],j (d (EI 0)) (j (d (EI 1)) (j (j (d (EI 2)) (h 4 (j (d (EI 3)) (.ret)) (.skip))) (j (d (EI 4)) (j (j (d (EI 5)) (h 5 (j (d (EI 6)) (.ret)) (.skip))) (j (d (EI 7)) (.ret)))))),[.slot 3]⟩
def Ahy:List Tmp:=[0,1,2,4,10,16]
def Fz:Nat→Bv
 |0=>R 0 [x 0 (s 0),a 1 [o,N 1,N 1,c]] [(1,0),(2,1)] [0]
 |1=>R 1 [a 2 [o,N 1,N 1,c]] [(3,0)] []
 |2=>R 2 [F (s 1) 0,L (l 0),F (s 3) 0,W 1 (l 2) (l 1)] [] []
 |3=>R 3 [F (s 1) 1,L (l 0),C 31 [r (l 1)] [3],F (s 3) 1,W 1 (l 3) (l 2)] [] []
 |4=>R 4 [F (s 1) 2,L (l 0),C 31 [r (l 1)] [4],F (s 3) 2,W 1 (l 3) (l 2)] [] []
 |5=>R 5 [F (s 1) 3,L (l 0),F (s 3) 3,W 1 (l 2) (l 1)] [] [1]
 |_=>R 6 [P 4 (s 3),W 4 (s 2) (l 0)] [] [3]
def Vn:BA:=⟨4,5,[0],0,false,[],j (d (Fz 0)) (j (d (Fz 1)) (j (d (Fz 2)) (j (d (Fz 3)) (j (d (Fz 4)) (j (d (Fz 5)) (j (d (Fz 6)) (.ret))))))),[.cell 2 (some 4)]⟩
def Ahv:List Tmp:=[0,1,2,3]
def Dv:Nat→Bv
 |0=>R 0 [x 0 (s 0),x 1 (s 1),m f] [(2,0),(3,1)] [0,1,4]
 |1=>R 1 [F (s 2) 0,L (l 0),F (s 3) 0,L (l 2),y .neq (l 1) (l 3)] [(5,4)] []
 |2=>R 2 [m f] [(4,0)] [2,3]
 |3=>R 3 [F (s 2) 1,L (l 0),F (s 3) 1,L (l 2),C 47 [r (l 1),r (l 3)] [],n (l 4)] [(6,5)] []
 |4=>R 4 [m f] [(4,0)] [2,3]
 |5=>R 5 [F (s 2) 2,L (l 0),F (s 3) 2,L (l 2),C 47 [r (l 1),r (l 3)] [],n (l 4)] [(7,5)] []
 |6=>R 6 [m f] [(4,0)] [2,3]
 |7=>R 7 [F (s 2) 3,L (l 0),F (s 3) 3,L (l 2),I9.beq true (l 1) (l 3)] [(8,4)] [2,3]
 |8=>R 8 [m f] [(4,0)] []
 |_=>R 9 [m t] [(4,0)] []
def Uv:BA:=⟨9,2,[0,1],0,false,[],j (d (Dv 0)) (j (j (d (Dv 1)) (h 5 (j (d (Dv 2)) (.ret)) (.skip))) (j (j (d (Dv 3)) (h 6 (j (d (Dv 4)) (.ret)) (.skip))) (j (j (d (Dv 5)) (h 7 (j (d (Dv 6)) (.ret)) (.skip))) (j (j (d (Dv 7)) (h 8 (j (d (Dv 8)) (.ret)) (.skip))) (j (d (Dv 9)) (.ret)))))),[.slot 4]⟩
def AhT:List Tmp:=[0,1,2,3,4,9,15,21,26]
def Dx:Nat→Bv
 |0=>R 0 [m f] [] [2]
 |1=>R 1 [m (s 0),e (l 0),m (s 1),e (l 2),y .neq (l 1) (l 3)] [(4,4)] []
 |2=>R 2 [m f] [(2,0)] [0,1]
 |3=>R 3 [m (i 0)] [(3,0)] []
 |4=>R 4 [m (s 3),m (s 0),e (l 1),y .lss (l 0) (l 2)] [(5,3)] []
 |5=>T 6 [D (m (s 0)) [] [],D (m (s 3)) [] [],D (A 4 (l 0) (l 1)) [] [],D (P 4 (l 2)) [] [],D (m (s 1)) [] [],D (m (s 3)) [] [],D (A 4 (l 4) (l 5)) [] [],D (P 4 (l 6)) [] [],D (C 249 [r (l 3),r (l 7)] []) [] [],D (n (l 8)) [] []] [(6,9)] []
 |6=>R 7 [m f] [(2,0)] [0,1,3]
 |7=>R 5 [m (s 3),y .add (l 0) (i 1),m (l 1)] [(3,2)] []
 |_=>R 8 [m t] [(2,0)] [0,1,3]
def Sw:BA:=⟨7,0,[0,1],0,false,[],j (d (Dx 0)) (j (j (d (Dx 1)) (h 4 (j (d (Dx 2)) (.ret)) (.skip))) (j (j (d (Dx 3)) (.block 0 (.loop (j (j (d (Dx 4)) (h 5 (.skip) (.exit 0))) (j (.block 1 (j (d (Dx 5)) (h 6 (j (d (Dx 6)) (.ret)) (.skip)))) (d (Dx 7))))))) (j (d (Dx 8)) (.ret)))),[.slot 2]⟩
def Afk:List Tmp:=[0,1,4,5,10,14,26]
def Bc:Nat→Bv
 |0=>R 0 [m (i 0)] [] [2]
 |1=>R 1 [m (s 0),e (l 0),m (i 0)] [(4,1),(5,2)] []
 |2=>R 2 [y .lss (s 5) (s 4)] [(6,0)] []
 |3=>R 3 [m (s 5),m (l 0)] [(3,1)] []
 |4=>R 4 [m (s 1),m (s 0),m (s 3),A 1 (l 1) (l 2),L (l 3),y .eql (l 0) (l 4)] [(7,5)] []
 |5=>R 5 [m (s 3),m (l 0)] [(2,1)] [0,1,3,4,5]
 |6=>R 6 [y .add (s 5) (i 1),m (l 0)] [(5,1)] [3]
 |_=>R 7 [m (i (-1))] [(2,0)] [0,1,4,5]
def F4:BA:=⟨8,0,[0,1],0,false,[],j (d (Bc 0)) (j (j (d (Bc 1)) (.block 0 (.loop (j (d (Bc 2)) (j (h 6 (.skip) (.exit 0)) (j (.block 1 (j (d (Bc 3)) (j (d (Bc 4)) (h 7 (j (d (Bc 5)) (.ret)) (.skip))))) (d (Bc 6)))))))) (j (d (Bc 7)) (.ret))),[.slot 2]⟩
def Pj:List Tmp:=[0,1,4,5,7,8,9,16]
def AJ:Nat→Bv
 |0=>R 0 [x 0 (s 0),m (i 0)] [(2,0)] [0,3]
 |1=>R 1 [F (s 2) 0,L (l 0),m (s 1),C 16 [r (l 1),r (l 2)] [],m (l 3)] [(1,4)] []
 |2=>R 2 [m (s 1),y .lss (l 0) (i 0)] [(4,1)] []
 |3=>R 3 [m (i (-1))] [(3,0)] [1,2]
 |4=>R 4 [F (s 2) 1,L (l 0),m (s 1),C 16 [r (l 1),r (l 2)] [],m (l 3)] [(1,4)] []
 |5=>R 5 [m (s 1),y .lss (l 0) (i 0)] [(5,1)] []
 |6=>R 6 [m (i (-1))] [(3,0)] [1,2]
 |7=>R 7 [F (s 2) 3,L (l 0),m (s 1),C 17 [r (l 1),r (l 2)] [],m (l 3)] [(1,4)] []
 |8=>R 8 [m (s 1),y .lss (l 0) (i 0)] [(6,1)] []
 |9=>R 9 [m (i (-1))] [(3,0)] [1,2]
 |10=>R 10 [F (s 2) 4,P 4 (l 0),m (s 1),C 18 [r (l 1),r (l 2)] [],m (l 3)] [(1,4)] []
 |11=>R 11 [m (s 1),y .lss (l 0) (i 0)] [(7,1)] []
 |12=>R 12 [m (i (-1))] [(3,0)] [1,2]
 |13=>R 13 [F (s 2) 10,L (l 0),m (s 1),C 19 [r (l 1),r (l 2)] [],m (l 3)] [(1,4)] []
 |14=>R 14 [m (s 1),y .lss (l 0) (i 0)] [(8,1)] []
 |15=>R 15 [m (i (-1))] [(3,0)] [1,2]
 |16=>R 16 [F (s 2) 11,L (l 0),m (s 1),C 20 [r (l 1),r (l 2)] [],m (l 3)] [(1,4)] [2]
 |17=>R 17 [m (s 1),y .lss (l 0) (i 0)] [(9,1)] []
 |18=>R 18 [m (i (-1))] [(3,0)] [1]
 |_=>R 19 [m (s 1),m (l 0)] [(3,1)] [1]
def QV:BA:=⟨10,1,[0,1],0,false,[],j (d (AJ 0)) (j (d (AJ 1)) (j (j (d (AJ 2)) (h 4 (j (d (AJ 3)) (.ret)) (.skip))) (j (d (AJ 4)) (j (j (d (AJ 5)) (h 5 (j (d (AJ 6)) (.ret)) (.skip))) (j (d (AJ 7)) (j (j (d (AJ 8)) (h 6 (j (d (AJ 9)) (.ret)) (.skip))) (j (d (AJ 10)) (j (j (d (AJ 11)) (h 7 (j (d (AJ 12)) (.ret)) (.skip))) (j (d (AJ 13)) (j (j (d (AJ 14)) (h 8 (j (d (AJ 15)) (.ret)) (.skip))) (j (d (AJ 16)) (j (j (d (AJ 17)) (h 9 (j (d (AJ 18)) (.ret)) (.skip))) (j (d (AJ 19)) (.ret)))))))))))))),[.slot 3]⟩
def AdV:List Tmp:=[0,1,2,4,10,16,22,28,34,40]
def Bj:Nat→Bv
 |0=>R 0 [x 0 (s 0),a 1 zW] [(1,0),(2,1)] [0]
 |1=>R 1 [a 2 zW] [(3,0)] []
 |2=>R 2 [F (s 1) 0,L (l 0),C 31 [r (l 1)] [3],F (s 3) 0,W 1 (l 3) (l 2)] [] []
 |3=>R 3 [F (s 1) 1,L (l 0),C 31 [r (l 1)] [4],F (s 3) 1,W 1 (l 3) (l 2)] [] []
 |4=>R 4 [F (s 1) 2,L (l 0),F (s 3) 2,W 1 (l 2) (l 1)] [] []
 |5=>R 5 [F (s 1) 3,L (l 0),C 32 [r (l 1)] [5],F (s 3) 3,W 1 (l 3) (l 2)] [] []
 |6=>R 6 [F (s 1) 4,P 4 (l 0),C 33 [r (l 1)] [6],F (s 3) 4,W 4 (l 3) (l 2)] [] []
 |7=>R 7 [F (s 1) 8,L (l 0),F (s 3) 8,W 1 (l 2) (l 1)] [] []
 |8=>R 8 [F (s 1) 9,L (l 0),F (s 3) 9,W 1 (l 2) (l 1)] [] []
 |9=>R 9 [F (s 1) 10,L (l 0),C 34 [r (l 1)] [7],F (s 3) 10,W 1 (l 3) (l 2)] [] []
 |10=>R 10 [F (s 1) 11,L (l 0),C 35 [r (l 1)] [8],F (s 3) 11,W 1 (l 3) (l 2)] [] []
 |11=>R 11 [F (s 1) 12,L (l 0),F (s 3) 12,W 1 (l 2) (l 1)] [] []
 |12=>R 12 [F (s 1) 13,L (l 0),F (s 3) 13,W 1 (l 2) (l 1)] [] []
 |13=>R 13 [F (s 1) 14,L (l 0),F (s 3) 14,W 1 (l 2) (l 1)] [] [1]
 |_=>R 14 [P 15 (s 3),W 15 (s 2) (l 0)] [] [3]
def Qv:BA:=⟨4,9,[0],0,false,[],j (d (Bj 0)) (j (d (Bj 1)) (j (d (Bj 2)) (j (d (Bj 3)) (j (d (Bj 4)) (j (d (Bj 5)) (j (d (Bj 6)) (j (d (Bj 7)) (j (d (Bj 8)) (j (d (Bj 9)) (j (d (Bj 10)) (j (d (Bj 11)) (j (d (Bj 12)) (j (d (Bj 13)) (j (d (Bj 14)) (.ret))))))))))))))),[.cell 2 (some 15)]⟩
def AcN:List Tmp:=[0,1,2,3]
def Ao:Nat→Bv
 |0=>R 0 [x 0 (s 0),x 1 (s 1),m f] [(2,0),(3,1)] [0,1,4]
 |1=>R 1 [F (s 2) 0,L (l 0),F (s 3) 0,L (l 2),C 47 [r (l 1),r (l 3)] [],n (l 4)] [(5,5)] []
 |2=>R 2 [m f] [(4,0)] [2,3]
 |3=>R 3 [F (s 2) 1,L (l 0),F (s 3) 1,L (l 2),C 47 [r (l 1),r (l 3)] [],n (l 4)] [(6,5)] []
 |4=>R 4 [m f] [(4,0)] [2,3]
 |5=>R 5 [F (s 2) 2,L (l 0),F (s 3) 2,L (l 2),y .neq (l 1) (l 3)] [(7,4)] []
 |6=>R 6 [m f] [(4,0)] [2,3]
 |7=>R 7 [F (s 2) 3,L (l 0),F (s 3) 3,L (l 2),C 48 [r (l 1),r (l 3)] [],n (l 4)] [(8,5)] []
 |8=>R 8 [m f] [(4,0)] [2,3]
 |9=>R 9 [F (s 2) 4,P 4 (l 0),F (s 3) 4,P 4 (l 2),C 49 [r (l 1),r (l 3)] [],n (l 4)] [(9,5)] []
 |10=>R 10 [m f] [(4,0)] [2,3]
 |11=>R 11 [F (s 2) 8,L (l 0),F (s 3) 8,L (l 2),y .neq (l 1) (l 3)] [(10,4)] []
 |12=>R 12 [m f] [(4,0)] [2,3]
 |13=>R 13 [F (s 2) 9,L (l 0),F (s 3) 9,L (l 2),y .neq (l 1) (l 3)] [(11,4)] []
 |14=>R 14 [m f] [(4,0)] [2,3]
 |15=>R 15 [F (s 2) 10,L (l 0),F (s 3) 10,L (l 2),C 50 [r (l 1),r (l 3)] [],n (l 4)] [(12,5)] []
 |16=>R 16 [m f] [(4,0)] [2,3]
 |17=>R 17 [F (s 2) 11,L (l 0),F (s 3) 11,L (l 2),C 51 [r (l 1),r (l 3)] [],n (l 4)] [(13,5)] []
 |18=>R 18 [m f] [(4,0)] [2,3]
 |19=>R 19 [F (s 2) 12,L (l 0),F (s 3) 12,L (l 2),y .neq (l 1) (l 3)] [(14,4)] []
 |20=>R 20 [m f] [(4,0)] [2,3]
 |21=>R 21 [F (s 2) 13,L (l 0),F (s 3) 13,L (l 2),y .neq (l 1) (l 3)] [(15,4)] []
 |22=>R 22 [m f] [(4,0)] [2,3]
 |23=>R 23 [F (s 2) 14,L (l 0),F (s 3) 14,L (l 2),y .neq (l 1) (l 3)] [(16,4)] [2,3]
 |24=>R 24 [m f] [(4,0)] []
 |_=>R 25 [m t] [(4,0)] []
def Qw:BA:=⟨17,2,[0,1],0,false,[],j (d (Ao 0)) (j (j (d (Ao 1)) (h 5 (j (d (Ao 2)) (.ret)) (.skip))) (j (j (d (Ao 3)) (h 6 (j (d (Ao 4)) (.ret)) (.skip))) (j (j (d (Ao 5)) (h 7 (j (d (Ao 6)) (.ret)) (.skip))) (j (j (d (Ao 7)) (h 8 (j (d (Ao 8)) (.ret)) (.skip))) (j (j (d (Ao 9)) (h 9 (j (d (Ao 10)) (.ret)) (.skip))) (j (j (d (Ao 11)) (h 10 (j (d (Ao 12)) (.ret)) (.skip))) (j (j (d (Ao 13)) (h 11 (j (d (Ao 14)) (.ret)) (.skip))) (j (j (d (Ao 15)) (h 12 (j (d (Ao 16)) (.ret)) (.skip))) (j (j (d (Ao 17)) (h 13 (j (d (Ao 18)) (.ret)) (.skip))) (j (j (d (Ao 19)) (h 14 (j (d (Ao 20)) (.ret)) (.skip))) (j (j (d (Ao 21)) (h 15 (j (d (Ao 22)) (.ret)) (.skip))) (j (j (d (Ao 23)) (h 16 (j (d (Ao 24)) (.ret)) (.skip))) (j (d (Ao 25)) (.ret)))))))))))))),[.slot 4]⟩
def AcQ:List Tmp:=[0,1,2,3,4,10,16,21,27,33,38,43,49,55,60,65,70]
def Bh:Nat→Bv
 |0=>R 0 [m (i 0)] [] [2]
 |1=>R 1 [m (s 1),m (s 0),e (l 1),y .sub (l 0) (l 2),m (l 3)] [(1,4)] []
 |2=>R 2 [m (s 1),y .lss (l 0) (i 0)] [(4,1)] []
 |3=>R 3 [m (i (-1))] [(2,0)] [0,1]
 |4=>R 4 [m (i 0)] [(3,0)] []
 |5=>R 5 [m (s 3),m (s 0),e (l 1),y .lss (l 0) (l 2)] [(5,3)] []
 |6=>R 7 [m (s 0),m (s 3),A 4 (l 0) (l 1),P 4 (l 2),m (s 1),C 62 [r (l 3),r (l 4)] [],m (l 5)] [(1,6)] []
 |7=>R 8 [m (s 1),y .lss (l 0) (i 0)] [(6,1)] []
 |8=>R 9 [m (i (-1))] [(2,0)] [0,1,3]
 |9=>R 6 [m (s 3),y .add (l 0) (i 1),m (l 1)] [(3,2)] []
 |_=>R 10 [m (s 1),m (l 0)] [(2,1)] [0,1,3]
def Kk:BA:=⟨7,0,[0,1],0,false,[],j (d (Bh 0)) (j (d (Bh 1)) (j (j (d (Bh 2)) (h 4 (j (d (Bh 3)) (.ret)) (.skip))) (j (j (d (Bh 4)) (.block 0 (.loop (j (j (d (Bh 5)) (h 5 (.skip) (.exit 0))) (j (.block 1 (j (d (Bh 6)) (j (d (Bh 7)) (h 6 (j (d (Bh 8)) (.ret)) (.skip))))) (d (Bh 9))))))) (j (d (Bh 10)) (.ret))))),[.slot 2]⟩
def VX:List Tmp:=[0,1,4,5,11,15,25]
def ET:Nat→Bv
 |0=>R 0 [x 0 (s 0),m (i 0)] [(2,0)] [0,3]
 |1=>R 1 [F (s 2) 1,L (l 0),m (s 1),C 16 [r (l 1),r (l 2)] [],m (l 3)] [(1,4)] [2]
 |2=>R 2 [m (s 1),y .lss (l 0) (i 0)] [(4,1)] []
 |3=>R 3 [m (i (-1))] [(3,0)] [1]
 |_=>R 4 [m (s 1),m (l 0)] [(3,1)] [1]
def NW:BA:=⟨5,1,[0,1],0,false,[],j (d (ET 0)) (j (d (ET 1)) (j (j (d (ET 2)) (h 4 (j (d (ET 3)) (.ret)) (.skip))) (j (d (ET 4)) (.ret)))),[.slot 3]⟩
def Z4:List Tmp:=[0,1,2,4,10]
def BG:Nat→Bv
 |0=>R 0 [m (i 0)] [] [2]
 |1=>R 1 [m (s 1),m (s 0),e (l 1),y .sub (l 0) (l 2),m (l 3)] [(1,4)] []
 |2=>R 2 [m (s 1),y .lss (l 0) (i 0)] [(4,1)] []
 |3=>R 3 [m (i (-1))] [(2,0)] [0,1]
 |4=>R 4 [m (i 0)] [(3,0)] []
 |5=>R 5 [m (s 3),m (s 0),e (l 1),y .lss (l 0) (l 2)] [(5,3)] []
 |6=>R 7 [m (s 0),m (s 3),A 5 (l 0) (l 1),P 5 (l 2),m (s 1),C 63 [r (l 3),r (l 4)] [],m (l 5)] [(1,6)] []
 |7=>R 8 [m (s 1),y .lss (l 0) (i 0)] [(6,1)] []
 |8=>R 9 [m (i (-1))] [(2,0)] [0,1,3]
 |9=>R 6 [m (s 3),y .add (l 0) (i 1),m (l 1)] [(3,2)] []
 |_=>R 10 [m (s 1),m (l 0)] [(2,1)] [0,1,3]
def NJ:BA:=⟨7,0,[0,1],0,false,[],j (d (BG 0)) (j (d (BG 1)) (j (j (d (BG 2)) (h 4 (j (d (BG 3)) (.ret)) (.skip))) (j (j (d (BG 4)) (.block 0 (.loop (j (j (d (BG 5)) (h 5 (.skip) (.exit 0))) (j (.block 1 (j (d (BG 6)) (j (d (BG 7)) (h 6 (j (d (BG 8)) (.ret)) (.skip))))) (d (BG 9))))))) (j (d (BG 10)) (.ret))))),[.slot 2]⟩
def YE:List Tmp:=[0,1,4,5,11,15,25]
def BH:Nat→Bv
 |0=>R 0 [m (i 0)] [] [2]
 |1=>R 1 [m (s 1),m (s 0),e (l 1),y .sub (l 0) (l 2),m (l 3)] [(1,4)] []
 |2=>R 2 [m (s 1),y .lss (l 0) (i 0)] [(4,1)] []
 |3=>R 3 [m (i (-1))] [(2,0)] [0,1]
 |4=>R 4 [m (i 0)] [(3,0)] []
 |5=>R 5 [m (s 3),m (s 0),e (l 1),y .lss (l 0) (l 2)] [(5,3)] []
 |6=>R 7 [m (s 0),m (s 3),A 8 (l 0) (l 1),P 8 (l 2),m (s 1),C 64 [r (l 3),r (l 4)] [],m (l 5)] [(1,6)] []
 |7=>R 8 [m (s 1),y .lss (l 0) (i 0)] [(6,1)] []
 |8=>R 9 [m (i (-1))] [(2,0)] [0,1,3]
 |9=>R 6 [m (s 3),y .add (l 0) (i 1),m (l 1)] [(3,2)] []
 |_=>R 10 [m (s 1),m (l 0)] [(2,1)] [0,1,3]
def Nr:BA:=⟨7,0,[0,1],0,false,[],j (d (BH 0)) (j (d (BH 1)) (j (j (d (BH 2)) (h 4 (j (d (BH 3)) (.ret)) (.skip))) (j (j (d (BH 4)) (.block 0 (.loop (j (j (d (BH 5)) (h 5 (.skip) (.exit 0))) (j (.block 1 (j (d (BH 6)) (j (d (BH 7)) (h 6 (j (d (BH 8)) (.ret)) (.skip))))) (d (BH 9))))))) (j (d (BH 10)) (.ret))))),[.slot 2]⟩
def ZR:List Tmp:=[0,1,4,5,11,15,25]
def CR:Nat→Bv
 |0=>R 0 [m (z 4)] [] [1]
 |1=>R 1 [m (s 0),e (l 0),I9.makeSlice 0 4 80 [.sl 0 1 0 [],.sl 0 1 0 [],.sl 0 4 0 [],o] (l 1),m (l 2)] [(2,3)] []
 |2=>R 2 [m (i 0)] [(3,0)] []
 |3=>R 3 [m (s 3),m (s 0),e (l 1),y .lss (l 0) (l 2)] [(4,3)] []
 |4=>Q 5 [m (s 2),m (s 3),m (s 0),m (s 3),A 4 (l 2) (l 3),P 4 (l 4),C 98 [r (l 5)] [1,2,3],A 4 (l 0) (l 1),W 4 (l 7) (l 6)] [] [] [1,2,3] []
 |5=>R 4 [m (s 3),y .add (l 0) (i 1),m (l 1)] [(3,2)] []
 |_=>R 6 [m (s 2),m (l 0)] [(1,1)] [0,2,3]
def Kl:BA:=⟨5,4,[0],0,false,[],j (d (CR 0)) (j (d (CR 1)) (j (j (d (CR 2)) (.block 0 (.loop (j (j (d (CR 3)) (h 4 (.skip) (.exit 0))) (j (.block 1 (d (CR 4))) (d (CR 5))))))) (j (d (CR 6)) (.ret)))),[.slot 1]⟩
def Wu:List Tmp:=[0,2,3,4,11]
def Dk:Nat→Bv
 |0=>R 0 [x 0 (s 0),a 1 zR] [(1,0),(2,1)] [0]
 |1=>R 1 [a 2 zR] [(3,0)] []
 |2=>R 2 [F (s 1) 0,L (l 0),F (s 3) 0,W 1 (l 2) (l 1)] [] []
 |3=>R 3 [F (s 1) 1,L (l 0),C 31 [r (l 1)] [3],F (s 3) 1,W 1 (l 3) (l 2)] [] []
 |4=>R 4 [F (s 1) 2,L (l 0),F (s 3) 2,W 1 (l 2) (l 1)] [] []
 |5=>R 5 [F (s 1) 3,L (l 0),F (s 3) 3,W 1 (l 2) (l 1)] [] [1]
 |_=>R 6 [P 4 (s 3),W 4 (s 2) (l 0)] [] [3]
def Oc:BA:=⟨4,4,[0],0,false,[],j (d (Dk 0)) (j (d (Dk 1)) (j (d (Dk 2)) (j (d (Dk 3)) (j (d (Dk 4)) (j (d (Dk 5)) (j (d (Dk 6)) (.ret))))))),[.cell 2 (some 4)]⟩
def Z5:List Tmp:=[0,1,2,3]
def Dj:Nat→Bv
 |0=>R 0 [m (z 5)] [] [1]
 |1=>R 1 [m (s 0),e (l 0),I9.makeSlice 0 5 72 [c,o,.sl 0 1 0 [],o,.sl 0 1 0 []] (l 1),m (l 2)] [(2,3)] []
 |2=>R 2 [m (i 0)] [(3,0)] []
 |3=>R 3 [m (s 3),m (s 0),e (l 1),y .lss (l 0) (l 2)] [(4,3)] []
 |4=>Q 5 [m (s 2),m (s 3),m (s 0),m (s 3),A 5 (l 2) (l 3),P 5 (l 4),C 99 [r (l 5)] [1,2],A 5 (l 0) (l 1),W 5 (l 7) (l 6)] [] [] [1,2] []
 |5=>R 4 [m (s 3),y .add (l 0) (i 1),m (l 1)] [(3,2)] []
 |_=>R 6 [m (s 2),m (l 0)] [(1,1)] [0,2,3]
def NR:BA:=⟨5,3,[0],0,false,[],j (d (Dj 0)) (j (d (Dj 1)) (j (j (d (Dj 2)) (.block 0 (.loop (j (j (d (Dj 3)) (h 4 (.skip) (.exit 0))) (j (.block 1 (d (Dj 4))) (d (Dj 5))))))) (j (d (Dj 6)) (.ret)))),[.slot 1]⟩
def Ze:List Tmp:=[0,2,3,4,11]
def Dq:Nat→Bv
 |0=>R 0 [m (z 8)] [] [1]
 |1=>R 1 [m (s 0),e (l 0),I9.makeSlice 0 8 96 [o,o,c,c,o,.sl 0 1 0 [],o,.sl 0 1 0 []] (l 1),m (l 2)] [(2,3)] []
 |2=>R 2 [m (i 0)] [(3,0)] []
 |3=>R 3 [m (s 3),m (s 0),e (l 1),y .lss (l 0) (l 2)] [(4,3)] []
 |4=>Q 5 [m (s 2),m (s 3),m (s 0),m (s 3),A 8 (l 2) (l 3),P 8 (l 4),C 100 [r (l 5)] [1,2],A 8 (l 0) (l 1),W 8 (l 7) (l 6)] [] [] [1,2] []
 |5=>R 4 [m (s 3),y .add (l 0) (i 1),m (l 1)] [(3,2)] []
 |_=>R 6 [m (s 2),m (l 0)] [(1,1)] [0,2,3]
def NN:BA:=⟨5,3,[0],0,false,[],j (d (Dq 0)) (j (d (Dq 1)) (j (j (d (Dq 2)) (.block 0 (.loop (j (j (d (Dq 3)) (h 4 (.skip) (.exit 0))) (j (.block 1 (d (Dq 4))) (d (Dq 5))))))) (j (d (Dq 6)) (.ret)))),[.slot 1]⟩
def Aam:List Tmp:=[0,2,3,4,11]
def BU:Nat→Bv
 |0=>R 0 [x 0 (s 0),x 1 (s 1),m f] [(2,0),(3,1)] [0,1,4]
 |1=>R 1 [F (s 2) 0,L (l 0),F (s 3) 0,L (l 2),y .neq (l 1) (l 3)] [(5,4)] []
 |2=>R 2 [m f] [(4,0)] [2,3]
 |3=>R 3 [F (s 2) 1,L (l 0),F (s 3) 1,L (l 2),C 47 [r (l 1),r (l 3)] [],n (l 4)] [(6,5)] []
 |4=>R 4 [m f] [(4,0)] [2,3]
 |5=>R 5 [F (s 2) 2,L (l 0),F (s 3) 2,L (l 2),y .neq (l 1) (l 3)] [(7,4)] []
 |6=>R 6 [m f] [(4,0)] [2,3]
 |7=>R 7 [F (s 2) 3,L (l 0),F (s 3) 3,L (l 2),I9.beq true (l 1) (l 3)] [(8,4)] [2,3]
 |8=>R 8 [m f] [(4,0)] []
 |_=>R 9 [m t] [(4,0)] []
def Nt:BA:=⟨9,2,[0,1],0,false,[],j (d (BU 0)) (j (j (d (BU 1)) (h 5 (j (d (BU 2)) (.ret)) (.skip))) (j (j (d (BU 3)) (h 6 (j (d (BU 4)) (.ret)) (.skip))) (j (j (d (BU 5)) (h 7 (j (d (BU 6)) (.ret)) (.skip))) (j (j (d (BU 7)) (h 8 (j (d (BU 8)) (.ret)) (.skip))) (j (d (BU 9)) (.ret)))))),[.slot 4]⟩
def Aat:List Tmp:=[0,1,2,3,4,9,15,20,25]
def Cn:Nat→Bv
 |0=>R 0 [m f] [] [2]
 |1=>R 1 [m (s 0),e (l 0),m (s 1),e (l 2),y .neq (l 1) (l 3)] [(4,4)] []
 |2=>R 2 [m f] [(2,0)] [0,1]
 |3=>R 3 [m (i 0)] [(3,0)] []
 |4=>R 4 [m (s 3),m (s 0),e (l 1),y .lss (l 0) (l 2)] [(5,3)] []
 |5=>T 6 [D (m (s 0)) [] [],D (m (s 3)) [] [],D (A 5 (l 0) (l 1)) [] [],D (P 5 (l 2)) [] [],D (m (s 1)) [] [],D (m (s 3)) [] [],D (A 5 (l 4) (l 5)) [] [],D (P 5 (l 6)) [] [],D (C 135 [r (l 3),r (l 7)] []) [] [],D (n (l 8)) [] []] [(6,9)] []
 |6=>R 7 [m f] [(2,0)] [0,1,3]
 |7=>R 5 [m (s 3),y .add (l 0) (i 1),m (l 1)] [(3,2)] []
 |_=>R 8 [m t] [(2,0)] [0,1,3]
def Np:BA:=⟨7,0,[0,1],0,false,[],j (d (Cn 0)) (j (j (d (Cn 1)) (h 4 (j (d (Cn 2)) (.ret)) (.skip))) (j (j (d (Cn 3)) (.block 0 (.loop (j (j (d (Cn 4)) (h 5 (.skip) (.exit 0))) (j (.block 1 (j (d (Cn 5)) (h 6 (j (d (Cn 6)) (.ret)) (.skip)))) (d (Cn 7))))))) (j (d (Cn 8)) (.ret)))),[.slot 2]⟩
def YI:List Tmp:=[0,1,4,5,10,14,26]
def Cm:Nat→Bv
 |0=>R 0 [m f] [] [2]
 |1=>R 1 [m (s 0),e (l 0),m (s 1),e (l 2),y .neq (l 1) (l 3)] [(4,4)] []
 |2=>R 2 [m f] [(2,0)] [0,1]
 |3=>R 3 [m (i 0)] [(3,0)] []
 |4=>R 4 [m (s 3),m (s 0),e (l 1),y .lss (l 0) (l 2)] [(5,3)] []
 |5=>T 6 [D (m (s 0)) [] [],D (m (s 3)) [] [],D (A 8 (l 0) (l 1)) [] [],D (P 8 (l 2)) [] [],D (m (s 1)) [] [],D (m (s 3)) [] [],D (A 8 (l 4) (l 5)) [] [],D (P 8 (l 6)) [] [],D (C 136 [r (l 3),r (l 7)] []) [] [],D (n (l 8)) [] []] [(6,9)] []
 |6=>R 7 [m f] [(2,0)] [0,1,3]
 |7=>R 5 [m (s 3),y .add (l 0) (i 1),m (l 1)] [(3,2)] []
 |_=>R 8 [m t] [(2,0)] [0,1,3]
def NG:BA:=⟨7,0,[0,1],0,false,[],j (d (Cm 0)) (j (j (d (Cm 1)) (h 4 (j (d (Cm 2)) (.ret)) (.skip))) (j (j (d (Cm 3)) (.block 0 (.loop (j (j (d (Cm 4)) (h 5 (.skip) (.exit 0))) (j (.block 1 (j (d (Cm 5)) (h 6 (j (d (Cm 6)) (.ret)) (.skip)))) (d (Cm 7))))))) (j (d (Cm 8)) (.ret)))),[.slot 2]⟩
def YS:List Tmp:=[0,1,4,5,10,14,26]
def Bt:Nat→Bv
 |0=>R 0 [x 0 (s 0),m (i 0)] [(2,0)] [0,3]
 |1=>R 1 [F (s 2) 0,L (l 0),m (s 1),C 16 [r (l 1),r (l 2)] [],m (l 3)] [(1,4)] []
 |2=>R 2 [m (s 1),y .lss (l 0) (i 0)] [(4,1)] []
 |3=>R 3 [m (i (-1))] [(3,0)] [1,2]
 |4=>R 4 [F (s 2) 1,L (l 0),m (s 1),C 16 [r (l 1),r (l 2)] [],m (l 3)] [(1,4)] []
 |5=>R 5 [m (s 1),y .lss (l 0) (i 0)] [(5,1)] []
 |6=>R 6 [m (i (-1))] [(3,0)] [1,2]
 |7=>R 7 [F (s 2) 2,L (l 0),m (s 1),C 139 [r (l 1),r (l 2)] [],m (l 3)] [(1,4)] [2]
 |8=>R 8 [m (s 1),y .lss (l 0) (i 0)] [(6,1)] []
 |9=>R 9 [m (i (-1))] [(3,0)] [1]
 |_=>R 10 [m (s 1),m (l 0)] [(3,1)] [1]
def Lu:BA:=⟨7,1,[0,1],0,false,[],j (d (Bt 0)) (j (d (Bt 1)) (j (j (d (Bt 2)) (h 4 (j (d (Bt 3)) (.ret)) (.skip))) (j (d (Bt 4)) (j (j (d (Bt 5)) (h 5 (j (d (Bt 6)) (.ret)) (.skip))) (j (d (Bt 7)) (j (j (d (Bt 8)) (h 6 (j (d (Bt 9)) (.ret)) (.skip))) (j (d (Bt 10)) (.ret)))))))),[.slot 3]⟩
def XU:List Tmp:=[0,1,2,4,10,16,22]
def FK:Nat→Bv
 |0=>R 0 [x 0 (s 0),m (i 0)] [(2,0)] [0,3]
 |1=>R 1 [F (s 2) 3,P 5 (l 0),m (s 1),C 63 [r (l 1),r (l 2)] [],m (l 3)] [(1,4)] [2]
 |2=>R 2 [m (s 1),y .lss (l 0) (i 0)] [(4,1)] []
 |3=>R 3 [m (i (-1))] [(3,0)] [1]
 |_=>R 4 [m (s 1),m (l 0)] [(3,1)] [1]
def Pm:BA:=⟨5,1,[0,1],0,false,[],j (d (FK 0)) (j (d (FK 1)) (j (j (d (FK 2)) (h 4 (j (d (FK 3)) (.ret)) (.skip))) (j (d (FK 4)) (.ret)))),[.slot 3]⟩
def AbM:List Tmp:=[0,1,2,4,10]
def C8:Nat→Bv
 |0=>R 0 [x 0 (s 0),a 1 zE] [(1,0),(2,1)] [0]
 |1=>R 1 [a 2 zE] [(3,0)] []
 |2=>R 2 [F (s 1) 0,L (l 0),C 31 [r (l 1)] [3],F (s 3) 0,W 1 (l 3) (l 2)] [] []
 |3=>R 3 [F (s 1) 1,L (l 0),C 31 [r (l 1)] [4],F (s 3) 1,W 1 (l 3) (l 2)] [] []
 |4=>R 4 [F (s 1) 2,L (l 0),C 170 [r (l 1)] [5],F (s 3) 2,W 1 (l 3) (l 2)] [] []
 |5=>R 5 [F (s 1) 3,L (l 0),F (s 3) 3,W 1 (l 2) (l 1)] [] [1]
 |_=>R 6 [P 4 (s 3),W 4 (s 2) (l 0)] [] [3]
def LY:BA:=⟨4,6,[0],0,false,[],j (d (C8 0)) (j (d (C8 1)) (j (d (C8 2)) (j (d (C8 3)) (j (d (C8 4)) (j (d (C8 5)) (j (d (C8 6)) (.ret))))))),[.cell 2 (some 4)]⟩
def XA:List Tmp:=[0,1,2,3]
def D7:Nat→Bv
 |0=>R 0 [x 0 (s 0),a 1 zL] [(1,0),(2,1)] [0]
 |1=>R 1 [a 2 zL] [(3,0)] []
 |2=>R 2 [F (s 1) 0,L (l 0),F (s 3) 0,W 1 (l 2) (l 1)] [] []
 |3=>R 3 [F (s 1) 1,L (l 0),F (s 3) 1,W 1 (l 2) (l 1)] [] []
 |4=>R 4 [F (s 1) 2,L (l 0),F (s 3) 2,W 1 (l 2) (l 1)] [] []
 |5=>R 5 [F (s 1) 3,P 5 (l 0),C 99 [r (l 1)] [3,4],F (s 3) 3,W 5 (l 3) (l 2)] [] [1]
 |_=>R 6 [P 8 (s 3),W 8 (s 2) (l 0)] [] [3]
def Po:BA:=⟨4,5,[0],0,false,[],j (d (D7 0)) (j (d (D7 1)) (j (d (D7 2)) (j (d (D7 3)) (j (d (D7 4)) (j (d (D7 5)) (j (d (D7 6)) (.ret))))))),[.cell 2 (some 8)]⟩
def Abq:List Tmp:=[0,1,2,3]
def Ce:Nat→Bv
 |0=>R 0 [x 0 (s 0),x 1 (s 1),m f] [(2,0),(3,1)] [0,1,4]
 |1=>R 1 [F (s 2) 0,L (l 0),F (s 3) 0,L (l 2),y .neq (l 1) (l 3)] [(5,4)] []
 |2=>R 2 [m f] [(4,0)] [2,3]
 |3=>R 3 [F (s 2) 1,L (l 0),F (s 3) 1,L (l 2),y .neq (l 1) (l 3)] [(6,4)] []
 |4=>R 4 [m f] [(4,0)] [2,3]
 |5=>R 5 [F (s 2) 2,L (l 0),F (s 3) 2,L (l 2),I9.beq true (l 1) (l 3)] [(7,4)] []
 |6=>R 6 [m f] [(4,0)] [2,3]
 |7=>R 7 [F (s 2) 3,P 5 (l 0),F (s 3) 3,P 5 (l 2),C 135 [r (l 1),r (l 3)] [],n (l 4)] [(8,5)] [2,3]
 |8=>R 8 [m f] [(4,0)] []
 |_=>R 9 [m t] [(4,0)] []
def Px:BA:=⟨9,2,[0,1],0,false,[],j (d (Ce 0)) (j (j (d (Ce 1)) (h 5 (j (d (Ce 2)) (.ret)) (.skip))) (j (j (d (Ce 3)) (h 6 (j (d (Ce 4)) (.ret)) (.skip))) (j (j (d (Ce 5)) (h 7 (j (d (Ce 6)) (.ret)) (.skip))) (j (j (d (Ce 7)) (h 8 (j (d (Ce 8)) (.ret)) (.skip))) (j (d (Ce 9)) (.ret)))))),[.slot 4]⟩
def AaM:List Tmp:=[0,1,2,3,4,9,14,19,25]
def Cw:Nat→Bv
 |0=>R 0 [m (i 0)] [] [2]
 |1=>R 1 [m (s 1),m (s 0),e (l 1),y .sub (l 0) (l 2),m (l 3)] [(1,4)] []
 |2=>R 2 [m (s 1),y .lss (l 0) (i 0)] [(4,1)] []
 |3=>R 3 [m (i (-1))] [(2,0)] [0,1]
 |4=>R 4 [m (i 0)] [(3,0)] []
 |5=>R 5 [m (s 3),m (s 0),e (l 1),y .lss (l 0) (l 2)] [(5,3)] []
 |6=>R 7 [m (s 0),m (s 3),A 4 (l 0) (l 1),P 4 (l 2),m (s 1),C 206 [r (l 3),r (l 4)] [],m (l 5)] [(1,6)] []
 |7=>R 8 [m (s 1),y .lss (l 0) (i 0)] [(6,1)] []
 |8=>R 9 [m (i (-1))] [(2,0)] [0,1,3]
 |9=>R 6 [m (s 3),y .add (l 0) (i 1),m (l 1)] [(3,2)] []
 |_=>R 10 [m (s 1),m (l 0)] [(2,1)] [0,1,3]
def TV:BA:=⟨7,0,[0,1],0,false,[],j (d (Cw 0)) (j (d (Cw 1)) (j (j (d (Cw 2)) (h 4 (j (d (Cw 3)) (.ret)) (.skip))) (j (j (d (Cw 4)) (.block 0 (.loop (j (j (d (Cw 5)) (h 5 (.skip) (.exit 0))) (j (.block 1 (j (d (Cw 6)) (j (d (Cw 7)) (h 6 (j (d (Cw 8)) (.ret)) (.skip))))) (d (Cw 9))))))) (j (d (Cw 10)) (.ret))))),[.slot 2]⟩
def AeM:List Tmp:=[0,1,4,5,11,15,25]
def EO:Nat→Bv
 |0=>R 0 [m (z 4)] [] [1]
 |1=>R 1 [m (s 0),e (l 0),I9.makeSlice 0 4 64 [o,.sl 0 1 0 [],.sl 0 1 0 [],c] (l 1),m (l 2)] [(2,3)] []
 |2=>R 2 [m (i 0)] [(3,0)] []
 |3=>R 3 [m (s 3),m (s 0),e (l 1),y .lss (l 0) (l 2)] [(4,3)] []
 |4=>Q 5 [m (s 2),m (s 3),m (s 0),m (s 3),A 4 (l 2) (l 3),P 4 (l 4),C 226 [r (l 5)] [1,2],A 4 (l 0) (l 1),W 4 (l 7) (l 6)] [] [] [1,2] []
 |5=>R 4 [m (s 3),y .add (l 0) (i 1),m (l 1)] [(3,2)] []
 |_=>R 6 [m (s 2),m (l 0)] [(1,1)] [0,2,3]
def Sk:BA:=⟨5,3,[0],0,false,[],j (d (EO 0)) (j (d (EO 1)) (j (j (d (EO 2)) (.block 0 (.loop (j (j (d (EO 3)) (h 4 (.skip) (.exit 0))) (j (.block 1 (d (EO 4))) (d (EO 5))))))) (j (d (EO 6)) (.ret)))),[.slot 1]⟩
def Agg:List Tmp:=[0,2,3,4,11]
def JB:Nat→Bv
 |0=>R 0 [m f] [] [1]
 |_=>R 1 [m (s 0),C 267 [r (l 0),r (g 279)] [],m (l 1)] [(1,2)] [0]
def Me:BA:=⟨2,0,[0],0,false,[],j (d (JB 0)) (j (d (JB 1)) (.ret)),[.slot 1]⟩
def X8:List Tmp:=[0,2]
def PU:Nat→Bv
 |0=>R 0 [x 0 (s 0),m f] [(2,0)] [0,3]
 |_=>R 1 [m (s 1),F (s 2) 3,L (l 1),e (l 2),y .sub (l 3) (i 1),C 114 [r (l 0),r (i 0),r (l 4)] [],m (l 5)] [(3,6)] [1,2]
def SN:BA:=⟨4,1,[0,1],0,false,[],j (d (PU 0)) (j (d (PU 1)) (.ret)),[.slot 3]⟩
def Afa:List Tmp:=[0,1,2,4]
def Jw:Nat→Bv
 |0=>R 0 [m f] [] [1]
 |_=>R 1 [m (s 0),C 71 [r (l 0),r (i 0),r (i 255)] [],m (l 1),J 2 (m (s 0)),J 2 (y .rem (l 3) (i 16)),J 2 (y .eql (l 4) (i 10)),k (l 2) (l 5) f,m (l 6)] [(1,7)] [0]
def LW:BA:=⟨2,0,[0],0,false,[],j (d (Jw 0)) (j (d (Jw 1)) (.ret)),[.slot 1]⟩
def XI:List Tmp:=[0,2]
def Ea:Nat→Bv
 |0=>R 0 [m f] [] [2]
 |_=>R 1 [m (s 0),m (s 1),C 404 [r (l 0),r (l 1)] [],y .geq (l 2) (i 0),m (l 3)] [(2,4)] [0,1]
def Eo:BA:=⟨3,0,[0,1],0,false,[],j (d (Ea 0)) (j (d (Ea 1)) (.ret)),[.slot 2]⟩
def Ki:List Tmp:=[0,1,4]
def Jz:Nat→Bv
 |0=>R 0 [m f] [] [1]
 |_=>R 1 [m (s 0),C 114 [r (l 0),r (i 0),r (i 255)] [],m (l 1),J 2 (m (s 0)),J 2 (y .rem (l 3) (i 16)),J 2 (y .eql (l 4) (i 10)),k (l 2) (l 5) f,m (l 6)] [(1,7)] [0]
def LP:BA:=⟨2,0,[0],0,false,[],j (d (Jz 0)) (j (d (Jz 1)) (.ret)),[.slot 1]⟩
def Yd:List Tmp:=[0,2]
def JF:Nat→Bv
 |0=>R 0 [x 0 (s 1),x 1 (s 2),m f] [(3,0),(4,1)] [1,2,5]
 |_=>R 1 [m (s 0),I9.makeFunc 266 [s 3,s 4],C 267 [r (l 0),r (l 1)] [],n (l 2),m (l 3)] [(5,4)] [0,3,4]
def Ms:BA:=⟨6,2,[0,1,2],0,false,[],j (d (JF 0)) (j (d (JF 1)) (.ret)),[.slot 5]⟩
def X7:List Tmp:=[0,1,2,4,5,6]
def AO:Nat→Bv
 |0=>R 0 [m (i 0)] [] [2]
 |1=>R 1 [m (s 0),e (l 0),m (i 0)] [(4,1),(5,2)] []
 |2=>R 2 [y .lss (s 5) (s 4)] [(6,0)] []
 |3=>R 3 [m (s 5),m (l 0)] [(3,1)] []
 |4=>R 4 [m (s 1),m (s 0),m (s 3),A 1 (l 1) (l 2),L (l 3),I9.callv (l 0) [r (l 4)] []] [(7,5)] []
 |5=>R 5 [m (s 3),m (l 0)] [(2,1)] [0,1,3,4,5]
 |6=>R 6 [y .add (s 5) (i 1),m (l 0)] [(5,1)] [3]
 |_=>R 7 [m (i (-1))] [(2,0)] [0,1,4,5]
def E8:BA:=⟨8,0,[0,1],0,false,[],j (d (AO 0)) (j (j (d (AO 1)) (.block 0 (.loop (j (d (AO 2)) (j (h 6 (.skip) (.exit 0)) (j (.block 1 (j (d (AO 3)) (j (d (AO 4)) (h 7 (j (d (AO 5)) (.ret)) (.skip))))) (d (AO 6)))))))) (j (d (AO 7)) (.ret))),[.slot 2]⟩
def Mf:List Tmp:=[0,1,4,5,7,8,9,16]
def Io:Nat→Bv
 |0=>R 0 [m f] [] [3]
 |_=>R 1 [m (s 0),L (s 1),L (s 2),C 114 [r (l 0),r (l 1),r (l 2)] [],n (l 3),m (l 4)] [(3,5)] [0,1,2]
def JN:BA:=⟨4,0,[0,1,2],0,false,[],j (d (Io 0)) (j (d (Io 1)) (.ret)),[.slot 3]⟩
def Un:List Tmp:=[0,1,2,4]
def QK:Nat→Bv
 |0=>R 0 [x 0 (s 0),m f] [(1,0)] [0,2]
 |_=>R 1 [F (s 1) 0,L (l 0),C 71 [r (l 1),r (i 0),r (i 9)] [],m (l 2),J 3 (F (s 1) 1),J 3 (L (l 4)),J 3 (e (l 5)),J 3 (y .leq (l 6) (i 6)),k (l 3) (l 7) f,m (l 8),J 9 (F (s 1) 2),J 9 (L (l 10)),J 9 (e (l 11)),J 9 (y .leq (l 12) (i 6)),k (l 9) (l 13) f,m (l 14),J 15 (F (s 1) 1),J 15 (L (l 16)),J 15 (C 217 [r (l 17)] []),k (l 15) (l 18) f,m (l 19),J 20 (F (s 1) 2),J 20 (L (l 21)),J 20 (C 217 [r (l 22)] []),k (l 20) (l 23) f,m (l 24)] [(2,25)] [1]
def UO:BA:=⟨3,1,[0],0,false,[],j (d (QK 0)) (j (d (QK 1)) (.ret)),[.slot 2]⟩
def AhR:List Tmp:=[0,1,2]
def Qx:Nat→Bv
 |0=>R 0 [x 0 (s 0),m f] [(1,0)] [0,2]
 |_=>R 1 [F (s 1) 0,L (l 0),C 114 [r (l 1),r (i 0),r (i 9)] [],m (l 2),J 3 (F (s 1) 1),J 3 (L (l 4)),J 3 (e (l 5)),J 3 (y .leq (l 6) (i 6)),k (l 3) (l 7) f,m (l 8),J 9 (F (s 1) 2),J 9 (L (l 10)),J 9 (e (l 11)),J 9 (y .leq (l 12) (i 6)),k (l 9) (l 13) f,m (l 14),J 15 (F (s 1) 1),J 15 (L (l 16)),J 15 (C 233 [r (l 17),r (i 0),r (i 255)] []),k (l 15) (l 18) f,m (l 19),J 20 (F (s 1) 2),J 20 (L (l 21)),J 20 (C 233 [r (l 22),r (i 0),r (i 255)] []),k (l 20) (l 23) f,m (l 24)] [(2,25)] [1]
def Vb:BA:=⟨3,1,[0],0,false,[],j (d (Qx 0)) (j (d (Qx 1)) (.ret)),[.slot 2]⟩
def AiH:List Tmp:=[0,1,2]
def EL:Nat→Bv
 |0=>R 0 [m f] [] [1]
 |1=>R 1 [m (i 0)] [(2,0)] []
 |2=>R 2 [m (s 2),m (s 0),e (l 1),y .lss (l 0) (l 2)] [(3,3)] []
 |3=>R 4 [m (s 0),m (s 2),A 1 (l 0) (l 1),L (l 2),C 71 [r (l 3),r (i 0),r (i 255)] [],n (l 4)] [(4,5)] []
 |4=>R 5 [m f] [(1,0)] [0,2]
 |5=>R 3 [m (s 2),y .add (l 0) (i 1),m (l 1)] [(2,2)] []
 |_=>R 6 [m t] [(1,0)] [0,2]
def Sr:BA:=⟨5,0,[0],0,false,[],j (d (EL 0)) (j (j (d (EL 1)) (.block 0 (.loop (j (j (d (EL 2)) (h 3 (.skip) (.exit 0))) (j (.block 1 (j (d (EL 3)) (h 4 (j (d (EL 4)) (.ret)) (.skip)))) (d (EL 5))))))) (j (d (EL 6)) (.ret))),[.slot 1]⟩
def Afd:List Tmp:=[0,2,3,7,15]
def JM:Nat→Bv
 |0=>R 0 [a 0 [N 1,N 2]] [(1,0)] []
 |_=>R 1 [M 1 1 0 [],m (s 0),q 2 1 8 (l 0) (l 1),b [N 1,N 2] [(0,1,l 2)],W 2 (s 1) (l 3)] [] [0]
def MF:BA:=⟨2,3,[0],0,false,[],j (d (JM 0)) (j (d (JM 1)) (.ret)),[.cell 1 (some 2)]⟩
def Yu:List Tmp:=[0,2]
def Bu:Nat→Bv
 |0=>R 0 [x 0 (s 0),x 1 (s 1),a 2 [N 1,N 2],m f] [(2,0),(3,1),(4,2)] [0,1,5]
 |1=>T 1 [D (P 4 (s 2)) [0] [],D (C 152 [r (l 0)] []) [] [],D (n (l 1)) [] [],D (m (l 2)) [] [],H 3 (P 2 (s 3)) [1] [],H 3 (C 285 [r (l 4)] []) [] [],H 3 (n (l 5)) [] [],D (k (l 3) t (l 6)) [] [],D (m (l 7)) [] [],H 8 (F (s 2) 0) [] [],H 8 (L (l 9)) [0] [],H 8 (y .gtr (l 10) (i 0)) [] [],H 8 (m (l 11)) [] [],K 12 (F (s 3) 0) [] [],K 12 (L (l 13)) [1] [],K 12 (F (s 3) 0) [] [],K 12 (L (l 15)) [1] [],K 12 (e (l 16)) [] [],K 12 (y .sub (l 17) (i 1)) [] [],K 12 (A 1 (l 14) (l 18)) [] [],K 12 (L (l 19)) [] [],K 12 (F (s 2) 0) [] [],K 12 (L (l 21)) [0] [],K 12 (y .gtr (l 20) (l 22)) [] [],H 8 (k (l 12) (l 23) f) [] [],D (k (l 8) t (l 24)) [] []] [(10,25)] []
 |2=>R 2 [b [N 1,N 2] [],W 2 (s 4) (l 0),m f] [(5,2)] [2,3]
 |3=>Q 3 [M 3 1 0 [],F (s 3) 0,L (l 1),q 4 1 8 (l 0) (l 2),b [N 1,N 2] [(0,1,l 3)],a 5 [N 1,N 2],W 2 (l 5) (l 4)] [(6,5)] [] [] [.ownc 5 1 10]
 |4=>R 4 [m (i 0)] [(7,0)] []
 |5=>R 5 [m (s 7),F (s 3) 1,L (l 1),e (l 2),y .lss (l 0) (l 3)] [(11,4)] []
 |6=>R 7 [F (s 3) 1,L (l 0),m (s 7),A 2 (l 1) (l 2),F (l 3) 0,L (l 4),m (l 5)] [(8,6)] []
 |7=>R 8 [F (s 2) 2,L (l 0),m (s 8),C 166 [r (l 1),r (l 2)] [],m (l 3)] [(9,4)] []
 |8=>R 9 [F (s 2) 1,L (l 0),m (s 8),C 166 [r (l 1),r (l 2)] [],m (l 3),G 4 (F (s 2) 3),G 4 (L (l 5)),G 4 (m (l 6)),J 7 (m (s 9)),J 7 (n (l 8)),G 4 (k (l 7) (l 9) f),G 4 (m (l 10)),J 11 (m (s 8)),J 11 (C 71 [r (l 12),r (i 1),r (i 3)] []),J 11 (n (l 13)),G 4 (k (l 11) (l 14) f),k (l 4) t (l 15)] [(12,16)] []
 |9=>R 10 [b [N 1,N 2] [],W 2 (s 4) (l 0),m f] [(5,2)] [2,3,6,7,8,9]
 |10=>R 11 [m (s 9),n (l 0)] [(13,1)] [9]
 |11=>Y 12 [D (F (s 6) 1) [] [],D (L (l 0)) [5] [],D (m (s 8)) [] [],D (M 6 1 0 []) [6] [6],D (F (s 3) 1) [] [],D (L (l 4)) [1] [],D (m (s 7)) [] [],D (A 2 (l 5) (l 6)) [] [],D (F (l 7) 1) [] [],D (L (l 8)) [] [],D (q 7 1 8 (l 3) (l 9)) [6,7] [6,7],D (b [o,N 1] [(0,1,l 2),(1,1,l 10)]) [] [],D (M 8 2 1 [l 11]) [7,8] [7,8],D (p 9 2 32 (l 1) (l 12)) [8,9,10] [8,9,10],D (F (s 6) 1) [] [],D (W 1 (l 14) (l 13)) [5] [5]] [] [8] [6,7,8,9] [w 9 10]
 |12=>R 6 [m (s 7),y .add (l 0) (i 1),m (l 1)] [(7,2)] []
 |_=>R 13 [P 2 (s 6),W 2 (s 4) (l 0),m t] [(5,2)] [2,3,6,7]
def QB:BA:=⟨14,11,[0,1],0,false,[],j (d (Bu 0)) (j (j (d (Bu 1)) (h 10 (j (d (Bu 2)) (.ret)) (.skip))) (j (d (Bu 3)) (j (j (d (Bu 4)) (.block 0 (.loop (j (j (d (Bu 5)) (h 11 (.skip) (.exit 0))) (j (.block 1 (j (d (Bu 6)) (j (d (Bu 7)) (j (j (d (Bu 8)) (h 12 (j (d (Bu 9)) (.ret)) (.skip))) (j (d (Bu 10)) (h 13 (d (Bu 11)) (.skip))))))) (d (Bu 12))))))) (j (d (Bu 13)) (.ret))))),[.cell 4 (some 2),.slot 5]⟩
def AdO:List Tmp:=[0,1,2,3,4,5,6,7,8,9,35,46,75,78]
def GL:Nat→Bv
 |0=>R 0 [x 0 (s 0),x 1 (s 1),a 2 [N 1,N 2],m f] [(2,0),(3,1),(4,2)] [0,1,5]
 |1=>R 1 [P 4 (s 2),C 183 [r (l 0)] [],n (l 1),m (l 2),G 3 (P 2 (s 3)),G 3 (C 292 [r (l 4)] []),G 3 (n (l 5)),k (l 3) t (l 6),m (l 7),G 8 (P 4 (s 2)),G 8 (P 2 (s 3)),G 8 (C 295 [r (l 9),r (l 10)] []),k (l 8) t (l 11)] [(6,12)] []
 |2=>R 2 [b [N 1,N 2] [],W 2 (s 4) (l 0),m f] [(5,2)] [2,3]
 |_=>T 3 [D (F (s 3) 0) [] [],D (L (l 0)) [1] [],D (C 296 [r (l 1)] [3]) [3] [3],D (F (s 3) 1) [] [],D (L (l 3)) [1] [],D (.makeFunc 297 [s 2]) [] [],D (C 298 [r (l 4),r (l 5)] [4]) [0,4] [4],D (b [N 1,N 2] [(0,1,l 2),(1,1,l 6)]) [] [],D (W 2 (s 4) (l 7)) [2] [2],D (m t) [] []] [(5,9)] [2,3]
def Qz:BA:=⟨7,5,[0,1],0,false,[],j (d (GL 0)) (j (j (d (GL 1)) (h 6 (j (d (GL 2)) (.ret)) (.skip))) (j (d (GL 3)) (.ret))),[.cell 4 (some 2),.slot 5]⟩
def Adj:List Tmp:=[0,1,2,3,4,5,18]
def Od:Nat→Bv
 |0=>R 0 [x 0 (s 0),m f] [(1,0)] [0,2]
 |_=>R 1 [F (s 1) 0,L (l 0),C 208 [r (l 1)] [],m (l 2),J 3 (F (s 1) 1),J 3 (L (l 4)),J 3 (C 312 [r (l 5)] []),k (l 3) (l 6) f,m (l 7)] [(2,8)] [1]
def QM:BA:=⟨3,1,[0],0,false,[],j (d (Od 0)) (j (d (Od 1)) (.ret)),[.slot 2]⟩
def AdU:List Tmp:=[0,1,2]
def NP:Nat→Bv
 |0=>R 0 [x 0 (s 0),m f] [(1,0)] [0,2]
 |_=>R 1 [F (s 1) 0,L (l 0),C 232 [r (l 1)] [],m (l 2),J 3 (F (s 1) 1),J 3 (L (l 4)),J 3 (C 320 [r (l 5)] []),k (l 3) (l 6) f,m (l 7)] [(2,8)] [1]
def Q6:BA:=⟨3,1,[0],0,false,[],j (d (NP 0)) (j (d (NP 1)) (.ret)),[.slot 2]⟩
def Adz:List Tmp:=[0,1,2]
def Jq:Nat→Bv
 |0=>R 0 [x 0 (s 0),x 1 (s 1),m f] [(2,0),(3,1)] [0,1,4]
 |1=>T 1 [D (F (s 2) 0) [] [],D (L (l 0)) [0] [],D (y .neq (l 1) (i 0)) [] [],D (m (l 2)) [] [],K 3 (F (s 3) 0) [] [],K 3 (L (l 4)) [1] [],K 3 (C 325 [r (l 5)] []) [] [],K 3 (F (s 2) 0) [] [],K 3 (L (l 7)) [0] [],K 3 (y .gtr (l 6) (l 8)) [] [],D (k (l 3) (l 9) f) [] []] [(5,10)] []
 |2=>R 2 [m t] [(4,0)] [2,3]
 |_=>R 3 [F (s 3) 1,L (l 0),I9.makeFunc 326 [s 2],C 327 [r (l 1),r (l 2)] [],m (l 3)] [(4,4)] [2,3]
def Ur:BA:=⟨6,2,[0,1],0,false,[],j (d (Jq 0)) (j (j (d (Jq 1)) (h 5 (j (d (Jq 2)) (.ret)) (.skip))) (j (d (Jq 3)) (.ret))),[.slot 4]⟩
def Aif:List Tmp:=[0,1,2,3,4,15]
def CO:Nat→Bv
 |0=>R 0 [m (z 2)] [] [2]
 |1=>Q 1 [M 0 2 0 [],m (l 0)] [(3,1)] [] [] [w 0 6]
 |2=>R 2 [m (s 0),e (l 0),m (i 0)] [(5,0),(6,1),(7,2)] [0]
 |3=>R 3 [y .lss (s 7) (s 6)] [(8,0)] []
 |4=>Q 4 [A 2 (s 5) (s 7),P 2 (l 0),a 1 [o,N 1],W 2 (l 2) (l 1)] [(4,2)] [] [1] []
 |5=>R 5 [m (s 1),F (s 4) 0,L (l 1),I9.callv (l 0) [r (l 2)] []] [(9,3)] []
 |6=>Y 6 [D (m (s 3)) [] [],D (F (s 4) 0) [] [],D (L (l 1)) [1] [],D (M 2 1 0 []) [2] [2],D (F (s 4) 1) [] [],D (L (l 4)) [1] [],D (q 3 1 8 (l 3) (l 5)) [2,3] [2,3],D (b [o,N 1] [(0,1,l 2),(1,1,l 6)]) [] [],D (M 4 2 1 [l 7]) [3,4] [3,4],D (p 5 2 32 (l 0) (l 8)) [4,5,6] [4,5,6],D (m (l 9)) [] []] [(3,10)] [4] [2,3,4,5] [w 5 6]
 |7=>R 7 [y .add (s 7) (i 1),m (l 0)] [(7,1)] []
 |_=>R 8 [m (s 3),m (l 0)] [(2,1)] [1,3,5,6,7]
def Ps:BA:=⟨10,7,[0,1],0,false,[],j (d (CO 0)) (j (d (CO 1)) (j (j (d (CO 2)) (.block 0 (.loop (j (d (CO 3)) (j (h 8 (.skip) (.exit 0)) (j (.block 1 (j (d (CO 4)) (j (d (CO 5)) (h 9 (d (CO 6)) (.skip))))) (d (CO 7)))))))) (j (d (CO 8)) (.ret)))),[.slot 2]⟩
def AbQ:List Tmp:=[0,1,4,5,7,9,10,11,12,18]
def KM:Nat→Bv
 |0=>R 0 [m f] [] [2]
 |_=>R 1 [F (s 1) 2,L (l 0),m (s 0),C 188 [r (l 1),r (l 2)] [],n (l 3),m (l 4)] [(2,5)] [0,1]
def N7:BA:=⟨3,0,[0,1],0,false,[],j (d (KM 0)) (j (d (KM 1)) (.ret)),[.slot 2]⟩
def Aac:List Tmp:=[0,1,3]
def CQ:Nat→Bv
 |0=>R 0 [m f] [] [1]
 |1=>R 1 [m (i 0)] [(2,0)] []
 |2=>R 2 [m (s 2),m (s 0),e (l 1),y .lss (l 0) (l 2)] [(3,3)] []
 |3=>T 4 [D (m (s 0)) [] [],D (m (s 2)) [] [],D (A 1 (l 0) (l 1)) [] [],D (L (l 2)) [] [],D (C 71 [r (l 3),r (i 1),r (i 9)] []) [] [],D (n (l 4)) [] [],D (m (l 5)) [] [],H 6 (m (s 2)) [] [],H 6 (y .gtr (l 7) (i 0)) [] [],H 6 (m (l 8)) [] [],K 9 (m (s 0)) [] [],K 9 (m (s 2)) [] [],K 9 (y .sub (l 11) (i 1)) [] [],K 9 (A 1 (l 10) (l 12)) [] [],K 9 (L (l 13)) [] [],K 9 (m (s 0)) [] [],K 9 (m (s 2)) [] [],K 9 (A 1 (l 15) (l 16)) [] [],K 9 (L (l 17)) [] [],K 9 (y .geq (l 14) (l 18)) [] [],H 6 (k (l 9) (l 19) f) [] [],D (k (l 6) t (l 20)) [] []] [(4,21)] []
 |4=>R 5 [m f] [(1,0)] [0,2]
 |5=>R 3 [m (s 2),y .add (l 0) (i 1),m (l 1)] [(2,2)] []
 |_=>R 6 [m (s 0),e (l 0),y .gtr (l 1) (i 0),m (l 2)] [(1,3)] [0,2]
def KY:BA:=⟨5,0,[0],0,false,[],j (d (CQ 0)) (j (j (d (CQ 1)) (.block 0 (.loop (j (j (d (CQ 2)) (h 3 (.skip) (.exit 0))) (j (.block 1 (j (d (CQ 3)) (h 4 (j (d (CQ 4)) (.ret)) (.skip)))) (d (CQ 5))))))) (j (d (CQ 6)) (.ret))),[.slot 1]⟩
def VU:List Tmp:=[0,2,3,7,31]
def Em:Nat→Bv
 |0=>R 0 [m f] [] [1]
 |1=>R 1 [m (i 0)] [(2,0)] []
 |2=>R 2 [m (s 2),m (s 0),e (l 1),y .lss (l 0) (l 2)] [(3,3)] []
 |3=>R 4 (.append [m (s 0),m (s 2),A 2 (l 0) (l 1),F (l 2) 0,L (l 3),C 71 [r (l 4),r (i 0),r (i 255)] [],n (l 5),m (l 6),G 7 (m (s 0)),G 7 (m (s 2)),G 7 (A 2 (l 8) (l 9)),G 7 (F (l 10) 1),G 7 (L (l 11)),G 7 (e (l 12)),G 7 (y .gtr (l 13) (i 4)),k (l 7) t (l 14),m (l 15),G 16 (m (s 0)),G 16 (m (s 2)),G 16 (A 2 (l 17) (l 18)),G 16 (F (l 19) 1),G 16 (L (l 20)),G 16 (C 217 [r (l 21)] []),G 16 (n (l 22)),k (l 16) t (l 23),m (l 24),G 25 (m (s 0)),G 25 (m (s 0)),G 25 (m (s 2)),G 25 (A 2 (l 27) (l 28))] [G 25 (F (l 29) 0),G 25 (L (l 30)),G 25 (C 309 [r (l 26),r (l 31)] []),G 25 (m (s 2)),G 25 (y .lss (l 32) (l 33)),k (l 25) t (l 34)]) [(4,35)] []
 |4=>R 5 [m f] [(1,0)] [0,2]
 |5=>R 3 [m (s 2),y .add (l 0) (i 1),m (l 1)] [(2,2)] []
 |_=>R 6 [m (s 0),e (l 0),y .leq (l 1) (i 6),m (l 2)] [(1,3)] [0,2]
def Q0:BA:=⟨5,0,[0],0,false,[],j (d (Em 0)) (j (j (d (Em 1)) (.block 0 (.loop (j (j (d (Em 2)) (h 3 (.skip) (.exit 0))) (j (.block 1 (j (d (Em 3)) (h 4 (j (d (Em 4)) (.ret)) (.skip)))) (d (Em 5))))))) (j (d (Em 6)) (.ret))),[.slot 1]⟩
def AdK:List Tmp:=[0,2,3,7,45]
def Cc:Nat→Bv
 |0=>R 0 [m f] [] [1]
 |1=>R 1 [m (s 0),e (l 0),m (i 0)] [(4,0),(5,1),(6,2)] []
 |2=>R 2 [y .lss (s 6) (s 5)] [(7,0)] []
 |3=>R 3 [m (s 6),A 1 (s 4) (s 6),L (l 1),m (l 0),m (l 2)] [(2,3),(3,4)] []
 |4=>R 4 [m (s 3),C 114 [r (l 0),r (i 1),r (i 9)] [],n (l 1),m (l 2),G 3 (m (s 2)),G 3 (y .gtr (l 4) (i 0)),G 3 (m (l 5)),J 6 (m (s 0)),J 6 (m (s 2)),J 6 (y .sub (l 8) (i 1)),J 6 (A 1 (l 7) (l 9)),J 6 (L (l 10)),J 6 (m (s 3)),J 6 (y .geq (l 11) (l 12)),G 3 (k (l 6) (l 13) f),k (l 3) t (l 14)] [(8,15)] [2,3]
 |5=>R 5 [m f] [(1,0)] [0,4,5,6]
 |6=>R 6 [y .add (s 6) (i 1),m (l 0)] [(6,1)] []
 |_=>R 7 [m (s 0),e (l 0),y .gtr (l 1) (i 0),m (l 2)] [(1,3)] [0,4,5,6]
def K4:BA:=⟨9,0,[0],0,false,[],j (d (Cc 0)) (j (j (d (Cc 1)) (.block 0 (.loop (j (d (Cc 2)) (j (h 7 (.skip) (.exit 0)) (j (.block 1 (j (d (Cc 3)) (j (d (Cc 4)) (h 8 (j (d (Cc 5)) (.ret)) (.skip))))) (d (Cc 6)))))))) (j (d (Cc 7)) (.ret))),[.slot 1]⟩
def Wp:List Tmp:=[0,2,3,4,5,6,7,8,27]
def DV:Nat→Bv
 |0=>R 0 [m f] [] [1]
 |1=>R 1 [m (s 0),e (l 0),m (i 0)] [(4,0),(5,1),(6,2)] []
 |2=>R 2 [y .lss (s 6) (s 5)] [(7,0)] []
 |3=>Q 3 [m (s 6),A 2 (s 4) (s 6),P 2 (l 1),a 0 [o,N 1],m (l 0),W 2 (l 3) (l 2)] [(2,4),(3,3)] [] [0] []
 |4=>T 4 [D (F (s 3) 0) [] [],D (L (l 0)) [0] [],D (C 114 [r (l 1),r (i 0),r (i 255)] []) [] [],D (n (l 2)) [] [],D (m (l 3)) [] [],H 4 (m (s 0)) [] [],H 4 (m (s 2)) [] [],H 4 (.slice 2 (l 5) none (some (l 6))) [] [],H 4 (F (s 3) 0) [] [],H 4 (L (l 8)) [0] [],H 4 (C 321 [r (l 7),r (l 9)] []) [] [],H 4 (y .geq (l 10) (i 0)) [] [],D (k (l 4) t (l 11)) [] [],D (m (l 12)) [] [],H 13 (F (s 3) 1) [] [],H 13 (L (l 14)) [0] [],H 13 (e (l 15)) [] [],H 13 (y .gtr (l 16) (i 4)) [] [],D (k (l 13) t (l 17)) [] [],D (m (l 18)) [] [],H 19 (F (s 3) 1) [] [],H 19 (L (l 20)) [0] [],H 19 (C 233 [r (l 21),r (i 0),r (i 255)] []) [] [],H 19 (n (l 22)) [] [],D (k (l 19) t (l 23)) [] []] [(8,24)] [2,3]
 |5=>R 5 [m f] [(1,0)] [0,4,5,6]
 |6=>R 6 [y .add (s 6) (i 1),m (l 0)] [(6,1)] []
 |_=>R 7 [m (s 0),e (l 0),y .leq (l 1) (i 6),m (l 2)] [(1,3)] [0,4,5,6]
def QT:BA:=⟨9,1,[0],0,false,[],j (d (DV 0)) (j (j (d (DV 1)) (.block 0 (.loop (j (d (DV 2)) (j (h 7 (.skip) (.exit 0)) (j (.block 1 (j (d (DV 3)) (j (d (DV 4)) (h 8 (j (d (DV 5)) (.ret)) (.skip))))) (d (DV 6)))))))) (j (d (DV 7)) (.ret))),[.slot 1]⟩
def Ac0:List Tmp:=[0,2,3,4,5,6,7,8,36]
def Co:Nat→Bv
 |0=>R 0 [m f] [] [2]
 |_=>R 1 [m (s 0),m (s 1),C 352 [r (l 0),r (l 1)] [],y .geq (l 2) (i 0),m (l 3)] [(2,4)] [0,1]
def CB:BA:=⟨3,0,[0,1],0,false,[],j (d (Co 0)) (j (d (Co 1)) (.ret)),[.slot 2]⟩
def Gr:List Tmp:=[0,1,4]
def Nw:Nat→Bv
 |0=>R 0 [x 0 (s 0),m f] [(2,0)] [0,3]
 |_=>R 1 [F (s 1) 1,L (l 0),F (s 2) 0,L (l 2),C 188 [r (l 1),r (l 3)] [],m (l 4),G 5 (F (s 1) 3),G 5 (L (l 6)),G 5 (m (l 7)),J 8 (F (s 1) 2),J 8 (L (l 9)),J 8 (F (s 2) 0),J 8 (L (l 11)),J 8 (C 188 [r (l 10),r (l 12)] []),J 8 (n (l 13)),G 5 (k (l 8) (l 14) f),G 5 (m (l 15)),J 16 (F (s 2) 0),J 16 (L (l 17)),J 16 (C 114 [r (l 18),r (i 1),r (i 3)] []),J 16 (n (l 19)),G 5 (k (l 16) (l 20) f),k (l 5) t (l 21),m (l 22)] [(3,23)] [1,2]
def Q5:BA:=⟨4,1,[0,1],0,false,[],j (d (Nw 0)) (j (d (Nw 1)) (.ret)),[.slot 3]⟩
def AdF:List Tmp:=[0,1,2,3]
def Fu:Nat→Bv
 |0=>R 0 [m (i 0)] [] [2]
 |1=>R 1 [m (i 0)] [(3,0)] []
 |2=>R 2 [m (s 3),m (s 0),e (l 1),y .lss (l 0) (l 2)] [(4,3)] []
 |3=>R 4 [m (s 0),m (s 3),A 2 (l 0) (l 1),F (l 2) 0,L (l 3),m (s 1),y .eql (l 4) (l 5)] [(5,6)] []
 |4=>R 5 [m (s 3),m (l 0)] [(2,1)] [0,1,3]
 |5=>R 3 [m (s 3),y .add (l 0) (i 1),m (l 1)] [(3,2)] []
 |_=>R 6 [m (i (-1))] [(2,0)] [0,1,3]
def Uu:BA:=⟨6,0,[0,1],0,false,[],j (d (Fu 0)) (j (j (d (Fu 1)) (.block 0 (.loop (j (j (d (Fu 2)) (h 4 (.skip) (.exit 0))) (j (.block 1 (j (d (Fu 3)) (h 5 (j (d (Fu 4)) (.ret)) (.skip)))) (d (Fu 5))))))) (j (d (Fu 6)) (.ret))),[.slot 2]⟩
def AiN:List Tmp:=[0,1,4,5,9,18]
def QS:Nat→Bv
 |0=>R 0 [x 0 (s 1),m (i 0)] [(2,0)] [1,3]
 |_=>R 1 [m (s 0),I9.makeFunc 351 [s 2],C 352 [r (l 0),r (l 1)] [],m (l 2)] [(3,3)] [0,2]
def U0:BA:=⟨4,1,[0,1],0,false,[],j (d (QS 0)) (j (d (QS 1)) (.ret)),[.slot 3]⟩
def AiE:List Tmp:=[0,1,3,4]
def Ak:Nat→Bv
 |0=>R 0 [m (i 0)] [] [2]
 |1=>R 1 [m (s 0),e (l 0),m (i 0)] [(4,1),(5,2)] []
 |2=>R 2 [y .lss (s 5) (s 4)] [(6,0)] []
 |3=>R 3 [m (s 5),m (l 0)] [(3,1)] []
 |4=>R 4 [m (s 1),m (s 0),m (s 3),A 2 (l 1) (l 2),P 2 (l 3),I9.callv (l 0) [r (l 4)] []] [(7,5)] []
 |5=>R 5 [m (s 3),m (l 0)] [(2,1)] [0,1,3,4,5]
 |6=>R 6 [y .add (s 5) (i 1),m (l 0)] [(5,1)] [3]
 |_=>R 7 [m (i (-1))] [(2,0)] [0,1,4,5]
def CZ:BA:=⟨8,0,[0,1],0,false,[],j (d (Ak 0)) (j (j (d (Ak 1)) (.block 0 (.loop (j (d (Ak 2)) (j (h 6 (.skip) (.exit 0)) (j (.block 1 (j (d (Ak 3)) (j (d (Ak 4)) (h 7 (j (d (Ak 5)) (.ret)) (.skip))))) (d (Ak 6)))))))) (j (d (Ak 7)) (.ret))),[.slot 2]⟩
def G6:List Tmp:=[0,1,4,5,7,8,9,16]
def N9:Nat→Bv
 |0=>R 0 [x 0 (s 0),m f] [(2,0)] [0,3]
 |_=>R 1 [F (s 2) 0,L (l 0),L (s 1),y .eql (l 1) (l 2),m (l 3)] [(3,4)] [1,2]
def Rb:BA:=⟨4,1,[0,1],0,false,[],j (d (N9 0)) (j (d (N9 1)) (.ret)),[.slot 3]⟩
def Ade:List Tmp:=[0,1,2,3]
def EF:Nat→Bv
 |0=>R 0 [m (i 0)] [] [2]
 |1=>R 1 [m (s 0),m (s 1),C 224 [r (l 0),r (l 1)] [0],m (l 2)] [(3,3)] []
 |2=>R 2 [m (s 0),C 208 [r (l 0)] [],n (l 1),m (l 2),G 3 (m (s 1)),G 3 (C 208 [r (l 4)] []),G 3 (n (l 5)),k (l 3) t (l 6),m (l 7),G 8 (m (s 3)),G 8 (e (l 9)),G 8 (y .eql (l 10) (i 0)),k (l 8) t (l 11)] [(4,12)] [0,1]
 |3=>R 3 [m (i 0)] [(2,0)] [3]
 |_=>R 4 [m (s 3),m (s 3),e (l 1),y .sub (l 2) (i 1),A 1 (l 0) (l 3),L (l 4),m (l 5)] [(2,6)] [3]
def Mq:BA:=⟨5,1,[0,1],0,false,[],j (d (EF 0)) (j (d (EF 1)) (j (j (d (EF 2)) (h 4 (j (d (EF 3)) (.ret)) (.skip))) (j (d (EF 4)) (.ret)))),[.slot 2]⟩
def Xt:List Tmp:=[0,1,4,5,21]
def C9:Nat→Bv
 |0=>R 0 [m (z 1)] [] [2]
 |1=>Q 1 [M 0 1 0 [],m (l 0)] [(3,1)] [] [] [w 0 3]
 |2=>R 2 [m (s 0),e (l 0),m (i 0)] [(5,0),(6,1),(7,2)] [0]
 |3=>R 3 [y .lss (s 7) (s 6)] [(8,0)] []
 |4=>R 4 [A 1 (s 5) (s 7),L (l 0),m (l 1)] [(4,2)] []
 |5=>R 5 [m (s 1),m (s 4),C 188 [r (l 0),r (l 1)] [],n (l 2)] [(9,3)] []
 |6=>Q 6 [m (s 3),m (s 4),M 1 1 1 [l 1],q 2 1 8 (l 0) (l 2),m (l 3)] [(3,4)] [4] [1,2] [w 2 3]
 |7=>R 7 [y .add (s 7) (i 1),m (l 0)] [(7,1)] []
 |_=>R 8 [m (s 3),m (l 0)] [(2,1)] [1,3,5,6,7]
def Q9:BA:=⟨10,4,[0,1],0,false,[],j (d (C9 0)) (j (d (C9 1)) (j (j (d (C9 2)) (.block 0 (.loop (j (d (C9 3)) (j (h 8 (.skip) (.exit 0)) (j (.block 1 (j (d (C9 4)) (j (d (C9 5)) (h 9 (d (C9 6)) (.skip))))) (d (C9 7)))))))) (j (d (C9 8)) (.ret)))),[.slot 2]⟩
def Adr:List Tmp:=[0,1,4,5,7,9,10,11,12,18]
def BJ:Nat→Bv
 |0=>R 0 [m (i 0)] [] [2]
 |1=>R 1 [m (s 0),C 232 [r (l 0)] [],n (l 1),m (l 2),G 3 (m (s 1)),G 3 (C 232 [r (l 4)] []),G 3 (n (l 5)),k (l 3) t (l 6)] [(5,7)] []
 |2=>R 2 [m (i 0)] [(2,0)] [0,1]
 |3=>R 3 [m (i 0)] [(3,0)] []
 |4=>R 4 [m (s 0),m (s 1),C 242 [r (l 0),r (l 1)] [0],e (l 2),m (i 0)] [(6,2),(7,3),(8,4)] [0,1]
 |5=>R 5 [y .lss (s 8) (s 7)] [(9,0)] []
 |6=>R 6 [A 1 (s 6) (s 8),L (l 0),m (l 1)] [(4,2)] []
 |7=>R 7 [m (s 3),m (s 4),I9.minmax true (l 0) [l 1],m (l 2)] [(3,3)] [4]
 |8=>R 8 [y .add (s 8) (i 1),m (l 0)] [(8,1)] []
 |_=>R 9 [m (s 3),m (l 0)] [(2,1)] [3,6,7,8]
def LX:BA:=⟨10,1,[0,1],0,false,[],j (d (BJ 0)) (j (j (d (BJ 1)) (h 5 (j (d (BJ 2)) (.ret)) (.skip))) (j (d (BJ 3)) (j (j (d (BJ 4)) (.block 0 (.loop (j (d (BJ 5)) (j (h 9 (.skip) (.exit 0)) (j (.block 1 (j (d (BJ 6)) (d (BJ 7)))) (d (BJ 8)))))))) (j (d (BJ 9)) (.ret))))),[.slot 2]⟩
def Yf:List Tmp:=[0,1,4,5,7,15,18,19,20,21]
def En:Nat→Bv
 |0=>R 0 [x 0 (s 0),m (z 1)] [(1,0)] [0,2]
 |1=>Q 1 [M 1 1 0 [],m (l 0)] [(3,1)] [] [] [w 1 6]
 |2=>R 2 [m (i 0)] [(4,0)] []
 |3=>R 3 [m (s 4),F (s 1) 3,L (l 1),e (l 2),y .lss (l 0) (l 3)] [(5,4)] []
 |4=>Q 5 [m (s 3),M 2 1 0 [],F (s 1) 3,L (l 2),m (s 4),A 4 (l 3) (l 4),F (l 5) 0,L (l 6),q 3 1 8 (l 1) (l 7),M 4 1 1 [l 8],p 5 1 24 (l 0) (l 9),m (l 10)] [(3,11)] [] [2,3,4,5] [w 5 6]
 |5=>R 4 [m (s 4),y .add (l 0) (i 1),m (l 1)] [(4,2)] []
 |_=>R 6 [m (s 3),m (l 0)] [(2,1)] [1,3,4]
def QY:BA:=⟨6,7,[0],0,false,[],j (d (En 0)) (j (d (En 1)) (j (j (d (En 2)) (.block 0 (.loop (j (j (d (En 3)) (h 5 (.skip) (.exit 0))) (j (.block 1 (d (En 4))) (d (En 5))))))) (j (d (En 6)) (.ret)))),[.slot 2]⟩
def Ad5:List Tmp:=[0,1,2,3,4,10]
def DL:Nat→Bv
 |0=>R 0 [x 0 (s 0),m (z 1)] [(1,0)] [0,2]
 |1=>Q 1 [M 1 1 0 [],m (l 0)] [(3,1)] [] [] [w 1 7]
 |2=>R 2 [F (s 1) 3,L (l 0),e (l 1),m (i 0)] [(5,1),(6,2),(7,3)] [1]
 |3=>R 3 [y .lss (s 7) (s 6)] [(8,0)] []
 |4=>Q 4 [A 4 (s 5) (s 7),P 4 (l 0),a 2 zE,W 4 (l 2) (l 1)] [(4,2)] [] [2] []
 |5=>Q 5 [m (s 3),M 3 1 0 [],F (s 4) 0,L (l 2),q 4 1 8 (l 1) (l 3),M 5 1 1 [l 4],p 6 1 24 (l 0) (l 5),m (l 6)] [(3,7)] [4] [3,4,5,6] [w 6 7]
 |6=>R 6 [y .add (s 7) (i 1),m (l 0)] [(7,1)] []
 |_=>R 7 [m (s 3),m (l 0)] [(2,1)] [3,5,6,7]
def Q8:BA:=⟨9,8,[0],0,false,[],j (d (DL 0)) (j (d (DL 1)) (j (j (d (DL 2)) (.block 0 (.loop (j (d (DL 3)) (j (h 8 (.skip) (.exit 0)) (j (.block 1 (j (d (DL 4)) (d (DL 5)))) (d (DL 6)))))))) (j (d (DL 7)) (.ret)))),[.slot 2]⟩
def AcO:List Tmp:=[0,1,2,3,5,8,9,10,11]
def Be:Nat→Bv
 |0=>R 0 [x 0 (s 0),m f] [(1,0)] [0,2]
 |1=>R 1 [m (i 0)] [(3,0)] []
 |2=>R 2 [m (s 3),F (s 1) 1,L (l 1),e (l 2),y .lss (l 0) (l 3)] [(5,4)] []
 |3=>T 4 (.append [D (F (s 1) 1) [] [],D (L (l 0)) [0] [],D (m (s 3)) [] [],D (A 1 (l 1) (l 2)) [] [],D (L (l 3)) [] [],D (C 71 [r (l 4),r (i 0),r (i 255)] []) [] [],D (n (l 5)) [] [],D (m (l 6)) [] [],H 7 (F (s 1) 1) [] [],H 7 (L (l 8)) [0] [],H 7 (m (s 3)) [] [],H 7 (A 1 (l 9) (l 10)) [] [],H 7 (L (l 11)) [] [],H 7 (C 250 [r (l 12)] []) [] [],D (k (l 7) t (l 13)) [] [],D (m (l 14)) [] [],H 15 (m (s 3)) [] [],H 15 (y .gtr (l 16) (i 0)) [] [],H 15 (m (l 17)) [] [],K 18 (F (s 1) 1) [] [],K 18 (L (l 19)) [0] [],K 18 (m (s 3)) [] [],K 18 (y .sub (l 21) (i 1)) [] [],K 18 (A 1 (l 20) (l 22)) [] [],K 18 (L (l 23)) [] [],K 18 (F (s 1) 1) [] [],K 18 (L (l 25)) [0] [],K 18 (m (s 3)) [] [],K 18 (A 1 (l 26) (l 27)) [] [],K 18 (L (l 28)) [] []] [K 18 (y .geq (l 24) (l 29)) [] [],H 15 (k (l 18) (l 30) f) [] [],D (k (l 15) t (l 31)) [] []]) [(6,32)] []
 |4=>R 5 [m f] [(2,0)] [1,3]
 |5=>R 3 [m (s 3),y .add (l 0) (i 1),m (l 1)] [(3,2)] []
 |6=>R 6 [m (i 0)] [(4,0)] [3]
 |7=>R 7 [m (s 4),F (s 1) 2,L (l 1),e (l 2),y .lss (l 0) (l 3)] [(7,4)] []
 |8=>R 9 [F (s 1) 2,L (l 0),m (s 4),A 4 (l 1) (l 2),P 4 (l 3),C 152 [r (l 4)] [],n (l 5)] [(8,6)] []
 |9=>R 10 [m f] [(2,0)] [1,4]
 |10=>R 8 [m (s 4),y .add (l 0) (i 1),m (l 1)] [(4,2)] []
 |_=>R 11 [F (s 1) 0,L (l 0),C 208 [r (l 1)] [],m (l 2),J 3 (F (s 1) 1),J 3 (L (l 4)),J 3 (e (l 5)),J 3 (y .leq (l 6) (i 5)),k (l 3) (l 7) f,m (l 8),J 9 (F (s 1) 2),J 9 (L (l 10)),J 9 (e (l 11)),J 9 (y .leq (l 12) (i 4)),k (l 9) (l 13) f,m (l 14),J 15 (F (s 1) 3),J 15 (L (l 16)),J 15 (C 71 [r (l 17),r (i 0),r (i 5)] []),k (l 15) (l 18) f,m (l 19)] [(2,20)] [1,4]
def L9:BA:=⟨9,1,[0],0,false,[],j (d (Be 0)) (j (j (d (Be 1)) (.block 0 (.loop (j (j (d (Be 2)) (h 5 (.skip) (.exit 0))) (j (.block 1 (j (d (Be 3)) (h 6 (j (d (Be 4)) (.ret)) (.skip)))) (d (Be 5))))))) (j (j (d (Be 6)) (.block 2 (.loop (j (j (d (Be 7)) (h 7 (.skip) (.exit 2))) (j (.block 3 (j (d (Be 8)) (h 8 (j (d (Be 9)) (.ret)) (.skip)))) (d (Be 10))))))) (j (d (Be 11)) (.ret)))),[.slot 2]⟩
def X5:List Tmp:=[0,1,2,3,4,9,44,49,58]
def JJ:Nat→Bv
 |0=>R 0 [m f] [] [1]
 |_=>R 1 [m (s 0),C 71 [r (l 0),r (i 1),r (i 2147483646)] [],m (l 1)] [(1,2)] [0]
def LM:BA:=⟨2,0,[0],0,false,[],j (d (JJ 0)) (j (d (JJ 1)) (.ret)),[.slot 1]⟩
def XY:List Tmp:=[0,2]
def D5:Nat→Bv
 |0=>R 0 [m f] [] [2]
 |1=>R 1 [m (i 0)] [(3,0)] []
 |2=>R 2 [m (s 3),m (s 1),e (l 1),y .lss (l 0) (l 2)] [(4,3)] []
 |3=>R 4 [m (s 0),m (s 1),m (s 3),A 1 (l 1) (l 2),L (l 3),C 168 [r (l 0),r (l 4)] [],y .eql (l 5) (i 0)] [(5,6)] []
 |4=>R 5 [m f] [(2,0)] [0,1,3]
 |5=>R 3 [m (s 3),y .add (l 0) (i 1),m (l 1)] [(3,2)] []
 |_=>R 6 [m (s 0),C 208 [r (l 0)] [],m (l 1)] [(2,2)] [0,1,3]
def Pf:BA:=⟨6,0,[0,1],0,false,[],j (d (D5 0)) (j (j (d (D5 1)) (.block 0 (.loop (j (j (d (D5 2)) (h 4 (.skip) (.exit 0))) (j (.block 1 (j (d (D5 3)) (h 5 (j (d (D5 4)) (.ret)) (.skip)))) (d (D5 5))))))) (j (d (D5 6)) (.ret))),[.slot 2]⟩
def AbO:List Tmp:=[0,1,4,5,9,18]
def Mj:Nat→Bv
 |0=>R 0 [x 0 (s 0),m f] [(2,0)] [0,3]
 |_=>R 1 [L (s 2),C 232 [r (l 0)] [],m (l 1),J 2 (m (s 1)),J 2 (.makeFunc 268 [s 2]),J 2 (C 269 [r (l 3),r (l 4)] []),J 2 (n (l 5)),k (l 2) (l 6) f,m (l 7)] [(3,8)] [1,2]
def O6:BA:=⟨4,1,[0,1],0,false,[],j (d (Mj 0)) (j (d (Mj 1)) (.ret)),[.slot 3]⟩
def AaX:List Tmp:=[0,1,2,4]
def DT:Nat→Bv
 |0=>R 0 [m f] [] [1]
 |1=>R 1 [m (s 0),e (l 0),m (i 0)] [(4,0),(5,1),(6,2)] []
 |2=>R 2 [y .lss (s 6) (s 5)] [(7,0)] []
 |3=>R 3 [m (s 6),A 1 (s 4) (s 6),L (l 1),m (l 0),m (l 2)] [(2,3),(3,4)] []
 |4=>R 4 [m (s 2),y .gtr (l 0) (i 0),m (l 1),J 2 (m (s 0)),J 2 (m (s 2)),J 2 (y .sub (l 4) (i 1)),J 2 (A 1 (l 3) (l 5)),J 2 (L (l 6)),J 2 (m (s 3)),J 2 (y .geq (l 7) (l 8)),k (l 2) (l 9) f] [(8,10)] [2,3]
 |5=>R 5 [m f] [(1,0)] [0,4,5,6]
 |6=>R 6 [y .add (s 6) (i 1),m (l 0)] [(6,1)] []
 |_=>R 7 [m (s 0),C 233 [r (l 0),r (i 0),r (i 255)] [],m (l 1)] [(1,2)] [0,4,5,6]
def QX:BA:=⟨9,0,[0],0,false,[],j (d (DT 0)) (j (j (d (DT 1)) (.block 0 (.loop (j (d (DT 2)) (j (h 7 (.skip) (.exit 0)) (j (.block 1 (j (d (DT 3)) (j (d (DT 4)) (h 8 (j (d (DT 5)) (.ret)) (.skip))))) (d (DT 6)))))))) (j (d (DT 7)) (.ret))),[.slot 1]⟩
def Ad6:List Tmp:=[0,2,3,4,5,6,7,8,22]
def JO:Nat→Bv
 |0=>R 0 [m f] [] [1]
 |_=>R 1 [m (s 0),C 114 [r (l 0),r (i 1),r (i 2147483646)] [],m (l 1)] [(1,2)] [0]
def LK:BA:=⟨2,0,[0],0,false,[],j (d (JO 0)) (j (d (JO 1)) (.ret)),[.slot 1]⟩
def X4:List Tmp:=[0,2]
def JE:Nat→Bv
 |0=>R 0 [x 0 (s 0),m f] [(1,0)] [0,2]
 |_=>R 1 (.append [F (s 1) 0,L (l 0),C 232 [r (l 1)] [],m (l 2),J 3 (F (s 1) 1),J 3 (L (l 4)),J 3 (e (l 5)),J 3 (y .leq (l 6) (i 5)),k (l 3) (l 7) f,m (l 8),J 9 (F (s 1) 1),J 9 (L (l 10)),J 9 (C 235 [r (l 11)] []),k (l 9) (l 12) f,m (l 13),J 14 (F (s 1) 1),J 14 (L (l 15)),J 14 (C 270 [r (l 16)] []),J 14 (n (l 17)),k (l 14) (l 18) f,m (l 19),J 20 (F (s 1) 2),J 20 (L (l 21)),J 20 (e (l 22)),J 20 (y .leq (l 23) (i 4)),k (l 20) (l 24) f,m (l 25),J 26 (F (s 1) 2),J 26 (L (l 27)),J 26 (C 272 [r (l 28),r (g 271)] [])] [J 26 (n (l 29)),k (l 26) (l 30) f,m (l 31),J 32 (F (s 1) 3),J 32 (L (l 33)),J 32 (C 114 [r (l 34),r (i 0),r (i 5)] []),k (l 32) (l 35) f,m (l 36)]) [(2,37)] [1]
def Mc:BA:=⟨3,1,[0],0,false,[],j (d (JE 0)) (j (d (JE 1)) (.ret)),[.slot 2]⟩
def XQ:List Tmp:=[0,1,2]
def Dh:Nat→Bv
 |0=>R 0 [m (z 1)] [] [2]
 |1=>Q 1 [M 0 1 0 [],m (l 0)] [(3,1)] [] [] [w 0 3]
 |2=>R 2 [m (i 0)] [(4,0)] []
 |3=>R 3 [m (s 4),m (s 0),e (l 1),y .lss (l 0) (l 2)] [(5,3)] []
 |4=>R 5 [m (s 1),m (s 0),m (s 4),A 1 (l 1) (l 2),L (l 3),C 166 [r (l 0),r (l 4)] []] [(6,5)] []
 |5=>Q 6 [m (s 3),m (s 0),m (s 4),A 1 (l 1) (l 2),L (l 3),M 1 1 1 [l 4],q 2 1 8 (l 0) (l 5),m (l 6)] [(3,7)] [] [1,2] [w 2 3]
 |6=>R 4 [m (s 4),y .add (l 0) (i 1),m (l 1)] [(4,2)] []
 |_=>R 7 [m (s 3),m (l 0)] [(2,1)] [0,1,3,4]
def O8:BA:=⟨7,4,[0,1],0,false,[],j (d (Dh 0)) (j (d (Dh 1)) (j (j (d (Dh 2)) (.block 0 (.loop (j (j (d (Dh 3)) (h 5 (.skip) (.exit 0))) (j (.block 1 (j (d (Dh 4)) (h 6 (d (Dh 5)) (.skip)))) (d (Dh 6))))))) (j (d (Dh 7)) (.ret)))),[.slot 2]⟩
def AbX:List Tmp:=[0,1,4,5,6,11,19]
def CP:Nat→Bv
 |0=>R 0 [m (z 1)] [] [2]
 |1=>Q 1 [M 0 1 0 [],m (l 0)] [(3,1)] [] [] [w 0 3]
 |2=>R 2 [m (s 0),e (l 0),m (i 0)] [(5,0),(6,1),(7,2)] [0]
 |3=>R 3 [y .lss (s 7) (s 6)] [(8,0)] []
 |4=>R 4 [A 1 (s 5) (s 7),L (l 0),m (l 1)] [(4,2)] []
 |5=>R 5 [m (s 1),m (s 4),C 188 [r (l 0),r (l 1)] []] [(9,2)] []
 |6=>Q 6 [m (s 3),m (s 4),M 1 1 1 [l 1],q 2 1 8 (l 0) (l 2),m (l 3)] [(3,4)] [4] [1,2] [w 2 3]
 |7=>R 7 [y .add (s 7) (i 1),m (l 0)] [(7,1)] []
 |_=>R 8 [m (s 3),m (l 0)] [(2,1)] [1,3,5,6,7]
def PS:BA:=⟨10,4,[0,1],0,false,[],j (d (CP 0)) (j (d (CP 1)) (j (j (d (CP 2)) (.block 0 (.loop (j (d (CP 3)) (j (h 8 (.skip) (.exit 0)) (j (.block 1 (j (d (CP 4)) (j (d (CP 5)) (h 9 (d (CP 6)) (.skip))))) (d (CP 7)))))))) (j (d (CP 8)) (.ret)))),[.slot 2]⟩
def Abt:List Tmp:=[0,1,4,5,7,9,10,11,12,17]
def Dc:Nat→Bv
 |0=>R 0 [m f] [] [2]
 |_=>R 1 [m (s 0),m (s 1),C 405 [r (l 0),r (l 1)] [],y .geq (l 2) (i 0),m (l 3)] [(2,4)] [0,1]
def Dz:BA:=⟨3,0,[0,1],0,false,[],j (d (Dc 0)) (j (d (Dc 1)) (.ret)),[.slot 2]⟩
def Iy:List Tmp:=[0,1,4]
def JH:Nat→Bv
 |0=>R 0 [m f] [] [2]
 |_=>R 1 [L (s 1),m (s 0),C 190 [r (l 0),r (l 1)] [],y .eql (l 2) (i 0),m (l 3)] [(2,4)] [0,1]
def Mt:BA:=⟨3,0,[0,1],0,false,[],j (d (JH 0)) (j (d (JH 1)) (.ret)),[.slot 2]⟩
def Xq:List Tmp:=[0,1,3]
def Cq:Nat→Bv
 |0=>R 0 [m f] [] [2]
 |_=>R 1 [m (s 0),m (s 1),C 406 [r (l 0),r (l 1)] [],y .geq (l 2) (i 0),m (l 3)] [(2,4)] [0,1]
def Cy:BA:=⟨3,0,[0,1],0,false,[],j (d (Cq 0)) (j (d (Cq 1)) (.ret)),[.slot 2]⟩
def Gq:List Tmp:=[0,1,4]
def Ho:Nat→Bv
 |0=>R 0 [x 0 (s 0),m f] [(1,0)] [0,2]
 |_=>R 1 [P 4 (s 1),C 183 [r (l 0)] [],n (l 1),m (l 2)] [(2,3)] [1]
def Jv:BA:=⟨3,1,[0],0,false,[],j (d (Ho 0)) (j (d (Ho 1)) (.ret)),[.slot 2]⟩
def Ve:List Tmp:=[0,1,2]
def Aq:Nat→Bv
 |0=>R 0 [m (i 0)] [] [2]
 |1=>R 1 [m (s 0),e (l 0),m (i 0)] [(4,1),(5,2)] []
 |2=>R 2 [y .lss (s 5) (s 4)] [(6,0)] []
 |3=>R 3 [m (s 5),m (l 0)] [(3,1)] []
 |4=>R 4 [m (s 1),m (s 0),m (s 3),A 1 (l 1) (l 2),L (l 3),I9.callv (l 0) [r (l 4)] []] [(7,5)] []
 |5=>R 5 [m (s 3),m (l 0)] [(2,1)] [0,1,3,4,5]
 |6=>R 6 [y .add (s 5) (i 1),m (l 0)] [(5,1)] [3]
 |_=>R 7 [m (i (-1))] [(2,0)] [0,1,4,5]
def Ec:BA:=⟨8,0,[0,1],0,false,[],j (d (Aq 0)) (j (j (d (Aq 1)) (.block 0 (.loop (j (d (Aq 2)) (j (h 6 (.skip) (.exit 0)) (j (.block 1 (j (d (Aq 3)) (j (d (Aq 4)) (h 7 (j (d (Aq 5)) (.ret)) (.skip))))) (d (Aq 6)))))))) (j (d (Aq 7)) (.ret))),[.slot 2]⟩
def JR:List Tmp:=[0,1,4,5,7,8,9,16]
def Al:Nat→Bv
 |0=>R 0 [m (i 0)] [] [2]
 |1=>R 1 [m (s 0),e (l 0),m (i 0)] [(4,1),(5,2)] []
 |2=>R 2 [y .lss (s 5) (s 4)] [(6,0)] []
 |3=>R 3 [m (s 5),m (l 0)] [(3,1)] []
 |4=>R 4 [m (s 1),m (s 0),m (s 3),A 4 (l 1) (l 2),P 4 (l 3),I9.callv (l 0) [r (l 4)] []] [(7,5)] []
 |5=>R 5 [m (s 3),m (l 0)] [(2,1)] [0,1,3,4,5]
 |6=>R 6 [y .add (s 5) (i 1),m (l 0)] [(5,1)] [3]
 |_=>R 7 [m (i (-1))] [(2,0)] [0,1,4,5]
def CY:BA:=⟨8,0,[0,1],0,false,[],j (d (Al 0)) (j (j (d (Al 1)) (.block 0 (.loop (j (d (Al 2)) (j (h 6 (.skip) (.exit 0)) (j (.block 1 (j (d (Al 3)) (j (d (Al 4)) (h 7 (j (d (Al 5)) (.ret)) (.skip))))) (d (Al 6)))))))) (j (d (Al 7)) (.ret))),[.slot 2]⟩
def GY:List Tmp:=[0,1,4,5,7,8,9,16]
def DJ:Nat→Bv
 |0=>R 0 [m (z 1)] [] [2]
 |1=>Q 1 [M 0 1 0 [],m (l 0)] [(3,1)] [] [] [w 0 3]
 |2=>R 2 [m (i 0)] [(4,0)] []
 |3=>R 3 [m (s 4),m (s 0),e (l 1),y .lss (l 0) (l 2)] [(5,3)] []
 |4=>R 5 [m (s 1),m (s 0),m (s 4),A 1 (l 1) (l 2),L (l 3),C 166 [r (l 0),r (l 4)] [],n (l 5)] [(6,6)] []
 |5=>Q 6 [m (s 3),m (s 0),m (s 4),A 1 (l 1) (l 2),L (l 3),M 1 1 1 [l 4],q 2 1 8 (l 0) (l 5),m (l 6)] [(3,7)] [] [1,2] [w 2 3]
 |6=>R 4 [m (s 4),y .add (l 0) (i 1),m (l 1)] [(4,2)] []
 |_=>R 7 [m (s 3),m (l 0)] [(2,1)] [0,1,3,4]
def QH:BA:=⟨7,4,[0,1],0,false,[],j (d (DJ 0)) (j (d (DJ 1)) (j (j (d (DJ 2)) (.block 0 (.loop (j (j (d (DJ 3)) (h 5 (.skip) (.exit 0))) (j (.block 1 (j (d (DJ 4)) (h 6 (d (DJ 5)) (.skip)))) (d (DJ 6))))))) (j (d (DJ 7)) (.ret)))),[.slot 2]⟩
def Ac5:List Tmp:=[0,1,4,5,6,11,20]
def BV:Nat→Bv
 |0=>R 0 [m (z 1)] [] [2]
 |1=>Q 1 [M 0 1 0 [],m (l 0)] [(3,1)] [] [] [w 0 3]
 |2=>R 2 [m (i 0)] [(4,0)] []
 |3=>R 3 [m (s 4),m (s 1),e (l 1),y .lss (l 0) (l 2),m (l 3),J 4 (m (s 1)),J 4 (C 208 [r (l 5)] []),k (l 4) (l 6) f] [(5,7)] []
 |4=>R 5 [m (s 0),m (s 1),m (s 4),m (s 4),y .add (l 3) (i 1),I9.slice 1 (l 1) (some (l 2)) (some (l 4)),C 260 [r (l 0),r (l 5)] [],n (l 6)] [(6,7)] []
 |5=>Q 6 [m (s 3),m (s 1),m (s 4),A 1 (l 1) (l 2),L (l 3),M 1 1 1 [l 4],q 2 1 8 (l 0) (l 5),m (l 6)] [(3,7)] [] [1,2] [w 2 3]
 |6=>R 4 [m (s 4),y .add (l 0) (i 1),m (l 1)] [(4,2)] []
 |_=>R 7 [m (s 3),m (l 0)] [(2,1)] [0,1,3,4]
def JC:BA:=⟨7,4,[0,1],0,false,[],j (d (BV 0)) (j (d (BV 1)) (j (j (d (BV 2)) (.block 0 (.loop (j (j (d (BV 3)) (h 5 (.skip) (.exit 0))) (j (.block 1 (j (d (BV 4)) (h 6 (d (BV 5)) (.skip)))) (d (BV 6))))))) (j (d (BV 7)) (.ret)))),[.slot 2]⟩
def UM:List Tmp:=[0,1,4,5,6,15,25]
def AX:Nat→Bv
 |0=>R 0 [m (z 1)] [] [2]
 |1=>Q 1 [M 0 1 0 [],m (l 0)] [(3,1)] [] [] [w 0 9]
 |2=>R 2 [m (s 1),C 232 [r (l 0)] [],n (l 1)] [(6,2)] []
 |3=>R 3 [m (s 3),m (l 0)] [(2,1)] [0,1,3]
 |4=>R 4 [m (s 1),e (l 0),m (i 0)] [(7,0),(8,1),(9,2)] [1]
 |5=>R 5 [y .lss (s 9) (s 8)] [(10,0)] []
 |6=>R 6 [A 1 (s 7) (s 9),L (l 0),m (l 1)] [(4,2)] []
 |7=>Q 7 [m (s 0),m (s 4),M 1 1 1 [l 1],C 273 [r (l 2)] [2,3],C 274 [r (l 0),r (l 3)] [4,5],m (l 4),X (l 5) 0,X (l 5) 1,a 6 [N 1,N 2],W 2 (l 8) (l 6),m (l 7)] [(5,10)] [] [1,2,3,4,5,6] []
 |8=>R 8 [m (s 5),n (l 0)] [(11,1)] [5]
 |9=>Q 9 [m (s 3),m (s 4),M 7 1 1 [l 1],q 8 1 8 (l 0) (l 2),m (l 3)] [(3,4)] [4] [7,8] [w 8 9]
 |10=>R 10 [y .add (s 9) (i 1),m (l 0)] [(9,1)] []
 |_=>R 11 [m (s 3),m (l 0)] [(2,1)] [0,3,7,8,9]
def JI:BA:=⟨12,10,[0,1],0,false,[],j (d (AX 0)) (j (d (AX 1)) (j (j (d (AX 2)) (h 6 (j (d (AX 3)) (.ret)) (.skip))) (j (j (d (AX 4)) (.block 0 (.loop (j (d (AX 5)) (j (h 10 (.skip) (.exit 0)) (j (.block 1 (j (d (AX 6)) (j (d (AX 7)) (j (d (AX 8)) (h 11 (d (AX 9)) (.skip)))))) (d (AX 10)))))))) (j (d (AX 11)) (.ret))))),[.slot 2]⟩
def Uw:List Tmp:=[0,1,4,5,7,9,13,15,16,17,18,30]
def Ey:Nat→Bv
 |0=>R 0 [m f] [] [2]
 |1=>R 1 [m (s 1),C 208 [r (l 0)] [],n (l 1)] [(4,2)] []
 |2=>R 2 [m f] [(2,0)] [0,1]
 |3=>R 3 [m (s 0),m (s 1),I9.slice 1 (l 1) none (some (i 1)),C 256 [r (l 2)] [0,1],C 286 [r (l 0),r (l 3)] [2,3],m (l 4),X (l 5) 0,X (l 5) 1,a 4 [N 1,N 2],W 2 (l 8) (l 6),m (l 7)] [(3,10)] [0,1]
 |_=>R 4 [m (s 3),m (l 0)] [(2,1)] [3]
def MG:BA:=⟨5,5,[0,1],0,false,[],j (d (Ey 0)) (j (j (d (Ey 1)) (h 4 (j (d (Ey 2)) (.ret)) (.skip))) (j (d (Ey 3)) (j (d (Ey 4)) (.ret)))),[.slot 2]⟩
def WY:List Tmp:=[0,1,4,6,9]
def CJ:Nat→Bv
 |0=>R 0 [x 0 (s 1),a 1 [N 1,N 2],m f] [(2,0),(3,1)] [1,4]
 |1=>R 1 [P 2 (s 2),C 292 [r (l 0)] [],n (l 1),m (l 2),G 3 (m (s 0)),G 3 (e (l 4)),G 3 (y .gtr (l 5) (i 4)),k (l 3) t (l 6)] [(8,7)] []
 |2=>R 2 [b [N 1,N 2] [],W 2 (s 3) (l 0),m f] [(4,2)] [0,2]
 |3=>Q 3 [P 2 (s 2),C 293 [r (l 0)] [2,3],a 4 [N 1,N 2],W 2 (l 2) (l 1),m t] [(5,2),(6,4)] [2] [] [w 2 7,w 3 8]
 |4=>R 4 [m (i 0)] [(7,0)] []
 |5=>R 5 [m (s 7),m (s 0),e (l 1),y .lss (l 0) (l 2),m (l 3),J 4 (m (s 6)),k (l 4) (l 5) f] [(9,6)] []
 |6=>Y 7 [D (m (s 0)) [] [],D (m (s 7)) [] [],D (A 4 (l 0) (l 1)) [] [],D (P 4 (l 2)) [] [],D (P 2 (s 5)) [4] [],D (C 294 [r (l 3),r (l 4)] [5,6]) [5,6,7,8] [5,6],D (m (l 5)) [] [],D (X (l 6) 0) [] [],D (X (l 6) 1) [] [],D (W 2 (s 5) (l 7)) [4] [4],D (m (l 8)) [] []] [(6,10)] [] [5,6] [w 5 7,w 6 8]
 |7=>R 6 [m (s 7),y .add (l 0) (i 1),m (l 1)] [(7,2)] []
 |_=>R 8 [P 2 (s 5),m (s 6),W 2 (s 3) (l 0),m (l 1)] [(4,3)] [0,5,6,7]
def PN:BA:=⟨10,9,[0,1],0,false,[],j (d (CJ 0)) (j (j (d (CJ 1)) (h 8 (j (d (CJ 2)) (.ret)) (.skip))) (j (d (CJ 3)) (j (j (d (CJ 4)) (.block 0 (.loop (j (j (d (CJ 5)) (h 9 (.skip) (.exit 0))) (j (.block 1 (d (CJ 6))) (d (CJ 7))))))) (j (d (CJ 8)) (.ret))))),[.cell 3 (some 2),.slot 4]⟩
def AaW:List Tmp:=[0,1,3,4,5,6,7,8,16,26]
def JD:Nat→Bv
 |0=>R 0 [a 0 [N 1,N 2]] [(1,0)] []
 |_=>R 1 [M 1 1 0 [],m (s 0),q 2 1 8 (l 0) (l 1),b [N 1,N 2] [(0,1,l 2)],W 2 (s 1) (l 3)] [] [0]
def Mx:BA:=⟨2,3,[0],0,false,[],j (d (JD 0)) (j (d (JD 1)) (.ret)),[.cell 1 (some 2)]⟩
def Xd:List Tmp:=[0,2]
def BD:Nat→Bv
 |0=>R 0 [x 0 (s 1),a 1 [N 1,N 2],m f] [(2,0),(3,1)] [1,4]
 |1=>R 1 [m (s 0),e (l 0),y .gtr (l 1) (i 4),m (l 2),G 3 (P 2 (s 2)),G 3 (C 285 [r (l 4)] []),G 3 (n (l 5)),k (l 3) t (l 6)] [(9,7)] []
 |2=>R 2 [b [N 1,N 2] [],W 2 (s 3) (l 0),m f] [(4,2)] [0,2]
 |3=>Q 3 [P 2 (s 2),C 301 [r (l 0)] [2,3],a 4 [N 1,N 2],W 2 (l 2) (l 1)] [(5,2)] [2] [] [w 2 8,w 3 9]
 |4=>R 4 [m (i 0)] [(6,0)] []
 |5=>R 5 [m (s 6),m (s 0),e (l 1),y .lss (l 0) (l 2)] [(10,3)] []
 |6=>Y 7 [D (m (s 0)) [] [],D (m (s 6)) [] [],D (A 4 (l 0) (l 1)) [] [],D (P 4 (l 2)) [] [],D (P 2 (s 5)) [4] [],D (C 258 [r (l 3),r (l 4)] [5,6]) [5,6,8,9] [5,6],D (m (l 5)) [] [],D (X (l 6) 0) [] [],D (X (l 6) 1) [] [],D (a 7 [N 1,N 2]) [7] [7],D (W 2 (l 9) (l 7)) [7] [7],D (m (l 8)) [] []] [(7,9),(8,11)] [] [5,6,7] []
 |7=>R 8 [m (s 8),n (l 0)] [(11,1)] [8]
 |8=>R 9 [b [N 1,N 2] [],W 2 (s 3) (l 0),m f] [(4,2)] [0,5,6,7]
 |9=>Q 10 [P 2 (s 7),W 2 (s 5) (l 0)] [] [7] [] [w 5 8,w 6 9]
 |10=>R 6 [m (s 6),y .add (l 0) (i 1),m (l 1)] [(6,2)] []
 |_=>R 11 [P 2 (s 5),W 2 (s 3) (l 0),m t] [(4,2)] [0,5,6]
def Pk:BA:=⟨12,10,[0,1],0,false,[],j (d (BD 0)) (j (j (d (BD 1)) (h 9 (j (d (BD 2)) (.ret)) (.skip))) (j (d (BD 3)) (j (j (d (BD 4)) (.block 0 (.loop (j (j (d (BD 5)) (h 10 (.skip) (.exit 0))) (j (.block 1 (j (d (BD 6)) (j (j (d (BD 7)) (h 11 (j (d (BD 8)) (.ret)) (.skip))) (d (BD 9))))) (d (BD 10))))))) (j (d (BD 11)) (.ret))))),[.cell 3 (some 2),.slot 4]⟩
def Aba:List Tmp:=[0,1,3,4,5,6,7,8,9,17,24,37]
def Kz:Nat→Bv
 |0=>R 0 [x 0 (s 0),a 1 [N 1,N 2]] [(1,0),(2,1)] [0]
 |_=>T 1 [D (M 2 1 0 []) [2] [2],D (F (s 1) 0) [] [],D (L (l 1)) [0] [],D (q 3 1 8 (l 0) (l 2)) [2,3] [2,3],D (F (s 1) 1) [] [],D (L (l 4)) [0] [],D (C 318 [r (l 5)] [4]) [4] [4],D (b [N 1,N 2] [(0,1,l 3),(1,1,l 6)]) [] [],D (W 2 (s 2) (l 7)) [1] [1]] [] [1]
def NA:BA:=⟨3,5,[0],0,false,[],j (d (Kz 0)) (j (d (Kz 1)) (.ret)),[.cell 2 (some 2)]⟩
def ZY:List Tmp:=[0,1,2]
def Mk:Nat→Bv
 |0=>R 0 [x 0 (s 0),a 1 [N 1,N 2]] [(1,0),(2,1)] [0]
 |_=>T 1 [D (M 2 1 0 []) [2] [2],D (F (s 1) 0) [] [],D (L (l 1)) [0] [],D (q 3 1 8 (l 0) (l 2)) [2,3] [2,3],D (F (s 1) 1) [] [],D (L (l 4)) [0] [],D (C 311 [r (l 5)] [4]) [4] [4],D (b [N 1,N 2] [(0,1,l 3),(1,1,l 6)]) [] [],D (W 2 (s 2) (l 7)) [1] [1]] [] [1]
def Pz:BA:=⟨3,5,[0],0,false,[],j (d (Mk 0)) (j (d (Mk 1)) (.ret)),[.cell 2 (some 2)]⟩
def Aa5:List Tmp:=[0,1,2]
def Ma:Nat→Bv
 |0=>R 0 [m (z 2)] [] [1]
 |_=>R 1 [m (s 0),C 298 [r (l 0),r (g 350)] [0],m (l 1)] [(1,2)] [0]
def PO:BA:=⟨2,1,[0],0,false,[],j (d (Ma 0)) (j (d (Ma 1)) (.ret)),[.slot 1]⟩
def Ab3:List Tmp:=[0,2]
def NI:Nat→Bv
 |0=>R 0 [m (z 2)] [] [1]
 |_=>R 1 [m (s 0),m (s 0),C 308 [r (l 1)] [0],C 331 [r (l 0),r (l 2)] [1],m (l 3)] [(1,4)] [0]
def Rf:BA:=⟨2,2,[0],0,false,[],j (d (NI 0)) (j (d (NI 1)) (.ret)),[.slot 1]⟩
def Adv:List Tmp:=[0,2]
def JA:Nat→Bv
 |0=>R 0 [m f] [] [0,1]
 |_=>R 1 [m t] [(1,0)] []
def Ml:BA:=⟨2,0,[0],0,false,[],j (d (JA 0)) (j (d (JA 1)) (.ret)),[.slot 1]⟩
def Xy:List Tmp:=[0,2]
def DN:Nat→Bv
 |0=>R 0 [m (z 2)] [] [2]
 |1=>Q 1 [M 0 2 0 [],m (l 0)] [(3,1)] [] [] [w 0 5]
 |2=>R 2 [m (i 0)] [(4,0)] []
 |3=>R 3 [m (s 4),m (s 0),e (l 1),y .lss (l 0) (l 2)] [(5,3)] []
 |4=>R 5 [m (s 1),m (s 0),m (s 4),A 2 (l 1) (l 2),F (l 3) 0,L (l 4),C 166 [r (l 0),r (l 5)] []] [(6,6)] []
 |5=>Y 6 [D (m (s 3)) [] [],D (m (s 0)) [] [],D (m (s 4)) [] [],D (A 2 (l 1) (l 2)) [] [],D (F (l 3) 0) [] [],D (L (l 4)) [] [],D (M 1 1 0 []) [1] [1],D (m (s 0)) [] [],D (m (s 4)) [] [],D (A 2 (l 7) (l 8)) [] [],D (F (l 9) 1) [] [],D (L (l 10)) [] [],D (q 2 1 8 (l 6) (l 11)) [1,2] [1,2],D (b [o,N 1] [(0,1,l 5),(1,1,l 12)]) [] [],D (M 3 2 1 [l 13]) [2,3] [2,3],D (p 4 2 32 (l 0) (l 14)) [3,4,5] [3,4,5],D (m (l 15)) [] []] [(3,16)] [] [1,2,3,4] [w 4 5]
 |6=>R 4 [m (s 4),y .add (l 0) (i 1),m (l 1)] [(4,2)] []
 |_=>R 7 [m (s 3),m (l 0)] [(2,1)] [0,1,3,4]
def QR:BA:=⟨7,6,[0,1],0,false,[],j (d (DN 0)) (j (d (DN 1)) (j (j (d (DN 2)) (.block 0 (.loop (j (j (d (DN 3)) (h 5 (.skip) (.exit 0))) (j (.block 1 (j (d (DN 4)) (h 6 (d (DN 5)) (.skip)))) (d (DN 6))))))) (j (d (DN 7)) (.ret)))),[.slot 2]⟩
def AcM:List Tmp:=[0,1,4,5,6,11,20]
def EM:Nat→Bv
 |0=>R 0 [m (z 1)] [] [1]
 |1=>Q 1 [M 0 1 0 [],m (l 0)] [(2,1)] [] [] [w 0 3]
 |2=>R 2 [m (i 0)] [(3,0)] []
 |3=>R 3 [m (s 3),m (s 0),e (l 1),y .lss (l 0) (l 2)] [(4,3)] []
 |4=>Q 5 [m (s 2),m (s 0),m (s 3),A 2 (l 1) (l 2),F (l 3) 0,L (l 4),M 1 1 1 [l 5],q 2 1 8 (l 0) (l 6),m (l 7)] [(2,8)] [] [1,2] [w 2 3]
 |5=>R 4 [m (s 3),y .add (l 0) (i 1),m (l 1)] [(3,2)] []
 |_=>R 6 [m (s 2),m (l 0)] [(1,1)] [0,2,3]
def Ti:BA:=⟨5,4,[0],0,false,[],j (d (EM 0)) (j (d (EM 1)) (j (j (d (EM 2)) (.block 0 (.loop (j (j (d (EM 3)) (h 4 (.skip) (.exit 0))) (j (.block 1 (d (EM 4))) (d (EM 5))))))) (j (d (EM 6)) (.ret)))),[.slot 1]⟩
def Aga:List Tmp:=[0,2,3,4,9]
def Ih:Nat→Bv
 |0=>R 0 [x 0 (s 0),a 1 zD] [(2,0),(3,1)] [0]
 |1=>R 1 [m (s 1),F (s 2) 3,L (l 1),e (l 2),y .sub (l 3) (i 1),C 71 [r (l 0),r (i 0),r (l 4)] [],n (l 5)] [(4,6)] []
 |2=>R 2 [b zD [],W 5 (s 3) (l 0)] [] [1,2]
 |_=>T 3 [D (F (s 2) 3) [] [],D (L (l 0)) [0] [],D (m (s 1)) [] [],D (A 4 (l 1) (l 2)) [] [],D (P 4 (l 3)) [] [],D (F (s 2) 0) [] [],D (L (l 5)) [0] [],D (F (s 2) 1) [] [],D (L (l 7)) [0] [],D (F (s 2) 2) [] [],D (L (l 9)) [0] [],D (F (s 2) 12) [] [],D (L (l 11)) [0] [],D (C 212 [r (l 12)] []) [] [],D (y .mul (i 16) (l 13)) [] [],D (m (s 1)) [] [],D (y .add (l 14) (l 15)) [] [],D (C 213 [r (l 4),r (l 6),r (l 8),r (l 10),r (l 16)] [2,3]) [2,3] [2,3],D (W 5 (s 3) (l 17)) [1] [1]] [] [1,2]
def TD:BA:=⟨5,4,[0,1],0,false,[],j (d (Ih 0)) (j (j (d (Ih 1)) (h 4 (j (d (Ih 2)) (.ret)) (.skip))) (j (d (Ih 3)) (.ret))),[.cell 3 (some 5)]⟩
def AeQ:List Tmp:=[0,1,2,4,11]
def BZ:Nat→Bv
 |0=>R 0 [x 0 (s 0),m f] [(1,0)] [0,2]
 |1=>R 1 [m (i 0)] [(3,0)] []
 |2=>R 2 [m (s 3),F (s 1) 3,L (l 1),e (l 2),y .lss (l 0) (l 3)] [(6,4)] []
 |3=>Q 4 [F (s 1) 3,L (l 0),m (s 3),A 4 (l 1) (l 2),P 4 (l 3),a 1 zE,W 4 (l 5) (l 4)] [(4,5)] [] [1] []
 |4=>Q 5 [P 15 (s 1),m (s 3),C 142 [r (l 0),r (l 1)] [2,3],a 4 zD,W 5 (l 3) (l 2)] [(5,3)] [] [2,3,4] []
 |5=>T 6 [D (F (s 4) 2) [] [],D (L (l 0)) [1] [],D (C 220 [r (l 1)] []) [] [],D (m (l 2)) [] [],K 3 (F (s 5) 0) [] [],K 3 (F (l 4) 0) [] [],K 3 (L (l 5)) [4] [],K 3 (n (l 6)) [] [],K 3 (m (l 7)) [] [],H 8 (F (s 5) 0) [] [],H 8 (F (l 9) 1) [] [],H 8 (L (l 10)) [4] [],H 8 (F (s 1) 0) [] [],H 8 (L (l 12)) [0] [],H 8 (F (s 4) 0) [] [],H 8 (L (l 14)) [1] [],H 8 (C 168 [r (l 13),r (l 15)] []) [] [],H 8 (y .neq (l 11) (l 16)) [] [],K 3 (k (l 8) t (l 17)) [] [],D (k (l 3) (l 18) f) [] []] [(7,19)] [4,5]
 |6=>R 7 [m f] [(2,0)] [1,3]
 |7=>R 3 [m (s 3),y .add (l 0) (i 1),m (l 1)] [(3,2)] []
 |_=>T 8 [D (F (s 1) 0) [] [],D (L (l 0)) [0] [],D (P 15 (s 1)) [0] [],D (C 95 [r (l 2)] [5]) [5] [5],D (C 211 [r (l 1),r (l 3)] []) [5] [],D (m (l 4)) [] []] [(2,5)] [1,3]
def LQ:BA:=⟨8,6,[0],0,false,[],j (d (BZ 0)) (j (j (d (BZ 1)) (.block 0 (.loop (j (j (d (BZ 2)) (h 6 (.skip) (.exit 0))) (j (.block 1 (j (d (BZ 3)) (j (d (BZ 4)) (j (d (BZ 5)) (h 7 (j (d (BZ 6)) (.ret)) (.skip)))))) (d (BZ 7))))))) (j (d (BZ 8)) (.ret))),[.slot 2]⟩
def XH:List Tmp:=[0,1,2,3,4,5,10,40]
def Ia:Nat→Bv
 |0=>R 0 [x 0 (s 0),a 1 zD] [(2,0),(3,1)] [0]
 |1=>R 1 [P 15 (s 2),m (s 1),C 117 [r (l 0),r (l 1)] [],n (l 2)] [(4,3)] []
 |2=>R 2 [b zD [],W 5 (s 3) (l 0)] [] [1,2]
 |_=>T 3 [D (F (s 2) 3) [] [],D (L (l 0)) [0] [],D (m (s 1)) [] [],D (A 4 (l 1) (l 2)) [] [],D (P 4 (l 3)) [] [],D (F (s 2) 0) [] [],D (L (l 5)) [0] [],D (F (s 2) 1) [] [],D (L (l 7)) [0] [],D (F (s 2) 2) [] [],D (L (l 9)) [0] [],D (F (s 2) 12) [] [],D (L (l 11)) [0] [],D (.minmax false (l 12) [i 100000]) [] [],D (.minmax true (l 13) [i (-100000)]) [] [],D (y .mul (i 16) (l 14)) [] [],D (m (s 1)) [] [],D (y .add (l 15) (l 16)) [] [],D (C 227 [r (l 4),r (l 6),r (l 8),r (l 10),r (l 17)] [2,3]) [2,3] [2,3],D (W 5 (s 3) (l 18)) [1] [1]] [] [1,2]
def TA:BA:=⟨5,4,[0,1],0,false,[],j (d (Ia 0)) (j (j (d (Ia 1)) (h 4 (j (d (Ia 2)) (.ret)) (.skip))) (j (d (Ia 3)) (.ret))),[.cell 3 (some 5)]⟩
def Ahc:List Tmp:=[0,1,2,4,8]
def Br:Nat→Bv
 |0=>R 0 [x 0 (s 0),m f] [(1,0)] [0,2]
 |1=>T 1 [D (F (s 1) 0) [] [],D (L (l 0)) [0] [],D (P 15 (s 1)) [0] [],D (C 123 [r (l 2)] [1]) [1] [1],D (C 234 [r (l 1),r (l 3)] []) [1] [],D (n (l 4)) [] []] [(6,5)] []
 |2=>R 2 [m f] [(2,0)] [1]
 |3=>R 3 [F (s 1) 3,L (l 0),e (l 1),m (i 0)] [(7,1),(8,2),(9,3)] []
 |4=>R 4 [y .lss (s 9) (s 8)] [(10,0)] []
 |5=>Q 5 [m (s 9),A 4 (s 7) (s 9),P 4 (l 1),a 2 zE,m (l 0),W 4 (l 3) (l 2)] [(3,4),(4,3)] [] [2] []
 |6=>Q 6 [P 15 (s 1),m (s 3),C 173 [r (l 0),r (l 1)] [3,4],I9.field (some 3) (l 2) 0,a 5 [c,o,N 1],W 3 (l 4) (l 3)] [(5,4)] [3] [3,4,5] []
 |7=>T 7 [D (F (s 4) 2) [] [],D (L (l 0)) [2] [],D (C 246 [r (l 1)] []) [] [],D (m (l 2)) [] [],K 3 (F (s 5) 0) [] [],K 3 (L (l 4)) [5] [],K 3 (n (l 5)) [] [],K 3 (m (l 6)) [] [],H 7 (F (s 5) 1) [] [],H 7 (L (l 8)) [5] [],H 7 (F (s 1) 0) [] [],H 7 (L (l 10)) [0] [],H 7 (F (s 4) 0) [] [],H 7 (L (l 12)) [2] [],H 7 (C 190 [r (l 11),r (l 13)] []) [] [],H 7 (y .neq (l 9) (l 14)) [] [],K 3 (k (l 7) t (l 15)) [] [],D (k (l 3) (l 16) f) [] []] [(11,17)] [4,5]
 |8=>R 8 [m f] [(2,0)] [1,7,8,9]
 |9=>R 9 [y .add (s 9) (i 1),m (l 0)] [(9,1)] []
 |_=>R 10 [m t] [(2,0)] [1,7,8,9]
def LC:BA:=⟨12,6,[0],0,false,[],j (d (Br 0)) (j (j (d (Br 1)) (h 6 (j (d (Br 2)) (.ret)) (.skip))) (j (j (d (Br 3)) (.block 0 (.loop (j (d (Br 4)) (j (h 10 (.skip) (.exit 0)) (j (.block 1 (j (d (Br 5)) (j (d (Br 6)) (j (d (Br 7)) (h 11 (j (d (Br 8)) (.ret)) (.skip)))))) (d (Br 9)))))))) (j (d (Br 10)) (.ret)))),[.slot 2]⟩
def XM:List Tmp:=[0,1,2,3,4,5,11,13,14,15,16,41]
def GJ:Nat→Bv
 |0=>R 0 [x 0 (s 0),a 1 zD] [(5,0),(6,1)] [0]
 |1=>R 1 [P 4 (s 5),C 207 [r (l 0)] [],n (l 1)] [(7,2)] []
 |2=>R 2 [b zD [],W 5 (s 6) (l 0)] [] [1,2,3,4,5]
 |_=>T 3 [D (P 4 (s 5)) [0] [],D (m (s 4)) [] [],D (C 251 [r (l 0),r (l 1)] [2,3]) [2,3] [2,3],D (F (s 5) 2) [] [],D (L (l 3)) [0] [],D (m (s 1)) [] [],D (m (s 2)) [] [],D (m (s 3)) [] [],D (C 252 [r (l 2),r (l 4),r (l 5),r (l 6),r (l 7)] [4,5]) [2,3,4,5] [4,5],D (W 5 (s 6) (l 8)) [1] [1]] [] [1,2,3,4,5]
def QN:BA:=⟨8,6,[0,1,2,3,4],0,false,[],j (d (GJ 0)) (j (j (d (GJ 1)) (h 7 (j (d (GJ 2)) (.ret)) (.skip))) (j (d (GJ 3)) (.ret))),[.cell 6 (some 5)]⟩
def AdN:List Tmp:=[0,1,2,3,4,5,10,13]
def Nz:Nat→Bv
 |0=>R 0 [m (i 0)] [] [1]
 |_=>R 1 [m (s 0),C 253 [r (i 100000),r (l 0)] [],C 215 [r (i (-100000)),r (l 1)] [],m (l 2)] [(1,3)] [0]
def QC:BA:=⟨2,0,[0],0,false,[],j (d (Nz 0)) (j (d (Nz 1)) (.ret)),[.slot 1]⟩
def Ac8:List Tmp:=[0,2]
def MZ:Nat→Bv
 |0=>R 0 [m (i 0)] [] [2]
 |1=>R 1 [m (s 1),m (s 0),y .gtr (l 0) (l 1)] [(3,2)] []
 |2=>R 2 [m (s 1),m (l 0)] [(2,1)] [0,1]
 |_=>R 3 [m (s 0),m (l 0)] [(2,1)] [0,1]
def AaL:BA:=⟨4,0,[0,1],0,false,[],j (d (MZ 0)) (j (j (d (MZ 1)) (h 3 (j (d (MZ 2)) (.ret)) (.skip))) (j (d (MZ 3)) (.ret))),[.slot 2]⟩
def AmI:List Tmp:=[0,1,4,7]
def CS:Nat→Bv
 |0=>R 0 [m f] [] [1]
 |1=>R 1 [m (i 0)] [(2,0)] []
 |2=>R 2 [m (s 2),m (s 0),e (l 1),y .lss (l 0) (l 2)] [(3,3)] []
 |3=>R 4 [m (s 0),m (s 2),A 4 (l 0) (l 1),P 4 (l 2),C 259 [r (l 3)] [],n (l 4)] [(4,5)] []
 |4=>R 5 [m f] [(1,0)] [0,2]
 |5=>R 3 [m (s 2),y .add (l 0) (i 1),m (l 1)] [(2,2)] []
 |_=>R 6 [m (s 0),e (l 0),y .leq (l 1) (i 4),m (l 2)] [(1,3)] [0,2]
def K7:BA:=⟨5,0,[0],0,false,[],j (d (CS 0)) (j (j (d (CS 1)) (.block 0 (.loop (j (j (d (CS 2)) (h 3 (.skip) (.exit 0))) (j (.block 1 (j (d (CS 3)) (h 4 (j (d (CS 4)) (.ret)) (.skip)))) (d (CS 5))))))) (j (d (CS 6)) (.ret))),[.slot 1]⟩
def V5:List Tmp:=[0,2,3,7,15]
def GQ:Nat→Bv
 |0=>R 0 [x 0 (s 0),a 1 zD] [(5,0),(6,1)] [0]
 |1=>R 1 [P 4 (s 5),C 239 [r (l 0)] [],n (l 1)] [(7,2)] []
 |2=>R 2 [b zD [],W 5 (s 6) (l 0)] [] [1,2,3,4,5]
 |_=>T 3 [D (P 4 (s 5)) [0] [],D (m (s 4)) [] [],D (C 261 [r (l 0),r (l 1)] [2,3]) [2,3] [2,3],D (F (s 5) 2) [] [],D (L (l 3)) [0] [],D (m (s 1)) [] [],D (m (s 2)) [] [],D (m (s 3)) [] [],D (C 262 [r (l 2),r (l 4),r (l 5),r (l 6),r (l 7)] [4,5]) [2,3,4,5] [4,5],D (W 5 (s 6) (l 8)) [1] [1]] [] [1,2,3,4,5]
def QD:BA:=⟨8,6,[0,1,2,3,4],0,false,[],j (d (GQ 0)) (j (j (d (GQ 1)) (h 7 (j (d (GQ 2)) (.ret)) (.skip))) (j (d (GQ 3)) (.ret))),[.cell 6 (some 5)]⟩
def Aeb:List Tmp:=[0,1,2,3,4,5,10,13]
def I6:Nat→Bv
 |0=>R 0 [m f] [] [1]
 |_=>R 1 [m (s 0),e (l 0),y .leq (l 1) (i 4),m (l 2),J 3 (m (s 0)),J 3 (C 272 [r (l 4),r (g 278)] []),J 3 (n (l 5)),k (l 3) (l 6) f,m (l 7)] [(1,8)] [0]
def K8:BA:=⟨2,0,[0],0,false,[],j (d (I6 0)) (j (d (I6 1)) (.ret)),[.slot 1]⟩
def V3:List Tmp:=[0,2]
def IC:Nat→Bv
 |0=>R 0 [x 0 (s 0),a 1 zD] [(5,0),(6,1)] [0]
 |1=>R 1 [P 2 (s 5),m (s 1),C 280 [r (l 0),r (l 1)] [2,3],m (l 2),X (l 3) 0,X (l 3) 1,X (l 3) 2,a 4 [N 1,N 2],W 2 (l 7) (l 4),m (l 5),m (l 6)] [(7,7),(8,9),(9,10)] []
 |2=>R 2 [m (s 9),n (l 0)] [(10,1)] [9]
 |3=>R 3 [m (s 8),b zD [(3,1,l 0)],W 5 (s 6) (l 1)] [] [1,2,3,4,5,7,8]
 |_=>T 4 [D (P 2 (s 7)) [4] [],D (m (s 1)) [] [],D (m (s 2)) [] [],D (m (s 3)) [] [],D (m (s 4)) [] [],D (C 281 [r (l 0),r (l 1),r (l 2),r (l 3),r (l 4)] [5]) [2,3,5] [5],D (m (s 8)) [] [],D (P 2 (s 5)) [0] [],D (P 2 (s 7)) [4] [],D (C 282 [r (l 7),r (l 8)] [6]) [2,3,6] [6],D (b zD [(0,3,l 5),(3,1,l 6),(4,1,l 9)]) [] [],D (W 5 (s 6) (l 10)) [1] [1]] [] [1,2,3,4,5,7,8]
def Yg:BA:=⟨11,7,[0,1,2,3,4],0,false,[],j (d (IC 0)) (j (d (IC 1)) (j (j (d (IC 2)) (h 10 (j (d (IC 3)) (.ret)) (.skip))) (j (d (IC 4)) (.ret)))),[.cell 6 (some 5)]⟩
def Akq:List Tmp:=[0,1,2,3,4,5,10,11,12,13,22]
def Db:Nat→Bv
 |0=>R 0 [x 0 (s 0),a 1 [N 1,N 2]] [(2,0),(3,1)] [0]
 |1=>R 1 [P 4 (s 2),C 207 [r (l 0)] [],n (l 1)] [(6,2)] []
 |2=>R 2 [b [N 1,N 2] [],W 2 (s 3) (l 0)] [] [1,2]
 |3=>Q 3 [M 2 2 0 [],m (l 0)] [(4,1)] [] [] [w 2 8]
 |4=>R 4 [m (i 0)] [(5,0)] []
 |5=>R 5 [m (s 5),F (s 2) 1,L (l 1),e (l 2),y .lss (l 0) (l 3)] [(7,4)] []
 |6=>Q 7 [m (s 4),F (s 2) 1,L (l 1),m (s 5),A 1 (l 2) (l 3),L (l 4),b [o,N 1] [(0,1,l 5)],M 3 2 1 [l 6],p 4 2 32 (l 0) (l 7),m (l 8)] [(4,9)] [] [3,4] [w 4 8]
 |7=>R 6 [m (s 5),y .add (l 0) (i 1),m (l 1)] [(5,2)] []
 |_=>R 8 [M 5 1 0 [],F (s 2) 0,L (l 1),q 6 1 8 (l 0) (l 2),m (s 4),m (s 1),C 283 [r (l 4),r (l 5)] [7],b [N 1,N 2] [(0,1,l 3),(1,1,l 6)],W 2 (s 3) (l 7)] [] [1,2,4,5]
def Ri:BA:=⟨8,9,[0,1],0,false,[],j (d (Db 0)) (j (j (d (Db 1)) (h 6 (j (d (Db 2)) (.ret)) (.skip))) (j (d (Db 3)) (j (j (d (Db 4)) (.block 0 (.loop (j (j (d (Db 5)) (h 7 (.skip) (.exit 0))) (j (.block 1 (d (Db 6))) (d (Db 7))))))) (j (d (Db 8)) (.ret))))),[.cell 3 (some 2)]⟩
def Adh:List Tmp:=[0,1,2,4,5,6,9,16]
def MS:Nat→Bv
 |0=>R 0 [m (i 0)] [] [2]
 |1=>R 1 [m (s 1),m (s 0),y .lss (l 0) (l 1)] [(3,2)] []
 |2=>R 2 [m (s 1),m (l 0)] [(2,1)] [0,1]
 |_=>R 3 [m (s 0),m (l 0)] [(2,1)] [0,1]
def AbK:BA:=⟨4,0,[0,1],0,false,[],j (d (MS 0)) (j (j (d (MS 1)) (h 3 (j (d (MS 2)) (.ret)) (.skip))) (j (d (MS 3)) (.ret))),[.slot 2]⟩
def Amo:List Tmp:=[0,1,4,7]
def Nn:Nat→Bv
 |0=>R 0 [x 0 (s 0),m f] [(1,0)] [0,2]
 |_=>R 1 [P 4 (s 1),C 152 [r (l 0)] [],m (l 1),J 2 (F (s 1) 0),J 2 (L (l 3)),J 2 (y .eql (l 4) (i 0)),k (l 2) (l 5) f,m (l 6),J 7 (F (s 1) 1),J 7 (L (l 8)),J 7 (e (l 9)),J 7 (y .eql (l 10) (i 0)),k (l 7) (l 11) f,m (l 12),J 13 (F (s 1) 2),J 13 (L (l 14)),J 13 (e (l 15)),J 13 (y .eql (l 16) (i 0)),k (l 13) (l 17) f,m (l 18),J 19 (F (s 1) 3),J 19 (L (l 20)),J 19 (n (l 21)),k (l 19) (l 22) f,m (l 23)] [(2,24)] [1]
def QO:BA:=⟨3,1,[0],0,false,[],j (d (Nn 0)) (j (d (Nn 1)) (.ret)),[.slot 2]⟩
def AcI:List Tmp:=[0,1,2]
def Iu:Nat→Bv
 |0=>R 0 [x 0 (s 0),a 1 zD] [(5,0),(6,1)] [0]
 |1=>R 1 [P 2 (s 5),m (s 1),C 287 [r (l 0),r (l 1)] [2,3],m (l 2),X (l 3) 0,X (l 3) 1,X (l 3) 2,a 4 [N 1,N 2],W 2 (l 7) (l 4),m (l 5),m (l 6)] [(7,7),(8,9),(9,10)] []
 |2=>R 2 [m (s 9),n (l 0)] [(10,1)] [9]
 |3=>R 3 [m (s 8),b zD [(3,1,l 0)],W 5 (s 6) (l 1)] [] [1,2,3,4,5,7,8]
 |_=>T 4 [D (P 2 (s 7)) [4] [],D (m (s 1)) [] [],D (m (s 2)) [] [],D (m (s 3)) [] [],D (m (s 4)) [] [],D (C 288 [r (l 0),r (l 1),r (l 2),r (l 3),r (l 4)] [5]) [2,3,5] [5],D (m (s 8)) [] [],D (P 2 (s 5)) [0] [],D (P 2 (s 7)) [4] [],D (C 289 [r (l 7),r (l 8)] [6]) [2,3,6] [6],D (b zD [(0,3,l 5),(3,1,l 6),(4,1,l 9)]) [] [],D (W 5 (s 6) (l 10)) [1] [1]] [] [1,2,3,4,5,7,8]
def Xc:BA:=⟨11,7,[0,1,2,3,4],0,false,[],j (d (Iu 0)) (j (d (Iu 1)) (j (j (d (Iu 2)) (h 10 (j (d (Iu 3)) (.ret)) (.skip))) (j (d (Iu 4)) (.ret)))),[.cell 6 (some 5)]⟩
def Akr:List Tmp:=[0,1,2,3,4,5,10,11,12,13,22]
def Cz:Nat→Bv
 |0=>R 0 [x 0 (s 0),a 1 [N 1,N 2]] [(2,0),(3,1)] [0]
 |1=>R 1 [P 4 (s 2),C 239 [r (l 0)] [],n (l 1)] [(6,2)] []
 |2=>R 2 [b [N 1,N 2] [],W 2 (s 3) (l 0)] [] [1,2]
 |3=>Q 3 [M 2 2 0 [],m (l 0)] [(4,1)] [] [] [w 2 8]
 |4=>R 4 [F (s 2) 1,L (l 0),e (l 1),m (i 0)] [(7,1),(8,2),(9,3)] []
 |5=>R 5 [y .lss (s 9) (s 8)] [(10,0)] []
 |6=>R 6 [A 1 (s 7) (s 9),L (l 0),m (l 1)] [(5,2)] []
 |7=>Q 7 [m (s 4),m (s 5),b [o,N 1] [(0,1,l 1)],M 3 2 1 [l 2],p 4 2 32 (l 0) (l 3),m (l 4)] [(4,5)] [5] [3,4] [w 4 8]
 |8=>R 8 [y .add (s 9) (i 1),m (l 0)] [(9,1)] []
 |_=>R 9 [M 5 1 0 [],F (s 2) 0,L (l 1),q 6 1 8 (l 0) (l 2),m (s 4),m (s 1),C 290 [r (l 4),r (l 5)] [7],b [N 1,N 2] [(0,1,l 3),(1,1,l 6)],W 2 (s 3) (l 7)] [] [1,2,4,7,8,9]
def QA:BA:=⟨11,9,[0,1],0,false,[],j (d (Cz 0)) (j (j (d (Cz 1)) (h 6 (j (d (Cz 2)) (.ret)) (.skip))) (j (d (Cz 3)) (j (j (d (Cz 4)) (.block 0 (.loop (j (d (Cz 5)) (j (h 10 (.skip) (.exit 0)) (j (.block 1 (j (d (Cz 6)) (d (Cz 7)))) (d (Cz 8)))))))) (j (d (Cz 9)) (.ret))))),[.cell 3 (some 2)]⟩
def Adu:List Tmp:=[0,1,2,4,5,7,10,14,15,16,17]
def GZ:Nat→Bv
 |0=>R 0 [x 0 (s 0),m f] [(1,0)] [0,2]
 |_=>R 1 [P 4 (s 1),C 299 [r (l 0)] [],n (l 1),m (l 2)] [(2,3)] [1]
def I4:BA:=⟨3,1,[0],0,false,[],j (d (GZ 0)) (j (d (GZ 1)) (.ret)),[.slot 2]⟩
def Um:List Tmp:=[0,1,2]
def NF:Nat→Bv
 |0=>R 0 [x 0 (s 0),m f] [(1,0)] [0,2]
 |_=>R 1 [F (s 1) 0,L (l 0),y .eql (l 1) (i 0),m (l 2),J 3 (F (s 1) 1),J 3 (L (l 4)),J 3 (e (l 5)),J 3 (y .eql (l 6) (i 0)),k (l 3) (l 7) f,m (l 8),J 9 (F (s 1) 2),J 9 (L (l 10)),J 9 (e (l 11)),J 9 (y .eql (l 12) (i 0)),k (l 9) (l 13) f,m (l 14),J 15 (F (s 1) 3),J 15 (L (l 16)),J 15 (n (l 17)),k (l 15) (l 18) f,m (l 19)] [(2,20)] [1]
def QF:BA:=⟨3,1,[0],0,false,[],j (d (NF 0)) (j (d (NF 1)) (.ret)),[.slot 2]⟩
def Ad7:List Tmp:=[0,1,2]
def CG:Nat→Bv
 |0=>R 0 [x 0 (s 0),a 1 [N 1,N 2],m (i 0),m f] [(2,0),(3,1)] [0,4,5]
 |1=>R 1 [P 2 (s 2),C 285 [r (l 0)] [],n (l 1)] [(8,2)] []
 |2=>R 2 [b [N 1,N 2] [],W 2 (s 3) (l 0),m (i 0),m f] [(4,2),(5,3)] [1,2]
 |3=>R 3 [P 2 (s 2),m (s 1),C 300 [r (l 0),r (l 1)] []] [(9,2)] []
 |4=>R 4 [P 2 (s 2),C 301 [r (l 0)] [2,3],W 2 (s 3) (l 1),m (i 1),m t] [(4,3),(5,4)] [1,2]
 |5=>R 5 [P 2 (s 2),m (s 1),C 302 [r (l 0),r (l 1)] [4,5],m (l 2),X (l 3) 0,X (l 3) 1,a 6 [N 1,N 2],W 2 (l 6) (l 4),m (l 5)] [(6,6),(7,8)] [2]
 |6=>R 6 [m (s 7),n (l 0),m (l 1),G 2 (P 2 (s 6)),G 2 (m (s 1)),G 2 (C 300 [r (l 3),r (l 4)] []),G 2 (n (l 5)),k (l 2) t (l 6)] [(10,7)] [1,7]
 |7=>R 7 [b [N 1,N 2] [],W 2 (s 3) (l 0),m (i 2),m f] [(4,2),(5,3)] [6]
 |_=>R 8 [P 2 (s 6),W 2 (s 3) (l 0),m (i 2),m t] [(4,2),(5,3)] [6]
def PY:BA:=⟨11,7,[0,1],0,false,[],j (d (CG 0)) (j (j (d (CG 1)) (h 8 (j (d (CG 2)) (.ret)) (.skip))) (j (j (d (CG 3)) (h 9 (j (d (CG 4)) (.ret)) (.skip))) (j (d (CG 5)) (j (j (d (CG 6)) (h 10 (j (d (CG 7)) (.ret)) (.skip))) (j (d (CG 8)) (.ret)))))),[.cell 3 (some 2),.slot 4,.slot 5]⟩
def AbE:List Tmp:=[0,1,2,4,5,6,7,8,11,15,31]
def BQ:Nat→Bv
 |0=>R 0 [x 0 (s 0),a 1 [c,o,N 1]] [(5,0),(6,1)] [0]
 |1=>R 1 [m (s 1),P 2 (s 5),C 286 [r (l 0),r (l 1)] [2,3],m (l 2),X (l 3) 0,X (l 3) 1,a 4 [N 1,N 2],W 2 (l 6) (l 4),m (l 5)] [(7,6),(8,8)] [1]
 |2=>R 2 [m (s 8),n (l 0)] [(12,1)] [8]
 |3=>R 3 [b [c,o,N 1] [],W 3 (s 6) (l 0)] [] [2,3,4,5,7]
 |4=>R 4 [m (s 2),m (s 3),P 2 (s 7),C 303 [r (l 0),r (l 1),r (l 2)] [5],m (l 3),X (l 4) 0,X (l 4) 1,a 6 [o,N 2],W 2 (l 7) (l 5),m (l 6)] [(9,7),(10,9)] [2,3]
 |5=>R 5 [m (s 10),n (l 0),m (l 1),G 2 (P 2 (s 5)),G 2 (P 2 (s 9)),G 2 (C 304 [r (l 3),r (l 4)] []),G 2 (n (l 5)),k (l 2) t (l 6)] [(13,7)] [10]
 |6=>R 6 [b [c,o,N 1] [],W 3 (s 6) (l 0)] [] [4,5,7,9]
 |7=>T 7 [D (m (s 4)) [] [],D (P 2 (s 5)) [0] [],D (C 305 [r (l 1)] [7]) [7] [7],D (P 2 (s 9)) [6] [],D (C 306 [r (l 3)] [8]) [5,8] [8],D (M 9 1 2 [l 2,l 4]) [7,8,9] [7,8,9],D (C 307 [r (l 0),r (l 5),r (i 1)] []) [9] [],D (m (l 6)) [] []] [(11,7)] [5]
 |8=>T 8 [D (m (s 11)) [] [],D (y .eql (l 0) (i 0)) [] [],D (m (l 1)) [] [],H 2 (m (s 11)) [] [],H 2 (m (s 4)) [] [],H 2 (P 2 (s 7)) [4] [],H 2 (C 305 [r (l 5)] [10]) [2,3,10] [10],H 2 (P 2 (s 9)) [6] [],H 2 (C 306 [r (l 7)] [11]) [5,11] [11],H 2 (M 12 1 2 [l 6,l 8]) [10,11,12] [10,11,12],H 2 (C 307 [r (l 4),r (l 9),r (i 1)] []) [12] [],H 2 (y .neq (l 3) (l 10)) [] [],D (k (l 2) t (l 11)) [] []] [(14,12)] [4,7,11]
 |9=>R 9 [b [c,o,N 1] [],W 3 (s 6) (l 0)] [] [9]
 |_=>T 10 [D (F (s 9) 0) [] [],D (L (l 0)) [6] [],D (F (s 9) 1) [] [],D (L (l 2)) [6] [],D (C 308 [r (l 3)] [13]) [5,13] [13],D (b [c,o,N 1] [(0,1,t),(1,1,l 1),(2,1,l 4)]) [] [],D (W 3 (s 6) (l 5)) [1] [1]] [] [9]
def Pq:BA:=⟨15,14,[0,1,2,3,4],0,false,[],j (d (BQ 0)) (j (d (BQ 1)) (j (j (d (BQ 2)) (h 12 (j (d (BQ 3)) (.ret)) (.skip))) (j (d (BQ 4)) (j (j (d (BQ 5)) (h 13 (j (d (BQ 6)) (.ret)) (.skip))) (j (d (BQ 7)) (j (j (d (BQ 8)) (h 14 (j (d (BQ 9)) (.ret)) (.skip))) (j (d (BQ 10)) (.ret)))))))),[.cell 6 (some 3)]⟩
def AaY:List Tmp:=[0,1,2,3,4,5,10,11,12,13,14,15,23,39,60]
def DU:Nat→Bv
 |0=>R 0 [x 0 (s 0),x 1 (s 1),m (z 1)] [(2,0),(3,1)] [0,1,4]
 |1=>Q 1 [F (s 2) 0,L (l 0),F (s 3) 0,L (l 2),C 223 [r (l 1),r (l 3)] [2],m (l 4)] [(5,5)] [] [] [w 2 5]
 |2=>R 2 [m (i 0)] [(6,0)] []
 |3=>R 3 [m (s 6),F (s 2) 1,L (l 1),e (l 2),y .lss (l 0) (l 3)] [(7,4)] []
 |4=>T 5 [D (F (s 3) 1) [] [],D (L (l 0)) [1] [],D (F (s 2) 1) [] [],D (L (l 2)) [0] [],D (m (s 6)) [] [],D (A 2 (l 3) (l 4)) [] [],D (F (l 5) 0) [] [],D (L (l 6)) [] [],D (C 309 [r (l 1),r (l 7)] []) [] [],D (y .lss (l 8) (i 0)) [] [],D (m (l 9)) [] [],K 10 (F (s 2) 1) [] [],K 10 (L (l 11)) [0] [],K 10 (m (s 6)) [] [],K 10 (A 2 (l 12) (l 13)) [] [],K 10 (F (l 14) 0) [] [],K 10 (L (l 15)) [] [],K 10 (C 71 [r (l 16),r (i 0),r (i 255)] []) [] [],D (k (l 10) (l 17) f) [] []] [(8,18)] []
 |5=>Q 6 [m (s 5),F (s 2) 1,L (l 1),m (s 6),A 2 (l 2) (l 3),F (l 4) 0,L (l 5),y .add (i 1000) (l 6),M 3 1 1 [l 7],q 4 1 8 (l 0) (l 8),m (l 9)] [(5,10)] [] [3,4] [w 4 5]
 |6=>R 4 [m (s 6),y .add (l 0) (i 1),m (l 1)] [(6,2)] []
 |_=>R 7 [m (s 5),m (l 0)] [(4,1)] [2,3,5,6]
def QL:BA:=⟨9,6,[0,1],0,false,[],j (d (DU 0)) (j (d (DU 1)) (j (j (d (DU 2)) (.block 0 (.loop (j (j (d (DU 3)) (h 7 (.skip) (.exit 0))) (j (.block 1 (j (d (DU 4)) (h 8 (d (DU 5)) (.skip)))) (d (DU 6))))))) (j (d (DU 7)) (.ret)))),[.slot 4]⟩
def AcR:List Tmp:=[0,1,2,3,4,5,6,16,37]
def CF:Nat→Bv
 |0=>R 0 [x 0 (s 0),a 1 [N 1,N 2],m (i 0),m f] [(2,0),(3,1)] [0,4,5]
 |1=>R 1 [P 2 (s 2),C 292 [r (l 0)] [],n (l 1)] [(8,2)] []
 |2=>R 2 [b [N 1,N 2] [],W 2 (s 3) (l 0),m (i 0),m f] [(4,2),(5,3)] [1,2]
 |3=>R 3 [P 2 (s 2),m (s 1),C 314 [r (l 0),r (l 1)] []] [(9,2)] []
 |4=>R 4 [P 2 (s 2),C 293 [r (l 0)] [2,3],W 2 (s 3) (l 1),m (i 1),m t] [(4,3),(5,4)] [1,2]
 |5=>R 5 [P 2 (s 2),m (s 1),C 315 [r (l 0),r (l 1)] [4,5],m (l 2),X (l 3) 0,X (l 3) 1,a 6 [N 1,N 2],W 2 (l 6) (l 4),m (l 5)] [(6,6),(7,8)] [2]
 |6=>R 6 [m (s 7),n (l 0),m (l 1),G 2 (P 2 (s 6)),G 2 (m (s 1)),G 2 (C 314 [r (l 3),r (l 4)] []),G 2 (n (l 5)),k (l 2) t (l 6)] [(10,7)] [1,7]
 |7=>R 7 [b [N 1,N 2] [],W 2 (s 3) (l 0),m (i 2),m f] [(4,2),(5,3)] [6]
 |_=>R 8 [P 2 (s 6),W 2 (s 3) (l 0),m (i 2),m t] [(4,2),(5,3)] [6]
def PK:BA:=⟨11,7,[0,1],0,false,[],j (d (CF 0)) (j (j (d (CF 1)) (h 8 (j (d (CF 2)) (.ret)) (.skip))) (j (j (d (CF 3)) (h 9 (j (d (CF 4)) (.ret)) (.skip))) (j (d (CF 5)) (j (j (d (CF 6)) (h 10 (j (d (CF 7)) (.ret)) (.skip))) (j (d (CF 8)) (.ret)))))),[.cell 3 (some 2),.slot 4,.slot 5]⟩
def Abp:List Tmp:=[0,1,2,4,5,6,7,8,11,15,31]
def FI:Nat→Bv
 |0=>R 0 [x 0 (s 0),a 1 [c,o,N 1]] [(5,0),(6,1)] [0]
 |1=>R 1 [m (s 1),P 2 (s 5),C 274 [r (l 0),r (l 1)] [2,3],m (l 2),X (l 3) 0,X (l 3) 1,a 4 [N 1,N 2],W 2 (l 6) (l 4),m (l 5)] [(7,6),(8,8)] [1]
 |2=>R 2 [m (s 8),n (l 0)] [(9,1)] [8]
 |3=>R 3 [b [c,o,N 1] [],W 3 (s 6) (l 0)] [] [2,3,4,5,7]
 |_=>R 4 [P 2 (s 5),P 2 (s 7),m (s 2),m (s 3),m (s 4),C 316 [r (l 0),r (l 1),r (l 2),r (l 3),r (l 4),r (z 2)] [5],W 3 (s 6) (l 5)] [] [2,3,4,5,7]
def O9:BA:=⟨10,6,[0,1,2,3,4],0,false,[],j (d (FI 0)) (j (d (FI 1)) (j (j (d (FI 2)) (h 9 (j (d (FI 3)) (.ret)) (.skip))) (j (d (FI 4)) (.ret)))),[.cell 6 (some 3)]⟩
def Aa8:List Tmp:=[0,1,2,3,4,5,10,11,12,20]
def Da:Nat→Bv
 |0=>R 0 [x 0 (s 0),x 1 (s 1),m (z 1)] [(2,0),(3,1)] [0,1,4]
 |1=>Q 1 [F (s 2) 0,L (l 0),F (s 3) 0,L (l 2),C 189 [r (l 1),r (l 3)] [2],m (l 4)] [(5,5)] [] [] [w 2 8]
 |2=>T 2 [D (F (s 2) 1) [] [],D (L (l 0)) [0] [],D (C 317 [r (l 1)] [3]) [3] [3],D (F (s 3) 1) [] [],D (L (l 3)) [1] [],D (C 317 [r (l 4)] [4]) [4] [4],D (C 189 [r (l 2),r (l 5)] [5]) [3,4,5] [5],D (e (l 6)) [5] [],D (m (i 0)) [] []] [(7,6),(8,7),(9,8)] [2,3]
 |3=>R 3 [y .lss (s 9) (s 8)] [(10,0)] []
 |4=>R 4 [A 1 (s 7) (s 9),L (l 0),m (l 1)] [(6,2)] []
 |5=>R 5 [m (s 6),C 114 [r (l 0),r (i 0),r (i 255)] []] [(11,1)] []
 |6=>Q 6 [m (s 5),m (s 6),y .add (i 1000) (l 1),M 6 1 1 [l 2],q 7 1 8 (l 0) (l 3),m (l 4)] [(5,5)] [6] [6,7] [w 7 8]
 |7=>R 7 [y .add (s 9) (i 1),m (l 0)] [(9,1)] []
 |_=>R 8 [m (s 5),m (l 0)] [(4,1)] [5,7,8,9]
def Qy:BA:=⟨12,9,[0,1],0,false,[],j (d (Da 0)) (j (d (Da 1)) (j (j (d (Da 2)) (.block 0 (.loop (j (d (Da 3)) (j (h 10 (.skip) (.exit 0)) (j (.block 1 (j (d (Da 4)) (j (d (Da 5)) (h 11 (d (Da 6)) (.skip))))) (d (Da 7)))))))) (j (d (Da 8)) (.ret)))),[.slot 4]⟩
def AdJ:List Tmp:=[0,1,2,3,4,5,7,19,20,21,22,26]
def Ga:Nat→Bv
 |0=>R 0 [x 0 (s 0),m f] [(2,0)] [0,3]
 |1=>R 1 [m (s 1),P 2 (s 2),C 286 [r (l 0),r (l 1)] [1,2],m (l 2),X (l 3) 0,X (l 3) 1,a 3 [N 1,N 2],W 2 (l 6) (l 4),m (l 5)] [(4,6),(5,8)] [1]
 |_=>R 2 [m (s 5),m (l 0),J 1 (P 2 (s 4)),J 1 (P 2 (s 2)),J 1 (C 328 [r (l 2),r (l 3)] []),k (l 1) (l 4) f,m (l 5)] [(3,6)] [2,4,5]
def Km:BA:=⟨6,4,[0,1],0,false,[],j (d (Ga 0)) (j (d (Ga 1)) (j (d (Ga 2)) (.ret))),[.slot 3]⟩
def Wx:List Tmp:=[0,1,2,4,5,6]
def Du:Nat→Bv
 |0=>R 0 [x 0 (s 0),a 1 [N 1,N 2],m f] [(2,0),(3,1)] [0,4]
 |1=>R 1 [P 2 (s 2),C 285 [r (l 0)] [],n (l 1)] [(6,2)] []
 |2=>R 2 [b [N 1,N 2] [],W 2 (s 3) (l 0),m f] [(4,2)] [1,2]
 |3=>R 3 [m (s 1),F (s 2) 0,L (l 1),C 222 [r (l 0),r (l 2)] [2],m (l 3)] [(5,4)] []
 |_=>T 4 [D (P 2 (s 2)) [0] [],D (m (s 5)) [] [],D (m (s 1)) [] [],D (F (s 2) 0) [] [],D (L (l 3)) [0] [],D (m (s 5)) [] [],D (C 223 [r (l 4),r (l 5)] [3]) [2,3] [3],D (F (s 2) 1) [] [],D (L (l 7)) [0] [],D (C 329 [r (l 2),r (l 6),r (l 8)] [4]) [3,4] [4],D (C 330 [r (l 0),r (l 1),r (l 9)] [5,6]) [2,4,5,6] [5,6],D (X (l 10) 0) [] [],D (X (l 10) 1) [] [],D (W 2 (s 3) (l 11)) [1] [1],D (m (l 12)) [] []] [(4,14)] [1,2,5]
def I5:BA:=⟨7,7,[0,1],0,false,[],j (d (Du 0)) (j (j (d (Du 1)) (h 6 (j (d (Du 2)) (.ret)) (.skip))) (j (d (Du 3)) (j (d (Du 4)) (.ret)))),[.cell 3 (some 2),.slot 4]⟩
def Ul:List Tmp:=[0,1,2,4,5,6,9]
def DZ:Nat→Bv
 |0=>R 0 [x 0 (s 2),a 1 [o,N 2],m f] [(3,0),(4,1)] [2,5]
 |1=>R 1 [m (s 0),F (s 3) 0,L (l 1),C 168 [r (l 0),r (l 2)] [],m (l 3)] [(6,4)] [0]
 |2=>R 2 [P 2 (s 3),C 285 [r (l 0)] [],n (l 1),m (l 2),G 3 (m (s 6)),G 3 (y .eql (l 4) (i 0)),k (l 3) t (l 5)] [(7,6)] []
 |3=>R 3 [b [o,N 2] [],W 2 (s 4) (l 0),m f] [(5,2)] [1,3,6]
 |_=>R 4 [m (s 6),F (s 3) 1,L (l 1),m (s 1),C 331 [r (l 2),r (l 3)] [2],C 332 [r (l 4)] [3],b [o,N 2] [(0,1,l 0),(1,1,l 5)],W 2 (s 4) (l 6),m t] [(5,8)] [1,3,6]
def JG:BA:=⟨8,4,[0,1,2],0,false,[],j (d (DZ 0)) (j (d (DZ 1)) (j (j (d (DZ 2)) (h 7 (j (d (DZ 3)) (.ret)) (.skip))) (j (d (DZ 4)) (.ret)))),[.cell 4 (some 2),.slot 5]⟩
def UE:List Tmp:=[0,1,2,5,6,7,8,19]
def Dm:Nat→Bv
 |0=>R 0 [x 0 (s 0),x 1 (s 1),m f] [(2,0),(3,1)] [0,1,4]
 |1=>R 1 [m (i 0)] [(5,0)] []
 |2=>R 2 [m (s 5),F (s 3) 1,L (l 1),e (l 2),y .lss (l 0) (l 3)] [(6,4)] []
 |3=>T 4 [D (F (s 2) 1) [] [],D (L (l 0)) [0] [],D (F (s 3) 1) [] [],D (L (l 2)) [1] [],D (m (s 5)) [] [],D (A 2 (l 3) (l 4)) [] [],D (F (l 5) 0) [] [],D (L (l 6)) [] [],D (C 309 [r (l 1),r (l 7)] []) [] [],D (y .lss (l 8) (i 0)) [] [],D (m (l 9)) [] [],H 10 (F (s 3) 1) [] [],H 10 (L (l 11)) [1] [],H 10 (m (s 5)) [] [],H 10 (A 2 (l 12) (l 13)) [] [],H 10 (F (l 14) 0) [] [],H 10 (L (l 15)) [] [],H 10 (C 250 [r (l 16)] []) [] [],D (k (l 10) t (l 17)) [] []] [(7,18)] []
 |4=>R 5 [m f] [(4,0)] [2,3,5]
 |5=>R 3 [m (s 5),y .add (l 0) (i 1),m (l 1)] [(5,2)] []
 |_=>R 6 [P 2 (s 2),C 285 [r (l 0)] [],m (l 1),J 2 (P 2 (s 3)),J 2 (C 333 [r (l 3)] []),k (l 2) (l 4) f,m (l 5),J 6 (F (s 2) 0),J 6 (L (l 7)),J 6 (F (s 3) 0),J 6 (L (l 9)),J 6 (C 166 [r (l 8),r (l 10)] []),k (l 6) (l 11) f,m (l 12)] [(4,13)] [2,3,5]
def NQ:BA:=⟨8,2,[0,1],0,false,[],j (d (Dm 0)) (j (j (d (Dm 1)) (.block 0 (.loop (j (j (d (Dm 2)) (h 6 (.skip) (.exit 0))) (j (.block 1 (j (d (Dm 3)) (h 7 (j (d (Dm 4)) (.ret)) (.skip)))) (d (Dm 5))))))) (j (d (Dm 6)) (.ret))),[.slot 4]⟩
def Yz:List Tmp:=[0,1,2,3,4,5,10,31]
def Gc:Nat→Bv
 |0=>R 0 [m (i 0)] [] [3]
 |1=>R 1 [m (s 0),C 210 [r (l 0)] [],n (l 1),m (l 2),G 3 (m (s 1)),G 3 (C 334 [r (l 4)] []),G 3 (n (l 5)),k (l 3) t (l 6),m (l 7),G 8 (m (s 2)),G 8 (C 71 [r (l 9),r (i 0),r (i 1)] []),G 8 (n (l 10)),k (l 8) t (l 11)] [(4,12)] []
 |2=>R 2 [m (i 0)] [(3,0)] [0,1,2]
 |_=>R 3 [m (s 0),m (s 2),m (s 1),C 335 [r (l 2)] [],M 0 1 2 [l 1,l 3],C 336 [r (l 0),r (l 4)] [],m (l 5)] [(3,6)] [0,1,2]
def PL:BA:=⟨5,1,[0,1,2],0,false,[],j (d (Gc 0)) (j (j (d (Gc 1)) (h 4 (j (d (Gc 2)) (.ret)) (.skip))) (j (d (Gc 3)) (.ret))),[.slot 3]⟩
def Ab4:List Tmp:=[0,1,2,6,19]
def Ew:Nat→Bv
 |0=>R 0 [x 0 (s 0),m (z 1)] [(1,0)] [0,2]
 |1=>R 1 [P 2 (s 1),C 285 [r (l 0)] [],n (l 1)] [(4,2)] []
 |2=>R 2 [M 1 1 0 [],m (l 0)] [(2,1)] [1]
 |3=>R 3 [F (s 1) 1,L (l 0),C 337 [r (l 1)] [2],m (l 2),X (l 3) 0,X (l 3) 1,m (l 4),m (l 5)] [(3,6)] []
 |_=>R 4 [F (s 1) 0,L (l 0),e (l 1),M 3 1 1 [l 2],F (s 1) 0,L (l 4),q 4 1 8 (l 3) (l 5),m (s 3),q 5 1 8 (l 6) (l 7),m (l 8)] [(2,9)] [1,3]
def LH:BA:=⟨5,6,[0],0,false,[],j (d (Ew 0)) (j (j (d (Ew 1)) (h 4 (j (d (Ew 2)) (.ret)) (.skip))) (j (d (Ew 3)) (j (d (Ew 4)) (.ret)))),[.slot 2]⟩
def XD:List Tmp:=[0,1,2,3,7]
def Eg:Nat→Bv
 |0=>R 0 [x 0 (s 0),m (z 1)] [(1,0)] [0,2]
 |1=>R 1 [P 2 (s 1),C 333 [r (l 0)] [],n (l 1)] [(4,2)] []
 |2=>R 2 [M 1 1 0 [],m (l 0)] [(2,1)] [1]
 |3=>R 3 [F (s 1) 1,L (l 0),C 337 [r (l 1)] [2],m (l 2),X (l 3) 0,X (l 3) 1,m (l 4),m (l 5)] [(3,6)] []
 |_=>R 4 [F (s 1) 0,L (l 0),M 3 1 1 [l 1],m (s 3),q 4 1 8 (l 2) (l 3),m (l 4)] [(2,5)] [1,3]
def KF:BA:=⟨5,5,[0],0,false,[],j (d (Eg 0)) (j (j (d (Eg 1)) (h 4 (j (d (Eg 2)) (.ret)) (.skip))) (j (d (Eg 3)) (j (d (Eg 4)) (.ret)))),[.slot 2]⟩
def Wz:List Tmp:=[0,1,2,3,7]
def KG:Nat→Bv
 |0=>R 0 [m (i 0)] [] [1]
 |_=>R 1 [m (s 0),C 313 [r (l 0),r (i 0),r (i 16)] [],y .mul (i 16) (l 1),y .add (l 2) (i 10),m (l 3)] [(1,4)] [0]
def N8:BA:=⟨2,0,[0],0,false,[],j (d (KG 0)) (j (d (KG 1)) (.ret)),[.slot 1]⟩
def ZT:List Tmp:=[0,2]
def Im:Nat→Bv
 |0=>R 0 [m (i 0)] [] [3]
 |1=>R 1 [m (s 2),y .lss (l 0) (i 1)] [(4,1)] []
 |2=>R 2 [m (i 0)] [(3,0)] [0,1,2]
 |_=>R 3 [m (s 0),m (s 1),M 0 1 2 [l 0,l 1],C 338 [r (l 2)] [],m (s 2),C 339 [r (l 3),r (l 4)] [],m (l 5)] [(3,6)] [0,1,2]
def SB:BA:=⟨5,1,[0,1,2],0,false,[],j (d (Im 0)) (j (j (d (Im 1)) (h 4 (j (d (Im 2)) (.ret)) (.skip))) (j (d (Im 3)) (.ret))),[.slot 3]⟩
def Af0:List Tmp:=[0,1,2,6,8]
def Gb:Nat→Bv
 |0=>R 0 [x 0 (s 0),m f] [(2,0)] [0,3]
 |1=>R 1 [m (s 1),P 2 (s 2),C 274 [r (l 0),r (l 1)] [1,2],m (l 2),X (l 3) 0,X (l 3) 1,a 3 [N 1,N 2],W 2 (l 6) (l 4),m (l 5)] [(4,6),(5,8)] [1]
 |_=>R 2 [m (s 5),m (l 0),J 1 (P 2 (s 4)),J 1 (P 2 (s 2)),J 1 (C 340 [r (l 2),r (l 3)] []),k (l 1) (l 4) f,m (l 5)] [(3,6)] [2,4,5]
def K9:BA:=⟨6,4,[0,1],0,false,[],j (d (Gb 0)) (j (d (Gb 1)) (j (d (Gb 2)) (.ret))),[.slot 3]⟩
def V8:List Tmp:=[0,1,2,4,5,6]
def FP:Nat→Bv
 |0=>R 0 [x 0 (s 0),a 1 [N 1,N 2],m f] [(2,0),(3,1)] [0,4]
 |1=>R 1 [m (s 1),F (s 2) 0,L (l 1),C 240 [r (l 0),r (l 2)] [2],m (l 3)] [(5,4)] []
 |_=>T 2 [D (P 2 (s 2)) [0] [],D (m (s 5)) [] [],D (m (s 1)) [] [],D (F (s 2) 0) [] [],D (L (l 3)) [0] [],D (m (s 5)) [] [],D (C 189 [r (l 4),r (l 5)] [3]) [2,3] [3],D (F (s 2) 1) [] [],D (L (l 7)) [0] [],D (C 341 [r (l 2),r (l 6),r (l 8)] [4]) [3,4] [4],D (C 342 [r (l 0),r (l 1),r (l 9)] [5,6]) [2,4,5,6] [5,6],D (X (l 10) 0) [] [],D (X (l 10) 1) [] [],D (W 2 (s 3) (l 11)) [1] [1],D (m (l 12)) [] []] [(4,14)] [1,2,5]
def IU:BA:=⟨6,7,[0,1],0,false,[],j (d (FP 0)) (j (d (FP 1)) (j (d (FP 2)) (.ret))),[.cell 3 (some 2),.slot 4]⟩
def Ui:List Tmp:=[0,1,2,4,5,6]
def Ef:Nat→Bv
 |0=>R 0 [m (z 1)] [] [1]
 |1=>Q 1 [M 0 1 0 [],m (l 0)] [(2,1)] [] [] [w 0 4]
 |2=>R 2 [m (s 0),e (l 0),m (i 0)] [(4,0),(5,1),(6,2)] [0]
 |3=>R 3 [y .lss (s 6) (s 5)] [(7,0)] []
 |4=>Q 4 [A 2 (s 4) (s 6),P 2 (l 0),a 1 [o,N 1],W 2 (l 2) (l 1)] [(3,2)] [] [1] []
 |5=>Q 5 [m (s 2),F (s 3) 0,L (l 1),M 2 1 1 [l 2],q 3 1 8 (l 0) (l 3),m (l 4)] [(2,5)] [3] [2,3] [w 3 4]
 |6=>R 6 [y .add (s 6) (i 1),m (l 0)] [(6,1)] []
 |_=>R 7 [m (s 2),m (l 0)] [(1,1)] [2,4,5,6]
def SL:BA:=⟨8,5,[0],0,false,[],j (d (Ef 0)) (j (d (Ef 1)) (j (j (d (Ef 2)) (.block 0 (.loop (j (d (Ef 3)) (j (h 7 (.skip) (.exit 0)) (j (.block 1 (j (d (Ef 4)) (d (Ef 5)))) (d (Ef 6)))))))) (j (d (Ef 7)) (.ret)))),[.slot 1]⟩
def AeL:List Tmp:=[0,2,3,5,7,8,9,10]
def KP:Nat→Bv
 |0=>R 0 [m (i 0)] [] [1]
 |_=>R 1 [m (s 0),C 322 [r (l 0),r (i 0),r (i 16)] [],y .mul (i 16) (l 1),y .add (l 2) (i 10),m (l 3)] [(1,4)] [0]
def Oa:BA:=⟨2,0,[0],0,false,[],j (d (KP 0)) (j (d (KP 1)) (.ret)),[.slot 1]⟩
def YJ:List Tmp:=[0,2]
def HY:Nat→Bv
 |0=>R 0 [m (i 0)] [] [3]
 |1=>R 1 [m (s 2),y .lss (l 0) (i 1)] [(4,1)] []
 |2=>R 2 [m (i 0)] [(3,0)] [0,1,2]
 |_=>R 3 [m (s 0),m (s 1),M 0 1 2 [l 0,l 1],C 353 [r (l 2)] [],m (s 2),C 354 [r (l 3),r (l 4)] [],m (l 5)] [(3,6)] [0,1,2]
def Tx:BA:=⟨5,1,[0,1,2],0,false,[],j (d (HY 0)) (j (j (d (HY 1)) (h 4 (j (d (HY 2)) (.ret)) (.skip))) (j (d (HY 3)) (.ret))),[.slot 3]⟩
def Afu:List Tmp:=[0,1,2,6,8]
def I8:Nat→Bv
 |0=>R 0 [x 0 (s 0),x 1 (s 1),m f] [(2,0),(3,1)] [0,1,4]
 |_=>R 1 [F (s 2) 0,L (l 0),F (s 3) 0,L (l 2),C 355 [r (l 1),r (l 3)] [],m (l 4),J 5 (F (s 2) 1),J 5 (L (l 6)),J 5 (F (s 3) 1),J 5 (L (l 8)),J 5 (C 356 [r (l 7),r (l 9)] []),k (l 5) (l 10) f,m (l 11)] [(4,12)] [2,3]
def K6:BA:=⟨5,2,[0,1],0,false,[],j (d (I8 0)) (j (d (I8 1)) (.ret)),[.slot 4]⟩
def Wv:List Tmp:=[0,1,2,3,4]
def AL:Nat→Bv
 |0=>R 0 [x 0 (s 0),a 1 [N 1,N 2],m f] [(3,0),(4,1)] [0,5]
 |1=>R 1 [P 2 (s 3),C 285 [r (l 0)] [],n (l 1)] [(9,2)] []
 |2=>R 2 [b [N 1,N 2] [],W 2 (s 4) (l 0),m f] [(5,2)] [1,2,3]
 |3=>Q 3 [b [N 1,N 2] [],a 2 [N 1,N 2],W 2 (l 1) (l 0)] [(6,1)] [] [] [.ownc 2 0 9,.ownc 2 1 10]
 |4=>R 4 [m (i 0)] [(7,0)] []
 |5=>R 5 [m (s 7),F (s 3) 0,L (l 1),e (l 2),y .lss (l 0) (l 3)] [(10,4)] []
 |6=>R 7 [m (s 1),F (s 3) 0,L (l 1),m (s 7),A 1 (l 2) (l 3),L (l 4),C 166 [r (l 0),r (l 5)] [],n (l 6)] [(11,7)] []
 |7=>Y 8 [D (F (s 6) 0) [] [],D (L (l 0)) [2] [],D (F (s 3) 0) [] [],D (L (l 2)) [0] [],D (m (s 7)) [] [],D (A 1 (l 3) (l 4)) [] [],D (L (l 5)) [] [],D (M 3 1 1 [l 6]) [3] [3],D (q 4 1 8 (l 1) (l 7)) [3,4,9] [4,9],D (F (s 6) 0) [] [],D (W 1 (l 9) (l 8)) [2] [2]] [] [] [3,4] [w 4 9]
 |8=>R 6 [m (s 7),y .add (l 0) (i 1),m (l 1)] [(7,2)] []
 |9=>R 9 [m (i 0)] [(8,0)] [1,7]
 |10=>R 10 [m (s 8),F (s 3) 1,L (l 1),e (l 2),y .lss (l 0) (l 3)] [(12,4)] []
 |11=>R 12 [m (s 2),F (s 3) 1,L (l 1),m (s 8),A 2 (l 2) (l 3),F (l 4) 0,L (l 5),C 166 [r (l 0),r (l 6)] [],n (l 7)] [(13,8)] []
 |12=>Y 13 [D (F (s 6) 1) [] [],D (L (l 0)) [2] [],D (F (s 3) 1) [] [],D (L (l 2)) [0] [],D (m (s 8)) [] [],D (A 2 (l 3) (l 4)) [] [],D (F (l 5) 0) [] [],D (L (l 6)) [] [],D (M 5 1 0 []) [5] [5],D (F (s 3) 1) [] [],D (L (l 9)) [0] [],D (m (s 8)) [] [],D (A 2 (l 10) (l 11)) [] [],D (F (l 12) 1) [] [],D (L (l 13)) [] [],D (q 6 1 8 (l 8) (l 14)) [5,6] [5,6],D (b [o,N 1] [(0,1,l 7),(1,1,l 15)]) [] [],D (M 7 2 1 [l 16]) [6,7] [6,7],D (p 8 2 32 (l 1) (l 17)) [7,8,10] [7,8,10],D (F (s 6) 1) [] [],D (W 1 (l 19) (l 18)) [2] [2]] [] [] [5,6,7,8] [w 8 10]
 |13=>R 11 [m (s 8),y .add (l 0) (i 1),m (l 1)] [(8,2)] []
 |14=>R 14 [F (s 6) 0,L (l 0),e (l 1),y .eql (l 2) (i 0)] [(14,3)] [2,3,8]
 |15=>R 15 [b [N 1,N 2] [],W 2 (s 4) (l 0),m f] [(5,2)] [6]
 |_=>R 16 [P 2 (s 6),W 2 (s 4) (l 0),m t] [(5,2)] [6]
def Nu:BA:=⟨15,11,[0,1,2],0,false,[],j (d (AL 0)) (j (j (d (AL 1)) (h 9 (j (d (AL 2)) (.ret)) (.skip))) (j (d (AL 3)) (j (j (d (AL 4)) (.block 0 (.loop (j (j (d (AL 5)) (h 10 (.skip) (.exit 0))) (j (.block 1 (j (d (AL 6)) (h 11 (d (AL 7)) (.skip)))) (d (AL 8))))))) (j (j (d (AL 9)) (.block 2 (.loop (j (j (d (AL 10)) (h 12 (.skip) (.exit 2))) (j (.block 3 (j (d (AL 11)) (h 13 (d (AL 12)) (.skip)))) (d (AL 13))))))) (j (j (d (AL 14)) (h 14 (j (d (AL 15)) (.ret)) (.skip))) (j (d (AL 16)) (.ret))))))),[.cell 4 (some 2),.slot 5]⟩
def Zd:List Tmp:=[0,1,2,3,6,7,8,9,10,13,20,30,45,56,80]
def Bq:Nat→Bv
 |0=>R 0 [m (z 1)] [] [3]
 |1=>Q 1 [M 0 1 0 [],m (l 0)] [(4,1)] [] [] [w 0 9]
 |2=>R 2 [m (s 2),C 312 [r (l 0)] [],n (l 1),m (l 2),G 3 (m (s 0)),G 3 (m (s 1)),G 3 (C 260 [r (l 4),r (l 5)] []),G 3 (n (l 6)),k (l 3) t (l 7)] [(9,8)] []
 |3=>R 3 [m (s 4),m (l 0)] [(3,1)] [0,1,2,4]
 |4=>R 4 [m (i 0)] [(5,0)] []
 |5=>R 5 [m (s 5),m (s 2),e (l 1),y .lss (l 0) (l 2)] [(10,3)] []
 |6=>Q 7 [m (s 1),I9.slice 1 (l 0) none (some (i 1)),C 256 [r (l 1)] [1,2],a 3 [N 1,N 2],W 2 (l 3) (l 2)] [(6,3)] [] [1,2,3] []
 |7=>R 8 [m (s 2),m (s 5),m (s 5),y .add (l 2) (i 1),I9.slice 2 (l 0) (some (l 1)) (some (l 3)),F (s 6) 1,W 1 (l 5) (l 4)] [] []
 |8=>Q 9 [m (s 0),P 2 (s 6),C 286 [r (l 0),r (l 1)] [4,5],m (l 2),X (l 3) 0,X (l 3) 1,a 6 [N 1,N 2],W 2 (l 6) (l 4),m (l 5)] [(7,6),(8,8)] [] [4,5,6] []
 |9=>R 10 [m (s 8),n (l 0),m (l 1),G 2 (F (s 7) 1),G 2 (L (l 3)),G 2 (F (s 6) 1),G 2 (L (l 5)),G 2 (C 356 [r (l 4),r (l 6)] []),G 2 (n (l 7)),k (l 2) t (l 8)] [(11,9)] [6,7,8]
 |10=>Q 11 [m (s 4),m (s 2),m (s 5),A 2 (l 1) (l 2),F (l 3) 0,L (l 4),M 7 1 1 [l 5],q 8 1 8 (l 0) (l 6),m (l 7)] [(4,8)] [] [7,8] [w 8 9]
 |11=>R 6 [m (s 5),y .add (l 0) (i 1),m (l 1)] [(5,2)] []
 |_=>R 12 [m (s 4),m (l 0)] [(3,1)] [0,1,2,4,5]
def OX:BA:=⟨12,10,[0,1,2],0,false,[],j (d (Bq 0)) (j (d (Bq 1)) (j (j (d (Bq 2)) (h 9 (j (d (Bq 3)) (.ret)) (.skip))) (j (j (d (Bq 4)) (.block 0 (.loop (j (j (d (Bq 5)) (h 10 (.skip) (.exit 0))) (j (.block 1 (j (d (Bq 6)) (j (d (Bq 7)) (j (d (Bq 8)) (j (d (Bq 9)) (h 11 (d (Bq 10)) (.skip))))))) (d (Bq 11))))))) (j (d (Bq 12)) (.ret))))),[.slot 3]⟩
def Aa1:List Tmp:=[0,1,2,6,7,8,9,10,11,21,26,53]
def Cb:Nat→Bv
 |0=>R 0 [m (z 2)] [] [1]
 |1=>Q 1 [M 0 2 0 [],m (l 0)] [(2,1)] [] [] [w 0 5]
 |2=>R 2 [m (i 0)] [(3,0)] []
 |3=>R 3 [m (s 3),m (s 0),e (l 1),y .lss (l 0) (l 2)] [(4,3)] []
 |4=>R 5 [m (s 0),m (s 3),A 2 (l 0) (l 1),F (l 2) 0,L (l 3),C 250 [r (l 4)] [],n (l 5)] [(5,6)] []
 |5=>Y 6 [D (m (s 2)) [] [],D (m (s 0)) [] [],D (m (s 3)) [] [],D (A 2 (l 1) (l 2)) [] [],D (F (l 3) 0) [] [],D (L (l 4)) [] [],D (M 1 1 0 []) [1] [1],D (m (s 0)) [] [],D (m (s 3)) [] [],D (A 2 (l 7) (l 8)) [] [],D (F (l 9) 1) [] [],D (L (l 10)) [] [],D (q 2 1 8 (l 6) (l 11)) [1,2] [1,2],D (b [o,N 1] [(0,1,l 5),(1,1,l 12)]) [] [],D (M 3 2 1 [l 13]) [2,3] [2,3],D (p 4 2 32 (l 0) (l 14)) [3,4,5] [3,4,5],D (m (l 15)) [] []] [(2,16)] [] [1,2,3,4] [w 4 5]
 |6=>R 4 [m (s 3),y .add (l 0) (i 1),m (l 1)] [(3,2)] []
 |_=>R 7 [m (s 2),m (l 0)] [(1,1)] [0,2,3]
def KC:BA:=⟨6,6,[0],0,false,[],j (d (Cb 0)) (j (d (Cb 1)) (j (j (d (Cb 2)) (.block 0 (.loop (j (j (d (Cb 3)) (h 4 (.skip) (.exit 0))) (j (.block 1 (j (d (Cb 4)) (h 5 (d (Cb 5)) (.skip)))) (d (Cb 6))))))) (j (d (Cb 7)) (.ret)))),[.slot 1]⟩
def Wy:List Tmp:=[0,2,3,4,9,18]
def Mi:Nat→Bv
 |0=>R 0 [x 0 (s 0),m f] [(1,0)] [0,2]
 |_=>R 1 [F (s 1) 0,L (l 0),C 71 [r (l 1),r (i 1),r (i 9)] [],m (l 2),J 3 (F (s 1) 1),J 3 (L (l 4)),J 3 (C 312 [r (l 5)] []),k (l 3) (l 6) f,m (l 7)] [(2,8)] [1]
def PG:BA:=⟨3,1,[0],0,false,[],j (d (Mi 0)) (j (d (Mi 1)) (.ret)),[.slot 2]⟩
def AaG:List Tmp:=[0,1,2]
def Cs:Nat→Bv
 |0=>R 0 [m f] [] [1]
 |1=>R 1 [m (i 0)] [(2,0)] []
 |2=>R 2 [m (s 2),m (s 0),e (l 1),y .lss (l 0) (l 2)] [(3,3)] []
 |3=>R 4 [m (s 0),m (s 2),A 1 (l 0) (l 1),L (l 2),C 217 [r (l 3)] [],n (l 4)] [(4,5)] []
 |4=>R 5 [m f] [(1,0)] [0,2]
 |5=>R 3 [m (s 2),y .add (l 0) (i 1),m (l 1)] [(2,2)] []
 |_=>R 6 [m (s 0),e (l 0),y .leq (l 1) (i 12),m (l 2)] [(1,3)] [0,2]
def JL:BA:=⟨5,0,[0],0,false,[],j (d (Cs 0)) (j (j (d (Cs 1)) (.block 0 (.loop (j (j (d (Cs 2)) (h 3 (.skip) (.exit 0))) (j (.block 1 (j (d (Cs 3)) (h 4 (j (d (Cs 4)) (.ret)) (.skip)))) (d (Cs 5))))))) (j (d (Cs 6)) (.ret))),[.slot 1]⟩
def UK:List Tmp:=[0,2,3,7,15]
def KW:Nat→Bv
 |0=>R 0 [m (i 0)] [] [2]
 |_=>R 1 [m (s 0),M 0 1 1 [l 0],m (s 1),q 1 1 8 (l 1) (l 2),m (s 0),M 2 1 1 [l 4],q 3 1 8 (l 3) (l 5),C 338 [r (l 6)] [],m (l 7)] [(2,8)] [0,1]
def NK:BA:=⟨3,4,[0,1],0,false,[],j (d (KW 0)) (j (d (KW 1)) (.ret)),[.slot 2]⟩
def ZV:List Tmp:=[0,1,4]
def Bl:Nat→Bv
 |0=>R 0 [m (i 0)] [] [1]
 |1=>R 1 [m (i 1)] [(2,0)] []
 |2=>R 2 [m (s 0),C 334 [r (l 0)] [],n (l 1)] [(4,2)] []
 |3=>R 3 [m (i 0)] [(1,0)] [0,2]
 |4=>R 4 [m (i 0)] [(3,0)] []
 |5=>R 5 [m (s 3),m (s 0),e (l 1),y .lss (l 0) (l 2)] [(5,3)] []
 |6=>Y 7 [D (m (s 2)) [] [],D (m (s 0)) [] [],D (m (s 3)) [] [],D (A 1 (l 1) (l 2)) [] [],D (L (l 3)) [] [],D (e (l 4)) [] [],D (M 0 1 2 [l 0,l 5]) [0] [0],D (m (s 0)) [] [],D (m (s 3)) [] [],D (A 1 (l 7) (l 8)) [] [],D (L (l 9)) [] [],D (q 1 1 8 (l 6) (l 10)) [0,1] [0,1],D (C 338 [r (l 11)] []) [1] [],D (m (l 12)) [] []] [(2,13)] [] [0,1] []
 |7=>R 6 [m (s 3),y .add (l 0) (i 1),m (l 1)] [(3,2)] []
 |_=>R 8 [m (s 2),m (l 0)] [(1,1)] [0,2,3]
def Il:BA:=⟨6,2,[0],0,false,[],j (d (Bl 0)) (j (d (Bl 1)) (j (j (d (Bl 2)) (h 4 (j (d (Bl 3)) (.ret)) (.skip))) (j (j (d (Bl 4)) (.block 0 (.loop (j (j (d (Bl 5)) (h 5 (.skip) (.exit 0))) (j (.block 1 (d (Bl 6))) (d (Bl 7))))))) (j (d (Bl 8)) (.ret))))),[.slot 1]⟩
def SY:List Tmp:=[0,2,3,4,7,11]
def BK:Nat→Bv
 |0=>R 0 [m (z 1),m f] [] [1,2]
 |1=>R 1 [m (s 0),C 312 [r (l 0)] [],n (l 1)] [(5,2)] []
 |2=>R 2 [M 0 1 0 [],m (l 0),m f] [(1,1),(2,2)] [0]
 |3=>Q 3 [m (s 0),e (l 0),M 1 1 1 [l 1],m (l 2)] [(3,3)] [] [] [w 1 5]
 |4=>R 4 [m (i 0)] [(4,0)] []
 |5=>R 5 [m (s 4),m (s 0),e (l 1),y .lss (l 0) (l 2)] [(6,3)] []
 |6=>Y 7 [D (m (s 3)) [] [],D (m (s 0)) [] [],D (m (s 4)) [] [],D (A 2 (l 1) (l 2)) [] [],D (F (l 3) 0) [] [],D (L (l 4)) [] [],D (m (s 0)) [] [],D (m (s 4)) [] [],D (A 2 (l 6) (l 7)) [] [],D (F (l 8) 1) [] [],D (L (l 9)) [] [],D (e (l 10)) [] [],D (M 2 1 2 [l 5,l 11]) [2] [2],D (q 3 1 8 (l 0) (l 12)) [2,3,5] [3,5],D (m (l 13)) [] []] [(3,14)] [] [2,3] [w 3 5]
 |7=>Q 8 [m (s 3),m (s 0),m (s 4),A 2 (l 1) (l 2),F (l 3) 1,L (l 4),q 4 1 8 (l 0) (l 5),m (l 6)] [(3,7)] [] [4] [w 4 5]
 |8=>R 6 [m (s 4),y .add (l 0) (i 1),m (l 1)] [(4,2)] []
 |_=>R 9 [m (s 3),m (l 0),m t] [(1,1),(2,2)] [0,3,4]
def LG:BA:=⟨7,6,[0],0,false,[],j (d (BK 0)) (j (j (d (BK 1)) (h 5 (j (d (BK 2)) (.ret)) (.skip))) (j (d (BK 3)) (j (j (d (BK 4)) (.block 0 (.loop (j (j (d (BK 5)) (h 6 (.skip) (.exit 0))) (j (.block 1 (j (d (BK 6)) (d (BK 7)))) (d (BK 8))))))) (j (d (BK 9)) (.ret))))),[.slot 1,.slot 2]⟩
def X0:List Tmp:=[0,2,3,4,5,8,16]
def Nl:Nat→Bv
 |0=>R 0 [m (i 0)] [] [2]
 |1=>R 1 [m (s 1),C 71 [r (l 0),r (i 1),r (i 1000000000000)] [],n (l 1)] [(3,2)] []
 |2=>R 2 [m (i 0)] [(2,0)] [0,1]
 |_=>R 3 [m (s 0),m (s 1),y .rem (l 0) (l 1),m (s 1),y .add (l 2) (l 3),m (s 1),y .rem (l 4) (l 5),m (l 6)] [(2,7)] [0,1]
def AbR:BA:=⟨4,0,[0,1],0,false,[],j (d (Nl 0)) (j (j (d (Nl 1)) (h 3 (j (d (Nl 2)) (.ret)) (.skip))) (j (d (Nl 3)) (.ret))),[.slot 2]⟩
def Aod:List Tmp:=[0,1,4,7]
def FY:Nat→Bv
 |0=>R 0 [m (i 0)] [] [1]
 |1=>R 1 [m (i 11)] [(2,0)] []
 |2=>R 2 [m (i 0)] [(3,0)] []
 |3=>R 3 [m (s 3),m (s 0),e (l 1),y .lss (l 0) (l 2)] [(4,3)] []
 |4=>R 5 [m (s 2),y .mul (l 0) (i 1000003),m (s 0),m (s 3),A 1 (l 2) (l 3),L (l 4),C 339 [r (l 5),r (i 2147483647)] [],y .add (l 1) (l 6),y .add (l 7) (i 13),y .rem (l 8) (i 2147483647),m (l 9)] [(2,10)] []
 |5=>R 4 [m (s 3),y .add (l 0) (i 1),m (l 1)] [(3,2)] []
 |_=>R 6 [m (s 2),m (l 0)] [(1,1)] [0,2,3]
def Xv:BA:=⟨5,0,[0],0,false,[],j (d (FY 0)) (j (d (FY 1)) (j (j (d (FY 2)) (.block 0 (.loop (j (j (d (FY 3)) (h 4 (.skip) (.exit 0))) (j (.block 1 (d (FY 4))) (d (FY 5))))))) (j (d (FY 6)) (.ret)))),[.slot 1]⟩
def AkT:List Tmp:=[0,2,3,4,8]
def IY:Nat→Bv
 |0=>R 0 [x 0 (s 0),x 1 (s 1),m f] [(2,0),(3,1)] [0,1,4]
 |_=>R 1 [F (s 2) 0,L (l 0),F (s 3) 0,L (l 2),C 357 [r (l 1),r (l 3)] [],m (l 4),J 5 (F (s 2) 1),J 5 (L (l 6)),J 5 (F (s 3) 1),J 5 (L (l 8)),J 5 (C 358 [r (l 7),r (l 9)] []),k (l 5) (l 10) f,m (l 11)] [(4,12)] [2,3]
def KR:BA:=⟨5,2,[0,1],0,false,[],j (d (IY 0)) (j (d (IY 1)) (.ret)),[.slot 4]⟩
def V9:List Tmp:=[0,1,2,3,4]
def EZ:Nat→Bv
 |0=>R 0 [x 0 (s 0),x 1 (s 2),a 2 [N 1,N 2],m f] [(3,0),(4,1),(5,2)] [0,2,6]
 |1=>R 1 [F (s 3) 0,L (l 0),m (s 1),C 189 [r (l 1),r (l 2)] [3],m (l 3)] [(7,4)] [1]
 |2=>R 2 [P 2 (s 3),C 292 [r (l 0)] [],n (l 1),m (l 2),G 3 (m (s 7)),G 3 (e (l 4)),G 3 (y .eql (l 5) (i 0)),k (l 3) t (l 6)] [(8,7)] []
 |3=>R 3 [b [N 1,N 2] [],W 2 (s 5) (l 0),m f] [(6,2)] [3,4,7]
 |_=>R 4 [m (s 7),F (s 3) 1,L (l 1),I9.makeFunc 359 [s 4],C 298 [r (l 2),r (l 3)] [4],b [N 1,N 2] [(0,1,l 0),(1,1,l 4)],W 2 (s 5) (l 5),m t] [(6,7)] [3,4,7]
def NS:BA:=⟨9,5,[0,1,2],0,false,[],j (d (EZ 0)) (j (d (EZ 1)) (j (j (d (EZ 2)) (h 8 (j (d (EZ 3)) (.ret)) (.skip))) (j (d (EZ 4)) (.ret)))),[.cell 5 (some 2),.slot 6]⟩
def YN:List Tmp:=[0,1,2,3,5,6,7,8,20]
def BP:Nat→Bv
 |0=>R 0 [m (z 1)] [] [3]
 |1=>Q 1 [M 0 1 0 [],m (l 0)] [(4,1)] [] [] [w 0 5]
 |2=>R 2 [m (s 0),m (s 1),C 360 [r (l 0),r (l 1)] [],n (l 2),m (l 3),G 4 (m (s 2)),G 4 (C 320 [r (l 5)] []),G 4 (n (l 6)),k (l 4) t (l 7)] [(6,8)] []
 |3=>R 3 [m (s 4),m (l 0)] [(3,1)] [0,1,2,4]
 |4=>R 4 [m (s 2),e (l 0),m (i 0)] [(7,0),(8,1),(9,2)] [2]
 |5=>R 5 [y .lss (s 9) (s 8)] [(10,0)] []
 |6=>Q 6 [A 2 (s 7) (s 9),P 2 (l 0),a 1 [o,N 1],W 2 (l 2) (l 1)] [(5,2)] [] [1] []
 |7=>Y 7 [D (m (s 1)) [] [],D (.slice 1 (l 0) none (some (i 1))) [] [],D (P 2 (s 5)) [1] [],D (M 2 2 1 [l 2]) [2] [2],D (b [N 1,N 2] [(0,1,l 1),(1,1,l 3)]) [] [],D (m (s 0)) [] [],D (C 314 [r (l 4),r (l 5)] []) [2] [],D (n (l 6)) [] []] [(11,7)] [] [2] []
 |8=>Q 8 [m (s 4),F (s 5) 0,L (l 1),M 3 1 1 [l 2],q 4 1 8 (l 0) (l 3),m (l 4)] [(4,5)] [5] [3,4] [w 4 5]
 |9=>R 9 [y .add (s 9) (i 1),m (l 0)] [(9,1)] []
 |_=>R 10 [m (s 4),m (l 0)] [(3,1)] [0,1,4,7,8,9]
def Pd:BA:=⟨12,6,[0,1,2],0,false,[],j (d (BP 0)) (j (d (BP 1)) (j (j (d (BP 2)) (h 6 (j (d (BP 3)) (.ret)) (.skip))) (j (j (d (BP 4)) (.block 0 (.loop (j (d (BP 5)) (j (h 10 (.skip) (.exit 0)) (j (.block 1 (j (d (BP 6)) (j (d (BP 7)) (h 11 (d (BP 8)) (.skip))))) (d (BP 9)))))))) (j (d (BP 10)) (.ret))))),[.slot 3]⟩
def AaV:List Tmp:=[0,1,2,6,7,9,19,21,22,23,24,34]
def D6:Nat→Bv
 |0=>R 0 [x 0 (s 2),a 1 [o,N 2],m f] [(3,0),(4,1)] [2,5]
 |1=>R 1 [m (s 0),F (s 3) 0,L (l 1),C 190 [r (l 0),r (l 2)] [],m (l 3)] [(6,4)] [0]
 |2=>R 2 [P 2 (s 3),C 292 [r (l 0)] [],n (l 1),m (l 2),G 3 (m (s 6)),G 3 (y .eql (l 4) (i 0)),k (l 3) t (l 5)] [(7,6)] []
 |3=>R 3 [b [o,N 2] [],W 2 (s 4) (l 0),m f] [(5,2)] [1,3,6]
 |_=>R 4 [m (s 6),F (s 3) 1,L (l 1),m (s 1),C 361 [r (l 2),r (l 3)] [2],C 362 [r (l 4)] [3],b [o,N 2] [(0,1,l 0),(1,1,l 5)],W 2 (s 4) (l 6),m t] [(5,8)] [1,3,6]
def Jy:BA:=⟨8,4,[0,1,2],0,false,[],j (d (D6 0)) (j (d (D6 1)) (j (j (d (D6 2)) (h 7 (j (d (D6 3)) (.ret)) (.skip))) (j (d (D6 4)) (.ret)))),[.cell 4 (some 2),.slot 5]⟩
def Vi:List Tmp:=[0,1,2,5,6,7,8,19]
def Gd:Nat→Bv
 |0=>R 0 [m (i 0)] [] [3]
 |1=>R 1 [m (s 0),C 236 [r (l 0)] [],n (l 1),m (l 2),G 3 (m (s 1)),G 3 (C 364 [r (l 4)] []),G 3 (n (l 5)),k (l 3) t (l 6),m (l 7),G 8 (m (s 2)),G 8 (C 114 [r (l 9),r (i 0),r (i 1)] []),G 8 (n (l 10)),k (l 8) t (l 11)] [(4,12)] []
 |2=>R 2 [m (i 0)] [(3,0)] [0,1,2]
 |_=>R 3 [m (s 0),m (s 2),m (s 1),C 365 [r (l 2)] [],M 0 1 2 [l 1,l 3],C 366 [r (l 0),r (l 4)] [],m (l 5)] [(3,6)] [0,1,2]
def O3:BA:=⟨5,1,[0,1,2],0,false,[],j (d (Gd 0)) (j (j (d (Gd 1)) (h 4 (j (d (Gd 2)) (.ret)) (.skip))) (j (d (Gd 3)) (.ret))),[.slot 3]⟩
def Aa7:List Tmp:=[0,1,2,6,19]
def EC:Nat→Bv
 |0=>R 0 [x 0 (s 0),m (z 1)] [(1,0)] [0,2]
 |1=>R 1 [P 2 (s 1),C 292 [r (l 0)] [],n (l 1)] [(4,2)] []
 |2=>R 2 [m (z 1)] [(2,0)] [1]
 |3=>R 3 [F (s 1) 1,L (l 0),C 367 [r (l 1)] [1],m (l 2),X (l 3) 0,X (l 3) 1,m (l 4),m (l 5)] [(3,6)] []
 |_=>R 4 [F (s 1) 0,L (l 0),e (l 1),M 2 1 1 [l 2],F (s 1) 0,L (l 4),m (s 3),M 3 1 3 [l 3,l 5,l 6],C 368 [r (l 7)] [4],m (l 8)] [(2,9)] [1,3]
def Mv:BA:=⟨5,5,[0],0,false,[],j (d (EC 0)) (j (j (d (EC 1)) (h 4 (j (d (EC 2)) (.ret)) (.skip))) (j (d (EC 3)) (j (d (EC 4)) (.ret)))),[.slot 2]⟩
def Yh:List Tmp:=[0,1,2,3,7]
def Eh:Nat→Bv
 |0=>R 0 [x 0 (s 0),m (z 1)] [(1,0)] [0,2]
 |1=>R 1 [P 2 (s 1),C 369 [r (l 0)] [],n (l 1)] [(4,2)] []
 |2=>R 2 [m (z 1)] [(2,0)] [1]
 |3=>R 3 [F (s 1) 1,L (l 0),C 367 [r (l 1)] [1],m (l 2),X (l 3) 0,X (l 3) 1,m (l 4),m (l 5)] [(3,6)] []
 |_=>R 4 [F (s 1) 0,L (l 0),M 2 1 1 [l 1],m (s 3),q 3 1 8 (l 2) (l 3),m (l 4)] [(2,5)] [1,3]
def KO:BA:=⟨5,4,[0],0,false,[],j (d (Eh 0)) (j (j (d (Eh 1)) (h 4 (j (d (Eh 2)) (.ret)) (.skip))) (j (d (Eh 3)) (j (d (Eh 4)) (.ret)))),[.slot 2]⟩
def Wt:List Tmp:=[0,1,2,3,7]
def Lc:Nat→Bv
 |0=>R 0 [x 0 (s 0),x 1 (s 1),m f] [(2,0),(3,1)] [0,1,4]
 |_=>T 1 (.append [D (P 2 (s 2)) [0] [],D (C 292 [r (l 0)] []) [] [],D (m (l 1)) [] [],K 2 (P 2 (s 3)) [1] [],K 2 (C 369 [r (l 3)] []) [] [],D (k (l 2) (l 4) f) [] [],D (m (l 5)) [] [],K 6 (F (s 2) 0) [] [],K 6 (L (l 7)) [0] [],K 6 (F (s 3) 0) [] [],K 6 (L (l 9)) [1] [],K 6 (C 188 [r (l 8),r (l 10)] []) [] [],D (k (l 6) (l 11) f) [] [],D (m (l 12)) [] [],K 13 (F (s 3) 1) [] [],K 13 (L (l 14)) [1] [],K 13 (C 317 [r (l 15)] [2]) [2] [2],K 13 (F (s 2) 1) [] [],K 13 (L (l 17)) [0] [],K 13 (C 317 [r (l 18)] [3]) [3] [3],K 13 (C 189 [r (l 16),r (l 19)] [4]) [2,3,4] [4],K 13 (e (l 20)) [4] [],K 13 (y .eql (l 21) (i 0)) [] [],D (k (l 13) (l 22) f) [] [],D (m (l 23)) [] [],K 24 (F (s 3) 1) [] [],K 24 (L (l 25)) [1] [],K 24 (C 370 [r (l 26)] []) [] [],K 24 (n (l 27)) [] [],D (k (l 24) (l 28) f) [] []] [D (m (l 29)) [] []]) [(4,30)] [2,3]
def NU:BA:=⟨5,5,[0,1],0,false,[],j (d (Lc 0)) (j (d (Lc 1)) (.ret)),[.slot 4]⟩
def ZA:List Tmp:=[0,1,2,3,4]
def KZ:Nat→Bv
 |0=>R 0 [m f] [] [4]
 |_=>R 1 [m (s 3),y .neq (l 0) (i 0),m (l 1),J 2 (m (s 3)),J 2 (m (s 0)),J 2 (m (s 1)),J 2 (m (s 2)),J 2 (C 347 [r (l 4),r (l 5),r (l 6)] []),J 2 (y .eql (l 3) (l 7)),k (l 2) (l 8) f,m (l 9)] [(4,10)] [0,1,2,3]
def NM:BA:=⟨5,0,[0,1,2,3],0,false,[],j (d (KZ 0)) (j (d (KZ 1)) (.ret)),[.slot 4]⟩
def Y1:List Tmp:=[0,1,2,3,8]
def M5:Nat→Bv
 |0=>R 0 [m (i 0)] [] [2]
 |1=>R 1 [m (s 1),C 114 [r (l 0),r (i 1),r (i 1000000000000)] [],n (l 1)] [(3,2)] []
 |2=>R 2 [m (i 0)] [(2,0)] [0,1]
 |_=>R 3 [m (s 0),m (s 1),y .rem (l 0) (l 1),m (s 1),y .add (l 2) (l 3),m (s 1),y .rem (l 4) (l 5),m (l 6)] [(2,7)] [0,1]
def Abn:BA:=⟨4,0,[0,1],0,false,[],j (d (M5 0)) (j (j (d (M5 1)) (h 3 (j (d (M5 2)) (.ret)) (.skip))) (j (d (M5 3)) (.ret))),[.slot 2]⟩
def AnM:List Tmp:=[0,1,4,7]
def Fe:Nat→Bv
 |0=>R 0 [m (i 0)] [] [1]
 |1=>R 1 [m (i 11)] [(2,0)] []
 |2=>R 2 [m (s 0),e (l 0),m (i 0)] [(4,0),(5,1),(6,2)] [0]
 |3=>R 3 [y .lss (s 6) (s 5)] [(7,0)] []
 |4=>R 4 [A 1 (s 4) (s 6),L (l 0),m (l 1)] [(3,2)] []
 |5=>R 5 [m (s 2),y .mul (l 0) (i 1000003),m (s 3),C 354 [r (l 2),r (i 2147483647)] [],y .add (l 1) (l 3),y .add (l 4) (i 13),y .rem (l 5) (i 2147483647),m (l 6)] [(2,7)] [3]
 |6=>R 6 [y .add (s 6) (i 1),m (l 0)] [(6,1)] []
 |_=>R 7 [m (s 2),m (l 0)] [(1,1)] [2,4,5,6]
def Ym:BA:=⟨8,0,[0],0,false,[],j (d (Fe 0)) (j (d (Fe 1)) (j (j (d (Fe 2)) (.block 0 (.loop (j (d (Fe 3)) (j (h 7 (.skip) (.exit 0)) (j (.block 1 (j (d (Fe 4)) (d (Fe 5)))) (d (Fe 6)))))))) (j (d (Fe 7)) (.ret)))),[.slot 1]⟩
def Aj0:List Tmp:=[0,2,3,5,6,7,8,9]
def Ck:Nat→Bv
 |0=>R 0 [m f] [] [2]
 |1=>R 1 [m (s 0),e (l 0),m (s 1),e (l 2),y .neq (l 1) (l 3)] [(4,4)] []
 |2=>R 2 [m f] [(2,0)] [0,1]
 |3=>R 3 [m (i 0)] [(3,0)] []
 |4=>R 4 [m (s 3),m (s 0),e (l 1),y .lss (l 0) (l 2)] [(5,3)] []
 |5=>T 6 [D (m (s 0)) [] [],D (m (s 3)) [] [],D (A 1 (l 0) (l 1)) [] [],D (L (l 2)) [] [],D (m (s 1)) [] [],D (m (s 3)) [] [],D (A 1 (l 4) (l 5)) [] [],D (L (l 6)) [] [],D (y .neq (l 3) (l 7)) [] []] [(6,8)] []
 |6=>R 7 [m f] [(2,0)] [0,1,3]
 |7=>R 5 [m (s 3),y .add (l 0) (i 1),m (l 1)] [(3,2)] []
 |_=>R 8 [m t] [(2,0)] [0,1,3]
def NZ:BA:=⟨7,0,[0,1],0,false,[],j (d (Ck 0)) (j (j (d (Ck 1)) (h 4 (j (d (Ck 2)) (.ret)) (.skip))) (j (j (d (Ck 3)) (.block 0 (.loop (j (j (d (Ck 4)) (h 5 (.skip) (.exit 0))) (j (.block 1 (j (d (Ck 5)) (h 6 (j (d (Ck 6)) (.ret)) (.skip)))) (d (Ck 7))))))) (j (d (Ck 8)) (.ret)))),[.slot 2]⟩
def Aax:List Tmp:=[0,1,4,5,10,14,25]
def Ch:Nat→Bv
 |0=>R 0 [m f] [] [2]
 |1=>R 1 [m (s 0),e (l 0),m (s 1),e (l 2),y .neq (l 1) (l 3)] [(4,4)] []
 |2=>R 2 [m f] [(2,0)] [0,1]
 |3=>R 3 [m (i 0)] [(3,0)] []
 |4=>R 4 [m (s 3),m (s 0),e (l 1),y .lss (l 0) (l 2)] [(5,3)] []
 |5=>T 6 [D (m (s 0)) [] [],D (m (s 3)) [] [],D (A 2 (l 0) (l 1)) [] [],D (F (l 2) 0) [] [],D (L (l 3)) [] [],D (m (s 1)) [] [],D (m (s 3)) [] [],D (A 2 (l 5) (l 6)) [] [],D (F (l 7) 0) [] [],D (L (l 8)) [] [],D (y .neq (l 4) (l 9)) [] [],D (m (l 10)) [] [],H 11 (m (s 0)) [] [],H 11 (m (s 3)) [] [],H 11 (A 2 (l 12) (l 13)) [] [],H 11 (F (l 14) 1) [] [],H 11 (L (l 15)) [] [],H 11 (m (s 1)) [] [],H 11 (m (s 3)) [] [],H 11 (A 2 (l 17) (l 18)) [] [],H 11 (F (l 19) 1) [] [],H 11 (L (l 20)) [] [],H 11 (C 355 [r (l 16),r (l 21)] []) [] [],H 11 (n (l 22)) [] [],D (k (l 11) t (l 23)) [] []] [(6,24)] []
 |6=>R 7 [m f] [(2,0)] [0,1,3]
 |7=>R 5 [m (s 3),y .add (l 0) (i 1),m (l 1)] [(3,2)] []
 |_=>R 8 [m t] [(2,0)] [0,1,3]
def NH:BA:=⟨7,0,[0,1],0,false,[],j (d (Ch 0)) (j (j (d (Ch 1)) (h 4 (j (d (Ch 2)) (.ret)) (.skip))) (j (j (d (Ch 3)) (.block 0 (.loop (j (j (d (Ch 4)) (h 5 (.skip) (.exit 0))) (j (.block 1 (j (d (Ch 5)) (h 6 (j (d (Ch 6)) (.ret)) (.skip)))) (d (Ch 7))))))) (j (d (Ch 8)) (.ret)))),[.slot 2]⟩
def ZP:List Tmp:=[0,1,4,5,10,14,41]
def AB:Nat→Bv
 |0=>R 0 [m f] [] [2]
 |1=>R 1 [m (s 0),e (l 0),m (s 1),e (l 2),y .neq (l 1) (l 3)] [(4,4)] []
 |2=>R 2 [m f] [(2,0)] [0,1]
 |3=>R 3 [m (s 0),e (l 0),m (i 0)] [(5,1),(6,2)] []
 |4=>R 4 [y .lss (s 6) (s 5)] [(7,0)] []
 |5=>R 5 [m (s 6),m (l 0)] [(3,1)] []
 |6=>T 6 [D (m (s 0)) [] [],D (m (s 3)) [] [],D (A 1 (l 0) (l 1)) [] [],D (L (l 2)) [] [],D (m (s 1)) [] [],D (m (s 3)) [] [],D (A 1 (l 4) (l 5)) [] [],D (L (l 6)) [] [],D (y .neq (l 3) (l 7)) [] []] [(8,8)] [3]
 |7=>R 7 [m f] [(2,0)] [0,1,5,6]
 |8=>R 8 [y .add (s 6) (i 1),m (l 0)] [(6,1)] []
 |_=>R 9 [m t] [(2,0)] [0,1,5,6]
def F5:BA:=⟨9,0,[0,1],0,false,[],j (d (AB 0)) (j (j (d (AB 1)) (h 4 (j (d (AB 2)) (.ret)) (.skip))) (j (j (d (AB 3)) (.block 0 (.loop (j (d (AB 4)) (j (h 7 (.skip) (.exit 0)) (j (.block 1 (j (d (AB 5)) (j (d (AB 6)) (h 8 (j (d (AB 7)) (.ret)) (.skip))))) (d (AB 8)))))))) (j (d (AB 9)) (.ret)))),[.slot 2]⟩
def Pg:List Tmp:=[0,1,4,5,10,12,13,14,24]
def Lb:Nat→Bv
 |0=>R 0 [m f] [] [2]
 |_=>R 1 [m (s 0),m (s 1),C 372 [r (l 0),r (l 1),r (g 371)] [],m (l 2)] [(2,3)] [0,1]
def Ny:BA:=⟨3,0,[0,1],0,false,[],j (d (Lb 0)) (j (d (Lb 1)) (.ret)),[.slot 2]⟩
def Aal:List Tmp:=[0,1,4]
def IZ:Nat→Bv
 |0=>R 0 [m f] [] [2]
 |_=>R 1 [L (s 1),m (s 0),C 188 [r (l 0),r (l 1)] [],n (l 2),m (l 3)] [(2,4)] [0,1]
def KQ:BA:=⟨3,0,[0,1],0,false,[],j (d (IZ 0)) (j (d (IZ 1)) (.ret)),[.slot 2]⟩
def Wl:List Tmp:=[0,1,3]
def Ez:Nat→Bv
 |0=>R 0 [m f] [] [2]
 |1=>R 1 [m (s 1),C 232 [r (l 0)] [],n (l 1)] [(4,2)] []
 |2=>R 2 [m f] [(2,0)] [0,1]
 |3=>R 3 [m (s 0),m (s 1),I9.slice 1 (l 1) none (some (i 1)),C 273 [r (l 2)] [0,1],C 274 [r (l 0),r (l 3)] [2,3],m (l 4),X (l 5) 0,X (l 5) 1,a 4 [N 1,N 2],W 2 (l 8) (l 6),m (l 7)] [(3,10)] [0,1]
 |_=>R 4 [m (s 3),m (l 0)] [(2,1)] [3]
def MH:BA:=⟨5,5,[0,1],0,false,[],j (d (Ez 0)) (j (j (d (Ez 1)) (h 4 (j (d (Ez 2)) (.ret)) (.skip))) (j (d (Ez 3)) (j (d (Ez 4)) (.ret)))),[.slot 2]⟩
def Yt:List Tmp:=[0,1,4,6,9]
def IX:Nat→Bv
 |0=>R 0 [m (z 2)] [] [1]
 |_=>R 1 [m (s 0),C 298 [r (l 0),r (g 373)] [0],m (l 1)] [(1,2)] [0]
def KH:BA:=⟨2,1,[0],0,false,[],j (d (IX 0)) (j (d (IX 1)) (.ret)),[.slot 1]⟩
def Wq:List Tmp:=[0,2]
def Nq:Nat→Bv
 |0=>R 0 [x 0 (s 1),m (z 2)] [(2,0)] [1,3]
 |_=>R 1 [m (s 0),I9.makeFunc 374 [s 2],C 298 [r (l 0),r (l 1)] [1],m (l 2)] [(3,3)] [0,2]
def Ra:BA:=⟨4,2,[0,1],0,false,[],j (d (Nq 0)) (j (d (Nq 1)) (.ret)),[.slot 3]⟩
def AdD:List Tmp:=[0,1,3,4]
def H8:Nat→Bv
 |0=>R 0 [m f] [] [1]
 |_=>R 1 [m (s 0),e (l 0),y .leq (l 1) (i 12),m (l 2),J 3 (m (s 0)),J 3 (C 269 [r (l 4),r (g 375)] []),J 3 (n (l 5)),k (l 3) (l 6) f,m (l 7)] [(1,8)] [0]
def JP:BA:=⟨2,0,[0],0,false,[],j (d (H8 0)) (j (d (H8 1)) (.ret)),[.slot 1]⟩
def U5:List Tmp:=[0,2]
def Kw:Nat→Bv
 |0=>R 0 [m (i 0)] [] [2]
 |_=>R 1 [m (s 0),M 0 1 1 [l 0],m (s 1),m (s 0),M 1 1 1 [l 3],M 2 1 3 [l 1,l 2,l 4],C 368 [r (l 5)] [3],C 353 [r (l 6)] [],m (l 7)] [(2,8)] [0,1]
def Ob:BA:=⟨3,4,[0,1],0,false,[],j (d (Kw 0)) (j (d (Kw 1)) (.ret)),[.slot 2]⟩
def YB:List Tmp:=[0,1,4]
def Ba:Nat→Bv
 |0=>R 0 [m (i 0)] [] [1]
 |1=>R 1 [m (s 0),C 364 [r (l 0)] [],n (l 1)] [(4,2)] []
 |2=>R 2 [m (i 0)] [(1,0)] [0]
 |3=>R 3 [m (i 1)] [(2,0)] []
 |4=>R 4 [m (s 0),e (l 0),m (i 0)] [(5,0),(6,1),(7,2)] [0]
 |5=>R 5 [y .lss (s 7) (s 6)] [(8,0)] []
 |6=>R 6 [A 1 (s 5) (s 7),L (l 0),m (l 1)] [(3,2)] []
 |7=>Q 7 [m (s 2),m (s 3),e (l 1),M 0 1 2 [l 0,l 2],m (s 3),q 1 1 8 (l 3) (l 4),C 353 [r (l 5)] [],m (l 6)] [(2,7)] [3] [0,1] []
 |8=>R 8 [y .add (s 7) (i 1),m (l 0)] [(7,1)] []
 |_=>R 9 [m (s 2),m (l 0)] [(1,1)] [2,5,6,7]
def H7:BA:=⟨9,2,[0],0,false,[],j (d (Ba 0)) (j (j (d (Ba 1)) (h 4 (j (d (Ba 2)) (.ret)) (.skip))) (j (d (Ba 3)) (j (j (d (Ba 4)) (.block 0 (.loop (j (d (Ba 5)) (j (h 8 (.skip) (.exit 0)) (j (.block 1 (j (d (Ba 6)) (d (Ba 7)))) (d (Ba 8)))))))) (j (d (Ba 9)) (.ret))))),[.slot 1]⟩
def TM:List Tmp:=[0,2,3,5,8,9,10,11,12]
def BM:Nat→Bv
 |0=>R 0 [m (z 1),m f] [] [1,2]
 |1=>R 1 [m (s 0),C 320 [r (l 0)] [],n (l 1)] [(5,2)] []
 |2=>R 2 [m (z 1),m f] [(1,0),(2,1)] [0]
 |3=>Q 3 [m (s 0),e (l 0),M 0 1 1 [l 1],m (l 2)] [(3,3)] [] [] [w 0 5]
 |4=>R 4 [m (s 0),e (l 0),m (i 0)] [(6,0),(7,1),(8,2)] [0]
 |5=>R 5 [y .lss (s 8) (s 7)] [(9,0)] []
 |6=>Q 6 [A 2 (s 6) (s 8),P 2 (l 0),a 1 [o,N 1],W 2 (l 2) (l 1)] [(4,2)] [] [1] []
 |7=>Y 7 [D (m (s 3)) [] [],D (F (s 4) 0) [] [],D (L (l 1)) [1] [],D (F (s 4) 1) [] [],D (L (l 3)) [1] [],D (e (l 4)) [] [],D (M 2 1 2 [l 2,l 5]) [2] [2],D (q 3 1 8 (l 0) (l 6)) [2,3,5] [3,5],D (F (s 4) 1) [] [],D (L (l 8)) [1] [],D (q 4 1 8 (l 7) (l 9)) [3,4] [3,4],D (m (l 10)) [] []] [(3,11)] [4] [2,3,4] [w 4 5]
 |8=>R 8 [y .add (s 8) (i 1),m (l 0)] [(8,1)] []
 |_=>R 9 [m (s 3),m (l 0),m t] [(1,1),(2,2)] [3,6,7,8]
def LF:BA:=⟨10,6,[0],0,false,[],j (d (BM 0)) (j (j (d (BM 1)) (h 5 (j (d (BM 2)) (.ret)) (.skip))) (j (d (BM 3)) (j (j (d (BM 4)) (.block 0 (.loop (j (d (BM 5)) (j (h 9 (.skip) (.exit 0)) (j (.block 1 (j (d (BM 6)) (d (BM 7)))) (d (BM 8)))))))) (j (d (BM 9)) (.ret))))),[.slot 1,.slot 2]⟩
def Yr:List Tmp:=[0,2,3,4,6,9,13,14,15,16]
def LD:Nat→Bv
 |0=>R 0 [x 0 (s 0),m f] [(1,0)] [0,2]
 |_=>R 1 [F (s 1) 0,L (l 0),C 114 [r (l 1),r (i 1),r (i 9)] [],m (l 2),J 3 (F (s 1) 1),J 3 (L (l 4)),J 3 (C 320 [r (l 5)] []),k (l 3) (l 6) f,m (l 7)] [(2,8)] [1]
def PZ:BA:=⟨3,1,[0],0,false,[],j (d (LD 0)) (j (d (LD 1)) (.ret)),[.slot 2]⟩
def Abc:List Tmp:=[0,1,2]
def Lh:Nat→Bv
 |0=>R 0 [m f] [] [1]
 |_=>R 1 [m (s 0),C 317 [r (l 0)] [0],C 270 [r (l 1)] [],m (l 2)] [(1,3)] [0]
def NE:BA:=⟨2,1,[0],0,false,[],j (d (Lh 0)) (j (d (Lh 1)) (.ret)),[.slot 1]⟩
def Aae:List Tmp:=[0,2]
def Ab:Nat→Bv
 |0=>R 0 [m f] [] [3]
 |1=>R 1 [m (s 0),e (l 0),m (s 1),e (l 2),y .neq (l 1) (l 3)] [(7,4)] []
 |2=>R 2 [m f] [(3,0)] [0,1,2]
 |3=>R 3 [m (s 0),e (l 0),m (i 0)] [(8,0),(9,1),(10,2)] [0]
 |4=>R 4 [y .lss (s 10) (s 9)] [(11,0)] []
 |5=>Q 5 [m (s 10),A 2 (s 8) (s 10),P 2 (l 1),a 0 [o,N 1],m (l 0),W 2 (l 3) (l 2)] [(4,4),(5,3)] [] [0] []
 |6=>Q 6 [m (s 1),m (s 4),A 2 (l 0) (l 1),P 2 (l 2),a 1 [o,N 1],W 2 (l 4) (l 3)] [(6,4)] [4] [1] []
 |7=>R 7 [m (s 2),P 2 (s 5),P 2 (s 6),I9.callv (l 0) [r (l 1),r (l 2)] [],n (l 3)] [(12,4)] [5,6]
 |8=>R 8 [m f] [(3,0)] [1,2,8,9,10]
 |9=>R 9 [y .add (s 10) (i 1),m (l 0)] [(10,1)] []
 |_=>R 10 [m t] [(3,0)] [1,2,8,9,10]
def Bf:BA:=⟨13,2,[0,1,2],0,false,[],j (d (Ab 0)) (j (j (d (Ab 1)) (h 7 (j (d (Ab 2)) (.ret)) (.skip))) (j (j (d (Ab 3)) (.block 0 (.loop (j (d (Ab 4)) (j (h 11 (.skip) (.exit 0)) (j (.block 1 (j (d (Ab 5)) (j (d (Ab 6)) (j (d (Ab 7)) (h 12 (j (d (Ab 8)) (.ret)) (.skip)))))) (d (Ab 9)))))))) (j (d (Ab 10)) (.ret)))),[.slot 3]⟩
def Ep:List Tmp:=[0,1,2,6,7,8,9,14,15,16,17,18,30]
def Lx:Nat→Bv
 |0=>R 0 [x 0 (s 0),x 1 (s 1),m f] [(2,0),(3,1)] [0,1,4]
 |_=>R 1 [F (s 2) 0,L (l 0),F (s 3) 0,L (l 2),y .eql (l 1) (l 3),m (l 4),J 5 (F (s 2) 1),J 5 (L (l 6)),J 5 (F (s 3) 1),J 5 (L (l 8)),J 5 (C 357 [r (l 7),r (l 9)] []),k (l 5) (l 10) f,m (l 11)] [(4,12)] [2,3]
def OW:BA:=⟨5,2,[0,1],0,false,[],j (d (Lx 0)) (j (d (Lx 1)) (.ret)),[.slot 4]⟩
def AaI:List Tmp:=[0,1,2,3,4]
def G7:Nat→Bv
 |0=>R 0 [m f] [] [1]
 |_=>R 1 [m (s 0),C 279 [r (l 0)] [],n (l 1),m (l 2)] [(1,3)] [0]
def I7:BA:=⟨2,0,[0],0,false,[],j (d (G7 0)) (j (d (G7 1)) (.ret)),[.slot 1]⟩
def Uf:List Tmp:=[0,2]
def KL:Nat→Bv
 |0=>R 0 [m f] [] [2]
 |_=>R 1 [L (s 1),m (s 0),C 188 [r (l 0),r (l 1)] [],m (l 2)] [(2,3)] [0,1]
def NT:BA:=⟨3,0,[0,1],0,false,[],j (d (KL 0)) (j (d (KL 1)) (.ret)),[.slot 2]⟩
def Aab:List Tmp:=[0,1,3]
def GD:Nat→Bv
 |0=>R 0 [m f] [] [1]
 |_=>R 1 [m (s 0),C 233 [r (l 0),r (i 0),r (i 255)] [],n (l 1),m (l 2)] [(1,3)] [0]
def HV:BA:=⟨2,0,[0],0,false,[],j (d (GD 0)) (j (d (GD 1)) (.ret)),[.slot 1]⟩
def Tv:List Tmp:=[0,2]
attribute [simp] Dg PI ED OV Df PV BO KN Te XK NV Rh Gp TG Gj Sy FO TU EJ TK Ee TB Dw Tt BI L8 FB Uq EK Fh EI U1 Fz Vn Dv Uv Dx Sw Bc F4 AJ QV Bj Qv Ao Qw Bh Kk ET NW BG NJ BH Nr CR Kl Dk Oc Dj NR Dq NN BU Nt Cn Np Cm NG Bt Lu FK Pm C8 LY D7 Po Ce Px Cw TV EO Sk JB Me PU SN Jw LW Ea Eo Jz LP JF Ms AO E8 Io JN QK UO Qx Vb EL Sr JM MF Bu QB GL Qz Od QM NP Q6 Jq Ur CO Ps KM N7 CQ KY Em Q0 Cc K4 DV QT Co CB Nw Q5 Fu Uu QS U0 Ak CZ N9 Rb EF Mq C9 Q9 BJ LX En QY DL Q8 Be L9 JJ LM D5 Pf Mj O6 DT QX JO LK JE Mc Dh O8 CP PS Dc Dz JH Mt Cq Cy Ho Jv Aq Ec Al CY DJ QH BV JC AX JI Ey MG CJ PN JD Mx BD Pk Kz NA Mk Pz Ma PO NI Rf JA Ml DN QR EM Ti Ih TD BZ LQ Ia TA Br LC GJ QN Nz QC MZ AaL CS K7 GQ QD I6 K8 IC Yg Db Ri MS AbK Nn QO Iu Xc Cz QA GZ I4 NF QF CG PY BQ Pq DU QL CF PK FI O9 Da Qy Ga Km Du I5 DZ JG Dm NQ Gc PL Ew LH Eg KF KG N8 Im SB Gb K9 FP IU Ef SL KP Oa HY Tx I8 K6 AL Nu Bq OX Cb KC Mi PG Cs JL KW NK Bl Il BK LG Nl AbR FY Xv IY KR EZ NS BP Pd D6 Jy Gd O3 EC Mv Eh KO Lc NU KZ NM M5 Abn Fe Ym Ck NZ Ch NH AB F5 Lb Ny IZ KQ Ez MH IX KH Nq Ra H8 JP Kw Ob Ba H7 BM LF LD PZ Lh NE Ab Bf Lx OW G7 I7 KL NT GD HV
end Go.Eng.T
namespace Go.Eng.T
abbrev Ai5:Nat:=0
abbrev Ati:Nat:=1
abbrev As3:Nat:=2
abbrev At7:Nat:=3
abbrev AqY:Nat:=4
abbrev Arv:Nat:=5
abbrev AhY:Nat:=6
abbrev AhE:Nat:=7
abbrev AiQ:Nat:=8
abbrev Aq4:Nat:=9
abbrev Arx:Nat:=10
abbrev Aim:Nat:=11
abbrev Auo:Nat:=12
abbrev AtI:Nat:=13
abbrev AuW:Nat:=14
abbrev Av1:Nat:=15
abbrev Azk:Nat:=16
abbrev Arb:Nat:=17
abbrev At2:Nat:=18
abbrev Auv:Nat:=19
abbrev Aub:Nat:=20
abbrev AwC:Nat:=21
abbrev AxH:Nat:=22
abbrev Axa:Nat:=23
abbrev Avz:Nat:=24
abbrev Ax4:Nat:=25
abbrev AvF:Nat:=26
abbrev AsM:Nat:=27
abbrev Aw9:Nat:=28
abbrev Axs:Nat:=29
abbrev Ay9:Nat:=30
abbrev Ayu:Nat:=31
abbrev AqF:Nat:=32
abbrev AtG:Nat:=33
abbrev Auc:Nat:=34
abbrev At6:Nat:=35
abbrev Aov:Nat:=36
abbrev WH:Nat:=37
abbrev At3:Nat:=38
abbrev Auh:Nat:=39
abbrev Axb:Nat:=40
abbrev AsC:Nat:=41
abbrev AAU:Nat:=42
abbrev Asm:Nat:=43
abbrev Azm:Nat:=44
abbrev AtC:Nat:=45
abbrev ABs:Nat:=46
abbrev Azc:Nat:=47
abbrev Ars:Nat:=48
abbrev At9:Nat:=49
abbrev Aui:Nat:=50
abbrev AtM:Nat:=51
abbrev AuL:Nat:=52
abbrev Aox:Nat:=53
abbrev AqR:Nat:=54
abbrev Aq5:Nat:=55
abbrev Arp:Nat:=56
abbrev Avv:Nat:=57
abbrev Aop:Nat:=58
abbrev Aqx:Nat:=59
abbrev Aq2:Nat:=60
abbrev Aq9:Nat:=61
abbrev Atl:Nat:=62
abbrev Avk:Nat:=63
abbrev Aw1:Nat:=64
abbrev Ayc:Nat:=65
abbrev AxU:Nat:=66
abbrev AtW:Nat:=67
abbrev Avw:Nat:=68
abbrev Ard:Nat:=69
abbrev Avy:Nat:=70
abbrev EB:Nat:=71
abbrev Awe:Nat:=72
abbrev Auw:Nat:=73
abbrev At8:Nat:=74
abbrev AtN:Nat:=75
abbrev AsW:Nat:=76
abbrev ArU:Nat:=77
abbrev AxB:Nat:=78
abbrev Aur:Nat:=79
abbrev AuS:Nat:=80
abbrev Ape:Nat:=81
abbrev AuC:Nat:=82
abbrev Ass:Nat:=83
abbrev AvZ:Nat:=84
abbrev Atz:Nat:=85
abbrev Aon:Nat:=86
abbrev AvA:Nat:=87
abbrev AqX:Nat:=88
abbrev Axk:Nat:=89
abbrev AzW:Nat:=90
abbrev AtS:Nat:=91
abbrev AxA:Nat:=92
abbrev At0:Nat:=93
abbrev ArJ:Nat:=94
abbrev Ah9:Nat:=95
abbrev Avn:Nat:=96
abbrev Aum:Nat:=97
abbrev AsU:Nat:=98
abbrev Awa:Nat:=99
abbrev AvQ:Nat:=100
abbrev Arc:Nat:=101
abbrev ApZ:Nat:=102
abbrev AsL:Nat:=103
abbrev AvR:Nat:=104
abbrev Abv:Nat:=105
abbrev Aw5:Nat:=106
abbrev AtL:Nat:=107
abbrev Auf:Nat:=108
abbrev Ato:Nat:=109
abbrev Asp:Nat:=110
abbrev Axf:Nat:=111
abbrev At1:Nat:=112
abbrev AuV:Nat:=113
abbrev CK:Nat:=114
abbrev AqB:Nat:=115
abbrev AvB:Nat:=116
abbrev Akf:Nat:=117
abbrev AtH:Nat:=118
abbrev AxE:Nat:=119
abbrev AtO:Nat:=120
abbrev ArY:Nat:=121
abbrev AsS:Nat:=122
abbrev Aib:Nat:=123
abbrev AuZ:Nat:=124
abbrev AuD:Nat:=125
abbrev AoX:Nat:=126
abbrev Auj:Nat:=127
abbrev ArF:Nat:=128
abbrev AwH:Nat:=129
abbrev Aok:Nat:=130
abbrev AwU:Nat:=131
abbrev Arr:Nat:=132
abbrev AxV:Nat:=133
abbrev As8:Nat:=134
abbrev AuU:Nat:=135
abbrev AwX:Nat:=136
abbrev AwK:Nat:=137
abbrev AuQ:Nat:=138
abbrev Ax6:Nat:=139
abbrev AyS:Nat:=140
abbrev Axq:Nat:=141
abbrev Ake:Nat:=142
abbrev Axn:Nat:=143
abbrev Aup:Nat:=144
abbrev Aue:Nat:=145
abbrev ArP:Nat:=146
abbrev Aux:Nat:=147
abbrev AtQ:Nat:=148
abbrev ApH:Nat:=149
abbrev Aou:Nat:=150
abbrev AsE:Nat:=151
abbrev UI:Nat:=152
abbrev Ats:Nat:=153
abbrev AxF:Nat:=154
abbrev Avl:Nat:=155
abbrev AvC:Nat:=156
abbrev AoA:Nat:=157
abbrev Ay7:Nat:=158
abbrev Az1:Nat:=159
abbrev Aoi:Nat:=160
abbrev Aus:Nat:=161
abbrev AbJ:Nat:=162
abbrev AtU:Nat:=163
abbrev Axl:Nat:=164
abbrev Axx:Nat:=165
abbrev JV:Nat:=166
abbrev AsT:Nat:=167
abbrev LU:Nat:=168
abbrev AtZ:Nat:=169
abbrev Azd:Nat:=170
abbrev AyN:Nat:=171
abbrev AuJ:Nat:=172
abbrev Ali:Nat:=173
abbrev AxW:Nat:=174
abbrev Auk:Nat:=175
abbrev Auy:Nat:=176
abbrev As2:Nat:=177
abbrev Aul:Nat:=178
abbrev AuA:Nat:=179
abbrev AoR:Nat:=180
abbrev Aos:Nat:=181
abbrev Atx:Nat:=182
abbrev Ack:Nat:=183
abbrev AxG:Nat:=184
abbrev Axu:Nat:=185
abbrev Axw:Nat:=186
abbrev Ayn:Nat:=187
abbrev Bz:Nat:=188
abbrev MK:Nat:=189
abbrev LJ:Nat:=190
abbrev Auq:Nat:=191
abbrev ArZ:Nat:=192
abbrev AvY:Nat:=193
abbrev Avo:Nat:=194
abbrev Aoo:Nat:=195
abbrev AxY:Nat:=196
abbrev Ajs:Nat:=197
abbrev AgW:Nat:=198
abbrev Aol:Nat:=199
abbrev Aut:Nat:=200
abbrev Aby:Nat:=201
abbrev AtT:Nat:=202
abbrev AxJ:Nat:=203
abbrev AyF:Nat:=204
abbrev Azq:Nat:=205
abbrev AzZ:Nat:=206
abbrev Rv:Nat:=207
abbrev EW:Nat:=208
abbrev AxR:Nat:=209
abbrev AaR:Nat:=210
abbrev AfH:Nat:=211
abbrev AiL:Nat:=212
abbrev AiO:Nat:=213
abbrev ABk:Nat:=214
abbrev Ar0:Nat:=215
abbrev AuF:Nat:=216
abbrev TS:Nat:=217
abbrev Aoh:Nat:=218
abbrev Av3:Nat:=219
abbrev Zu:Nat:=220
abbrev Arz:Nat:=221
abbrev XJ:Nat:=222
abbrev WQ:Nat:=223
abbrev AfS:Nat:=224
abbrev AtY:Nat:=225
abbrev AzO:Nat:=226
abbrev Air:Nat:=227
abbrev AAW:Nat:=228
abbrev AzL:Nat:=229
abbrev AqA:Nat:=230
abbrev At4:Nat:=231
abbrev EX:Nat:=232
abbrev Iw:Nat:=233
abbrev AfZ:Nat:=234
abbrev AiF:Nat:=235
abbrev Abe:Nat:=236
abbrev AtV:Nat:=237
abbrev OP:Nat:=238
abbrev RL:Nat:=239
abbrev XL:Nat:=240
abbrev Axg:Nat:=241
abbrev Ag7:Nat:=242
abbrev AxS:Nat:=243
abbrev Aow:Nat:=244
abbrev AvH:Nat:=245
abbrev YC:Nat:=246
abbrev Auz:Nat:=247
abbrev Qk:Nat:=248
abbrev AzH:Nat:=249
abbrev MI:Nat:=250
abbrev Ahx:Nat:=251
abbrev ApT:Nat:=252
abbrev AsI:Nat:=253
abbrev Axp:Nat:=254
abbrev AzE:Nat:=255
abbrev R5:Nat:=256
abbrev AyQ:Nat:=257
abbrev Aio:Nat:=258
abbrev AhM:Nat:=259
abbrev Rt:Nat:=260
abbrev Aiw:Nat:=261
abbrev ApI:Nat:=262
abbrev AxT:Nat:=263
abbrev Ahj:Nat:=264
abbrev AzR:Nat:=265
abbrev Xg:Nat:=266
abbrev F7:Nat:=267
abbrev RQ:Nat:=268
abbrev Fx:Nat:=269
abbrev Sd:Nat:=270
abbrev O1:Nat:=271
abbrev Ei:Nat:=272
abbrev RH:Nat:=273
abbrev KD:Nat:=274
abbrev AtF:Nat:=275
abbrev Aqs:Nat:=276
abbrev AlR:Nat:=277
abbrev Oi:Nat:=278
abbrev RI:Nat:=279
abbrev Agn:Nat:=280
abbrev Agv:Nat:=281
abbrev AhO:Nat:=282
abbrev AdQ:Nat:=283
abbrev AxD:Nat:=284
abbrev Fq:Nat:=285
abbrev KA:Nat:=286
abbrev Ag0:Nat:=287
abbrev AeJ:Nat:=288
abbrev Ah7:Nat:=289
abbrev Adl:Nat:=290
abbrev AxK:Nat:=291
abbrev F3:Nat:=292
abbrev Ub:Nat:=293
abbrev AiK:Nat:=294
abbrev Ami:Nat:=295
abbrev QI:Nat:=296
abbrev TY:Nat:=297
abbrev Ip:Nat:=298
abbrev Aie:Nat:=299
abbrev ZJ:Nat:=300
abbrev UU:Nat:=301
abbrev V4:Nat:=302
abbrev XW:Nat:=303
abbrev Ada:Nat:=304
abbrev Abz:Nat:=305
abbrev Zg:Nat:=306
abbrev Ae8:Nat:=307
abbrev Zo:Nat:=308
abbrev Qo:Nat:=309
abbrev Adq:Nat:=310
abbrev WM:Nat:=311
abbrev Jb:Nat:=312
abbrev Zk:Nat:=313
abbrev Qa:Nat:=314
abbrev Wd:Nat:=315
abbrev Ann:Nat:=316
abbrev OD:Nat:=317
abbrev UQ:Nat:=318
abbrev AcK:Nat:=319
abbrev Ja:Nat:=320
abbrev Acl:Nat:=321
abbrev ZO:Nat:=322
abbrev P6:Nat:=323
abbrev Jp:Nat:=324
abbrev Td:Nat:=325
abbrev QU:Nat:=326
abbrev GN:Nat:=327
abbrev Zy:Nat:=328
abbrev Afb:Nat:=329
abbrev AcH:Nat:=330
abbrev WC:Nat:=331
abbrev YF:Nat:=332
abbrev Uo:Nat:=333
abbrev OZ:Nat:=334
abbrev UC:Nat:=335
abbrev AcF:Nat:=336
abbrev RD:Nat:=337
abbrev Xo:Nat:=338
abbrev AjA:Nat:=339
abbrev ZC:Nat:=340
abbrev Af3:Nat:=341
abbrev Adt:Nat:=342
abbrev Xb:Nat:=343
abbrev Ar7:Nat:=344
abbrev AaD:Nat:=345
abbrev ZQ:Nat:=346
abbrev U4:Nat:=347
abbrev AdY:Nat:=348
abbrev Adc:Nat:=349
abbrev Rk:Nat:=350
abbrev AiB:Nat:=351
abbrev EP:Nat:=352
abbrev Xn:Nat:=353
abbrev Ajo:Nat:=354
abbrev T9:Nat:=355
abbrev Ud:Nat:=356
abbrev Jg:Nat:=357
abbrev Aec:Nat:=358
abbrev Qq:Nat:=359
abbrev Abf:Nat:=360
abbrev Aiu:Nat:=361
abbrev Zm:Nat:=362
abbrev Apg:Nat:=363
abbrev Pe:Nat:=364
abbrev Vj:Nat:=365
abbrev Ad9:Nat:=366
abbrev Rq:Nat:=367
abbrev IJ:Nat:=368
abbrev Vs:Nat:=369
abbrev AdA:Nat:=370
abbrev Ae3:Nat:=371
abbrev EG:Nat:=372
abbrev Oh:Nat:=373
abbrev TW:Nat:=374
abbrev MR:Nat:=375
abbrev Alf:Nat:=376
abbrev AtX:Nat:=377
abbrev Ak7:Nat:=378
abbrev AkJ:Nat:=379
abbrev AwF:Nat:=380
abbrev Awp:Nat:=381
abbrev AtE:Nat:=382
abbrev Auu:Nat:=383
abbrev Aw4:Nat:=384
abbrev Ah4:Nat:=385
abbrev Axr:Nat:=386
abbrev Axd:Nat:=387
abbrev Axh:Nat:=388
abbrev Aig:Nat:=389
abbrev XR:Nat:=390
abbrev AwO:Nat:=391
abbrev Aep:Nat:=392
abbrev P7:Nat:=393
abbrev Yw:Nat:=394
abbrev AcS:Nat:=395
abbrev Yx:Nat:=396
abbrev AaB:Nat:=397
abbrev ZE:Nat:=398
abbrev Uh:Nat:=399
abbrev Aw6:Nat:=400
abbrev XF:Nat:=401
abbrev Ach:Nat:=402
abbrev Rw:Nat:=403
abbrev NY:Nat:=404
abbrev Kr:Nat:=405
abbrev Ib:Nat:=406
abbrev AdX:Nat:=407
abbrev AjW:Nat:=408
abbrev Ah1:Nat:=409
abbrev W9:Nat:=410
abbrev AgJ:Nat:=411
abbrev Aip:Nat:=412
abbrev AjJ:Nat:=413
abbrev AgE:Nat:=414
abbrev AfK:Nat:=415
abbrev Acd:Nat:=416
abbrev AdS:Nat:=417
abbrev Wm:Nat:=418
abbrev R6:Nat:=419
abbrev AmU:Nat:=420
abbrev AxO:Nat:=421
abbrev Axt:Nat:=422
abbrev AmF:Nat:=423
abbrev Axz:Nat:=424
abbrev AxL:Nat:=425
abbrev AmP:Nat:=426
abbrev AxI:Nat:=427
abbrev Axm:Nat:=428
abbrev Amb:Nat:=429
abbrev Ak4:Nat:=430
abbrev AmM:Nat:=431
abbrev Ajk:Nat:=432
abbrev Aty:Nat:=433
abbrev AsK:Nat:=434
abbrev Akx:Nat:=435
abbrev Ajw:Nat:=436
abbrev AlS:Nat:=437
abbrev AlQ:Nat:=438
abbrev AlA:Nat:=439
abbrev An4:Nat:=440
abbrev AxM:Nat:=441
abbrev AlT:Nat:=442
abbrev Ahl:Nat:=443
abbrev Ai6:Nat:=444
abbrev AnZ:Nat:=445
abbrev Agm:Nat:=446
abbrev Ak6:Nat:=447
abbrev Ajq:Nat:=448
abbrev Ahm:Nat:=449
abbrev AjV:Nat:=450
abbrev AhI:Nat:=451
abbrev AjO:Nat:=452
abbrev AgQ:Nat:=453
abbrev Ajg:Nat:=454
abbrev AlO:Nat:=455
abbrev Akt:Nat:=456
abbrev AlH:Nat:=457
abbrev AjM:Nat:=458
abbrev AwD:Nat:=459
abbrev ABA:Nat:=460
abbrev AlY:Nat:=461
abbrev AAG:Nat:=462
abbrev Aym:Nat:=463
abbrev ArT:Nat:=464
abbrev Arl:Nat:=465
abbrev AzX:Nat:=466
abbrev Aly:Nat:=467
abbrev At5:Nat:=468
abbrev AsX:Nat:=469
abbrev Aq0:Nat:=470
abbrev Av7:Nat:=471
abbrev Aoy:Nat:=472
abbrev Az3:Nat:=473
abbrev Azg:Nat:=474
abbrev Azw:Nat:=475
abbrev Avg:Nat:=476
abbrev AvM:Nat:=477
abbrev Axy:Nat:=478
abbrev AwR:Nat:=479
abbrev Azp:Nat:=480
abbrev AzT:Nat:=481
abbrev AyX:Nat:=482
abbrev Azy:Nat:=483
abbrev Aud:Nat:=484
abbrev AuG:Nat:=485
abbrev Ayj:Nat:=486
abbrev Axe:Nat:=487
abbrev AxC:Nat:=488
abbrev Axo:Nat:=489
abbrev AxP:Nat:=490
abbrev Azi:Nat:=491
abbrev AuO:Nat:=492
abbrev Axj:Nat:=493
abbrev Axi:Nat:=494
abbrev Awy:Nat:=495
abbrev ApC:Nat:=496
abbrev AlW:Nat:=497
abbrev AtJ:Nat:=498
abbrev AlU:Nat:=499
abbrev Aqw:Nat:=500
abbrev G5:Nat:=501
abbrev AnW:Nat:=502
abbrev Asr:Nat:=503
abbrev Md:Nat:=504
abbrev Aoz:Nat:=505
abbrev IW:Nat:=506
abbrev AqT:Nat:=507
abbrev Ar6:Nat:=508
abbrev IL:Nat:=509
abbrev AqV:Nat:=510
end Go.Eng.T
namespace Go.Eng.T
abbrev I (a:Int):V:= .sc (.int .i64 a)
abbrev B (a:Bool):V:= .sc (.bool a)
abbrev S (a:ByteArray):V:= .sc (.string a)
abbrev Rel:=List V→List O→V→List O→Prop
def ints (xs:List Int):List V:=xs.map fun x=> .sc (.int .i64 x)
@[simp] theorem ACk (xs:List Int):(ints xs).length=xs.length:=by simp[ints]
@[simp] theorem AB4:ints []=[]:=rfl
@[simp] theorem ints_at {xs:List Int} {j:Nat} (h:j<xs.length):(ints xs)[j]? =some (V.sc (.int .i64 xs[j])):=by simp[ints,h]
@[simp] theorem ABM {xs:List Int} {j:Nat} (h:j<(ints xs).length):(ints xs)[j]=V.sc (.int .i64 (xs[j]'(by simpa using h))):=by simp[ints]
@[simp] theorem ACJ (xs:List Int) (k:Nat):(ints xs).map (A9 k)=ints xs:=by simp[ints,Function.comp_def,A9]
theorem AvK (xs ys:List Int):ints xs++ints ys=ints (xs++ys):=by simp[ints]
@[simp] theorem ABF (xs:List Int) (y:Int):ints xs++ [V.sc (.int .i64 y)]=ints (xs++ [y]):=by simp[ints]
@[simp] theorem ints_set (xs:List Int) (j:Nat) (y:Int):(ints xs).set j (V.sc (.int .i64 y))=ints (xs.set j y):=by simp[ints]
@[simp] theorem ACh (n:Nat):(List.replicate n [V.sc (.int .i64 0)]).flatten=ints (List.replicate n 0):=by
 induction n with
 | zero=>rfl
 | succ n ih=>simp[List.replicate_succ,ints]at *
@[simp] theorem ACK (xs:List Int):(ints xs).all Ph=true:=by simp[ints,Ph]
@[simp] theorem ABO (xs:List Int) (o n:Nat):part (ints xs) 1 o n=ints ((xs.drop o).take n):=by simp[part,ints]
@[simp] theorem ABl:∀xs:List Int,(∀x,x∈ints xs→Ph x=true)=True:=by simp[ints,Ph]
@[simp] theorem ABQ (a:V) (cs:List V) (off n:Nat):Fy (a::cs) off n=if off+n≤cs.length+1 then some (((a::cs).drop off).take n)else none:=by simp[Fy]
structure AdE where
 ok:Bool
 version:Int
 tags:List Int
 deriving DecidableEq
structure FH where
 limit:Int
 drops:List Int
 strips:List Int
 lists:Bool
 deriving DecidableEq
structure Ct where
 deal:AdE
 tries:Int
 up:List Int
 deriving DecidableEq
structure Gz where
 version:Int
 stages:List Int
 pos:Int
 off:Bool
 deriving DecidableEq
structure AQ where
 versions:List Int
 tags:List Int
 path:List FH
 cls:Int
 deriving DecidableEq
structure Cv where
 fin:Int
 tick:Int
 on:Bool
 dialed:Ct
 deriving DecidableEq
structure World where
 server:List Int
 tags:List Int
 key:Int
 ends:List AQ
 rollout:Gz
 least:Int
 percent:Int
 stage:List Ct
 log:List Cv
 now:Int
 hurt:Int
 reached:Int
 deriving DecidableEq
structure Event where
 kind:Int
 n:Int
 box:FH
 deriving DecidableEq
abbrev sl (fl e n:Nat) (cs:List V):V:= .sl fl e n cs
def Uy (d:AdE):List V:=[.sc (.bool d.ok),.sc (.int .i64 d.version),.sl 0 1 d.tags.length (ints d.tags)]
def Cg (d:FH):List V:=[.sc (.int .i64 d.limit),.sl 0 1 d.drops.length (ints d.drops),.sl 0 1 d.strips.length (ints d.strips),.sc (.bool d.lists)]
def AP (d:Ct):List V:=[.sc (.bool d.deal.ok),.sc (.int .i64 d.deal.version),.sl 0 1 d.deal.tags.length (ints d.deal.tags),.sc (.int .i64 d.tries),.sl 0 1 d.up.length (ints d.up)]
def PW (d:Gz):List V:=[.sc (.int .i64 d.version),.sl 0 1 d.stages.length (ints d.stages),.sc (.int .i64 d.pos),.sc (.bool d.off)]
def Aj (d:AQ):List V:=[.sl 0 1 d.versions.length (ints d.versions),.sl 0 1 d.tags.length (ints d.tags),.sl 0 4 d.path.length (d.path.flatMap Cg),.sc (.int .i64 d.cls)]
def Ar (d:Cv):List V:=[.sc (.int .i64 d.fin),.sc (.int .i64 d.tick),.sc (.bool d.on),.sc (.bool d.dialed.deal.ok),.sc (.int .i64 d.dialed.deal.version),.sl 0 1 d.dialed.deal.tags.length (ints d.dialed.deal.tags),.sc (.int .i64 d.dialed.tries),.sl 0 1 d.dialed.up.length (ints d.dialed.up)]
def Hf (d:World):List V:=[.sl 0 1 d.server.length (ints d.server),.sl 0 1 d.tags.length (ints d.tags),.sc (.int .i64 d.key),.sl 0 4 d.ends.length (d.ends.flatMap Aj),.sc (.int .i64 d.rollout.version),.sl 0 1 d.rollout.stages.length (ints d.rollout.stages),.sc (.int .i64 d.rollout.pos),.sc (.bool d.rollout.off),.sc (.int .i64 d.least),.sc (.int .i64 d.percent),.sl 0 5 d.stage.length (d.stage.flatMap AP),.sl 0 8 d.log.length (d.log.flatMap Ar),.sc (.int .i64 d.now),.sc (.int .i64 d.hurt),.sc (.int .i64 d.reached)]
def Cu (d:Event):List V:=[.sc (.int .i64 d.kind),.sc (.int .i64 d.n),.sc (.int .i64 d.box.limit),.sl 0 1 d.box.drops.length (ints d.box.drops),.sl 0 1 d.box.strips.length (ints d.box.strips),.sc (.bool d.box.lists)]
abbrev arg (cs:List V):V:= .agg (cs.map (A9 1))
section
variable {α:Type} {f:α→List V} {e:Nat}
theorem VS (hf:∀x,(f x).map (A9 0)=f x) (xs:List α):(xs.flatMap f).map (A9 0)=xs.flatMap f:=by
 induction xs with
 | nil=>rfl
 | cons x xs ih=>simp[hf,ih]
theorem Vx (cs ds:List V) (o:Nat):∀(azs:List V),o+azs.length≤ds.length→putAt (cs++ds) (cs.length+o) azs=cs++putAt ds o azs:=by
 intro azs
 induction azs generalizing ds o with
 | nil=>intro _;simp[putAt]
 | cons a azs ih=>
  intro h
  simp only[putAt,List.length_cons]at *
  rw[List.set_append_right _ _ (by omega),show cs.length+o-cs.length=o by omega,show cs.length+o+1=cs.length+(o+1)by omega]
  exact ih _ _ (by simp;omega)
theorem Ap4:∀(ds azs:List V),azs.length≤ds.length→putAt ds 0 azs=azs++ds.drop azs.length:=by
 have key:∀(azs pre ds:List V),azs.length≤ds.length→putAt (pre++ds) pre.length azs=pre++azs++ds.drop azs.length:=by
  intro azs
  induction azs with
  | nil=>intro pre ds _;simp[putAt]
  | cons a azs ih=>
   intro pre ds h
   cases ds with
   | nil=>simp at h
   | cons d ds=>
    have:=ih (pre++ [a]) ds (by simpa using h)
    simp only[putAt]
    rw[List.set_append_right _ _ (Nat.le_refl _),Nat.sub_self,List.set_cons_zero]
    simpa using this
 intro ds azs h
 simpa using key azs [] ds h
theorem O5 (hf:∀x,(f x).length=e) {xs:List α} {i:Nat} (hi:i<xs.length) (x:α):putAt (xs.flatMap f) (i*e) (f x)=(xs.set i x).flatMap f:=by
 induction xs generalizing i with
 | nil=>simp at hi
 | cons y ys ih=>
  cases i with
  | zero=>
   rw[Nat.zero_mul,Ap4 _ _ (by simp[hf])]
   simp[hf]
  | succ i=>
   simp only[List.flatMap_cons,List.set_cons_succ]
   rw[show(i+1)*e=(f y).length+i*e by rw[hf,Nat.add_mul];omega,Vx]
   ·rw[ih (by simpa using hi)]
   ·rw[Le hf,hf]
    have:=Nat.mul_le_mul_right e (show i+1≤ys.length by simp at hi;omega)
    rw[Nat.add_mul]at this;omega
theorem Aak (z:α) (n:Nat):(List.replicate n (f z)).flatten=(List.replicate n z).flatMap f:=by
 induction n with
 | zero=>rfl
 | succ n ih=>simp[List.replicate_succ,ih]
end
def fd (o:O):Prop:=o= .free∨o= .dead
@[simp] theorem ACw:fd .free:= .inl rfl
@[simp] theorem ACx:fd .dead:= .inr rfl
def mix {α:Type} (z:α) (xs:List α) (j:Nat):List α:=xs.take j++List.replicate (xs.length-j) z
section
variable {α:Type} {z:α} {xs:List α} {j:Nat}
@[simp] theorem ACI (h:j≤xs.length):(mix z xs j).length=xs.length:=by simp[mix];omega
theorem UN:mix z xs 0=List.replicate xs.length z:=by simp[mix]
theorem ZX (h:xs.length≤j):mix z xs j=xs:=by simp[mix,Nat.sub_eq_zero_of_le h,List.take_of_length_le h]
theorem Zp (h:j<xs.length):(mix z xs j).set j xs[j]=mix z xs (j+1):=by
 unfold mix
 have hl:(xs.take j).length=j:=by simp;omega
 rw[List.set_append_right _ _ (by omega),hl,Nat.sub_self]
 obtain⟨k,hk⟩:∃k,xs.length-j=k+1:=⟨xs.length-j-1,by omega⟩
 have hk':xs.length-(j+1)=k:=by omega
 have ht:xs.take (j+1)=xs.take j++ [xs[j]]:=by simp
 rw[hk,hk',List.replicate_succ,List.set_cons_zero,ht,List.append_assoc]
 rfl
end
theorem Ad {n:Int} (h1:-9223372036854775808≤n) (h2:n≤9223372036854775807):IntKind.i64.wrap n=n:=by
 show(if(true&&decide (n % (2 ^ 64:Int)≥(2 ^ 63:Int)))=true then n % (2 ^ 64:Int)-(2 ^ 64:Int)else n % (2 ^ 64:Int))=n
 by_cases h:n % (2 ^ 64:Int)≥(2 ^ 63:Int)
 ·rw[if_pos (by simp only[h];rfl)];omega
 ·rw[if_neg (by simp only[h];simp)];omega
section
variable {α:Type} {xs ys:List α} {j:Nat}
theorem IA (hx:j<xs.length) (hy:j<ys.length) (h:xs.take j=ys.take j) (he:xs[j]=ys[j]):xs.take (j+1)=ys.take (j+1):=by
 rw[List.take_add_one,List.take_add_one,h,List.getElem?_eq_getElem hx,List.getElem?_eq_getElem hy,he]
theorem La (hx:xs.length≤j) (hl:xs.length=ys.length) (h:xs.take j=ys.take j):xs=ys:=by
 rwa [List.take_of_length_le hx,List.take_of_length_le (by omega)]at h
end
def Bn {α:Type} (f:α→Nat) (xs:List α):Nat:=xs.length+(xs.map f).sum
def Er (d:AdE):Nat:=d.tags.length
def BX (d:FH):Nat:=d.drops.length+d.strips.length
def Ai (d:Ct):Nat:=Er d.deal+d.up.length
def Bo (d:Gz):Nat:=d.stages.length
def Ac (d:AQ):Nat:=d.versions.length+d.tags.length+Bn BX d.path
def Az (d:Cv):Nat:=Ai d.dialed
def A8 (d:World):Nat:=d.server.length+d.tags.length+Bn Ac d.ends+Bo d.rollout+Bn Ai d.stage+Bn Az d.log
def Aez (d:Event):Nat:=BX d.box
def szl (n:Nat) (l:Int):Int:=if l<n then -1 else l-n
section
variable {α:Type} {f:α→Nat} {xs:List α} {j:Nat}
theorem Vh (h:j<xs.length):((xs.take (j+1)).map f).sum=((xs.take j).map f).sum+f xs[j]:=by
 rw[List.take_add_one,List.getElem?_eq_getElem h,List.map_append,List.sum_append,Option.toList_some,List.map_cons,List.map_nil,List.sum_cons,List.sum_nil,Nat.add_zero]
theorem M8:((xs.take j).map f).sum≤(xs.map f).sum:=by
 conv=>rhs;rw[←List.take_append_drop j xs,List.map_append,List.sum_append]
 omega
theorem Aef (h:xs.length≤j):((xs.take j).map f).sum=(xs.map f).sum:=by rw[List.take_of_length_le h]
theorem size_at (h:j<xs.length):f xs[j]≤Bn f xs:=by
 have h1:=Vh (f:=f) h
 have h2:=M8 (f:=f) (xs:=xs) (j:=j+1)
 unfold Bn;omega
theorem Ic:xs.length≤Bn f xs:=by unfold Bn;omega
end
def Ik (xs:List Int):Prop:=xs.length≤maxLen
def lnS {α:Type} (f:α→Prop) (xs:List α):Prop:=xs.length≤maxLen∧∀(j:Nat) (h:j<xs.length),f xs[j]
def Akh (d:AdE):Prop:=Ik d.tags
def F9 (d:FH):Prop:=Ik d.drops∧Ik d.strips
def MX (d:Ct):Prop:=Akh d.deal∧Ik d.up
def VA (d:Gz):Prop:=Ik d.stages
def Gy (d:AQ):Prop:=Ik d.versions∧Ik d.tags∧lnS F9 d.path
def PD (d:Cv):Prop:=MX d.dialed
def ZK (d:World):Prop:=Ik d.server∧Ik d.tags∧lnS Gy d.ends∧VA d.rollout∧lnS MX d.stage∧lnS PD d.log
def AxZ (d:Event):Prop:=F9 d.box
theorem Hz (x:FH):(Cg x).length=4:=rfl
theorem Dp (x:Ct):(AP x).length=5:=rfl
theorem Dy (x:AQ):(Aj x).length=4:=rfl
theorem BB (x:Cv):(Ar x).length=8:=rfl
theorem Di (x:Event):(Cu x).length=6:=rfl
@[simp] theorem ACG (xs:List FH):(xs.flatMap Cg).map (A9 0)=xs.flatMap Cg:=VS (fun _=>rfl) xs
@[simp] theorem AAA (xs:List Ct):(xs.flatMap AP).map (A9 0)=xs.flatMap AP:=VS (fun _=>rfl) xs
@[simp] theorem Azb (xs:List AQ):(xs.flatMap Aj).map (A9 0)=xs.flatMap Aj:=VS (fun _=>rfl) xs
@[simp] theorem AAz (xs:List Cv):(xs.flatMap Ar).map (A9 0)=xs.flatMap Ar:=VS (fun _=>rfl) xs
@[simp] theorem ABo (xs:List Event):(xs.flatMap Cu).map (A9 0)=xs.flatMap Cu:=VS (fun _=>rfl) xs
@[simp high] theorem ACB {xs:List FH} {j:Nat} (h:j<xs.length):Fy (xs.flatMap Cg) (j*4) 4=some (Cg xs[j]):=Lv Hz h
@[simp high] theorem ABa {xs:List Ct} {j:Nat} (h:j<xs.length):Fy (xs.flatMap AP) (j*5) 5=some (AP xs[j]):=Lv Dp h
@[simp high] theorem Aza {xs:List AQ} {j:Nat} (h:j<xs.length):Fy (xs.flatMap Aj) (j*4) 4=some (Aj xs[j]):=Lv Dy h
@[simp high] theorem AAR {xs:List Cv} {j:Nat} (h:j<xs.length):Fy (xs.flatMap Ar) (j*8) 8=some (Ar xs[j]):=Lv BB h
@[simp high] theorem ABD {xs:List Event} {j:Nat} (h:j<xs.length):Fy (xs.flatMap Cu) (j*6) 6=some (Cu xs[j]):=Lv Di h
@[simp high] theorem ABN (xs:List FH):(xs.flatMap Cg).length=xs.length*4:=Le Hz xs
@[simp high] theorem AB3 {xs:List FH} {j:Nat} (h:j<xs.length) (a:Int) (b c:List Int) (d:Bool) {nb:Nat} (hb:nb=b.length) {nc:Nat} (hc:nc=c.length):putAt (xs.flatMap Cg) (j*4) [.sc (.int .i64 a),.sl 0 1 nb (ints b),.sl 0 1 nc (ints c),.sc (.bool d)]=(xs.set j ⟨a,b,c,d⟩).flatMap Cg:=by subst hb;subst hc;exact O5 Hz h ⟨a,b,c,d⟩
@[simp high] theorem AyK (xs:List Ct):(xs.flatMap AP).length=xs.length*5:=Le Dp xs
@[simp high] theorem AzS {xs:List Ct} {j:Nat} (h:j<xs.length) (a:Bool) (b:Int) (c:List Int) (d:Int) (u:List Int) {nc:Nat} (hc:nc=c.length) {nu:Nat} (hu:nu=u.length):putAt (xs.flatMap AP) (j*5) [.sc (.bool a),.sc (.int .i64 b),.sl 0 1 nc (ints c),.sc (.int .i64 d),.sl 0 1 nu (ints u)]=(xs.set j ⟨⟨a,b,c⟩,d,u⟩).flatMap AP:=by subst hc;subst hu;exact O5 Dp h ⟨⟨a,b,c⟩,d,u⟩
@[simp high] theorem Avm (xs:List AQ):(xs.flatMap Aj).length=xs.length*4:=Le Dy xs
@[simp high] theorem AxQ {xs:List AQ} {j:Nat} (h:j<xs.length) (a b:List Int) (c:List FH) (d:Int) {na:Nat} (ha:na=a.length) {nb:Nat} (hb:nb=b.length) {nc:Nat} (hc:nc=c.length):putAt (xs.flatMap Aj) (j*4) [.sl 0 1 na (ints a),.sl 0 1 nb (ints b),.sl 0 4 nc (c.flatMap Cg),.sc (.int .i64 d)]=(xs.set j ⟨a,b,c,d⟩).flatMap Aj:=by subst ha;subst hb;subst hc;exact O5 Dy h ⟨a,b,c,d⟩
@[simp high] theorem Azo (xs:List Cv):(xs.flatMap Ar).length=xs.length*8:=Le BB xs
@[simp high] theorem Az4 {xs:List Cv} {j:Nat} (h:j<xs.length) (m n:Int) (o a:Bool) (b:Int) (c:List Int) (d:Int) (u:List Int) {nc:Nat} (hc:nc=c.length) {nu:Nat} (hu:nu=u.length):putAt (xs.flatMap Ar) (j*8) [.sc (.int .i64 m),.sc (.int .i64 n),.sc (.bool o),.sc (.bool a),.sc (.int .i64 b),.sl 0 1 nc (ints c),.sc (.int .i64 d),.sl 0 1 nu (ints u)]=(xs.set j ⟨m,n,o,⟨⟨a,b,c⟩,d,u⟩⟩).flatMap Ar:=by subst hc;subst hu;exact O5 BB h ⟨m,n,o,⟨⟨a,b,c⟩,d,u⟩⟩
@[simp high] theorem AzI (xs:List Event):(xs.flatMap Cu).length=xs.length*6:=Le Di xs
@[simp high] theorem AA7 {xs:List Event} {j:Nat} (h:j<xs.length) (m n:Int) (a:Int) (b c:List Int) (d:Bool) {nb:Nat} (hb:nb=b.length) {nc:Nat} (hc:nc=c.length):putAt (xs.flatMap Cu) (j*6) [.sc (.int .i64 m),.sc (.int .i64 n),.sc (.int .i64 a),.sl 0 1 nb (ints b),.sl 0 1 nc (ints c),.sc (.bool d)]=(xs.set j ⟨m,n,⟨a,b,c,d⟩⟩).flatMap Cu:=by subst hb;subst hc;exact O5 Di h ⟨m,n,⟨a,b,c,d⟩⟩
@[simp high] theorem ACN {xs:List FH} {j:Nat} (h:j<xs.length):(xs.flatMap Cg)[j*4]? =some (.sc (.int .i64 xs[j].limit)):=by
 have:=Ay (o:=0) Hz h (by omega)
 simpa[Cg]using this
@[simp high] theorem ACr {xs:List FH} {j:Nat} (h:j<xs.length):(xs.flatMap Cg)[j*4+1]? =some (.sl 0 1 xs[j].drops.length (ints xs[j].drops)):=by
 have:=Ay (o:=1) Hz h (by omega)
 simpa[Cg]using this
@[simp high] theorem ACp {xs:List FH} {j:Nat} (h:j<xs.length):(xs.flatMap Cg)[j*4+2]? =some (.sl 0 1 xs[j].strips.length (ints xs[j].strips)):=by
 have:=Ay (o:=2) Hz h (by omega)
 simpa[Cg]using this
@[simp high] theorem ACv {xs:List FH} {j:Nat} (h:j<xs.length):(xs.flatMap Cg)[j*4+3]? =some (.sc (.bool xs[j].lists)):=by
 have:=Ay (o:=3) Hz h (by omega)
 simpa[Cg]using this
@[simp high] theorem AA3 {xs:List Ct} {j:Nat} (h:j<xs.length):(xs.flatMap AP)[j*5]? =some (.sc (.bool xs[j].deal.ok)):=by
 have:=Ay (o:=0) Dp h (by omega)
 simpa[AP]using this
@[simp high] theorem AA1 {xs:List Ct} {j:Nat} (h:j<xs.length):(xs.flatMap AP)[j*5+1]? =some (.sc (.int .i64 xs[j].deal.version)):=by
 have:=Ay (o:=1) Dp h (by omega)
 simpa[AP]using this
@[simp high] theorem AAb {xs:List Ct} {j:Nat} (h:j<xs.length):(xs.flatMap AP)[j*5+2]? =some (.sl 0 1 xs[j].deal.tags.length (ints xs[j].deal.tags)):=by
 have:=Ay (o:=2) Dp h (by omega)
 simpa[AP]using this
@[simp high] theorem ABd {xs:List Ct} {j:Nat} (h:j<xs.length):(xs.flatMap AP)[j*5+3]? =some (.sc (.int .i64 xs[j].tries)):=by
 have:=Ay (o:=3) Dp h (by omega)
 simpa[AP]using this
@[simp high] theorem AAq {xs:List Ct} {j:Nat} (h:j<xs.length):(xs.flatMap AP)[j*5+4]? =some (.sl 0 1 xs[j].up.length (ints xs[j].up)):=by
 have:=Ay (o:=4) Dp h (by omega)
 simpa[AP]using this
@[simp high] theorem Ay8 {xs:List AQ} {j:Nat} (h:j<xs.length):(xs.flatMap Aj)[j*4]? =some (.sl 0 1 xs[j].versions.length (ints xs[j].versions)):=by
 have:=Ay (o:=0) Dy h (by omega)
 simpa[Aj]using this
@[simp high] theorem Ayf {xs:List AQ} {j:Nat} (h:j<xs.length):(xs.flatMap Aj)[j*4+1]? =some (.sl 0 1 xs[j].tags.length (ints xs[j].tags)):=by
 have:=Ay (o:=1) Dy h (by omega)
 simpa[Aj]using this
@[simp high] theorem Ay6 {xs:List AQ} {j:Nat} (h:j<xs.length):(xs.flatMap Aj)[j*4+2]? =some (.sl 0 4 xs[j].path.length (xs[j].path.flatMap Cg)):=by
 have:=Ay (o:=2) Dy h (by omega)
 simpa[Aj]using this
@[simp high] theorem AyH {xs:List AQ} {j:Nat} (h:j<xs.length):(xs.flatMap Aj)[j*4+3]? =some (.sc (.int .i64 xs[j].cls)):=by
 have:=Ay (o:=3) Dy h (by omega)
 simpa[Aj]using this
@[simp high] theorem ABi {xs:List Cv} {j:Nat} (h:j<xs.length):(xs.flatMap Ar)[j*8]? =some (.sc (.int .i64 xs[j].fin)):=by
 have:=Ay (o:=0) BB h (by omega)
 simpa[Ar]using this
@[simp high] theorem AAD {xs:List Cv} {j:Nat} (h:j<xs.length):(xs.flatMap Ar)[j*8+1]? =some (.sc (.int .i64 xs[j].tick)):=by
 have:=Ay (o:=1) BB h (by omega)
 simpa[Ar]using this
@[simp high] theorem AAV {xs:List Cv} {j:Nat} (h:j<xs.length):(xs.flatMap Ar)[j*8+2]? =some (.sc (.bool xs[j].on)):=by
 have:=Ay (o:=2) BB h (by omega)
 simpa[Ar]using this
@[simp high] theorem AAc {xs:List Cv} {j:Nat} (h:j<xs.length):(xs.flatMap Ar)[j*8+3]? =some (.sc (.bool xs[j].dialed.deal.ok)):=by
 have:=Ay (o:=3) BB h (by omega)
 simpa[Ar]using this
@[simp high] theorem AAr {xs:List Cv} {j:Nat} (h:j<xs.length):(xs.flatMap Ar)[j*8+4]? =some (.sc (.int .i64 xs[j].dialed.deal.version)):=by
 have:=Ay (o:=4) BB h (by omega)
 simpa[Ar]using this
@[simp high] theorem AAP {xs:List Cv} {j:Nat} (h:j<xs.length):(xs.flatMap Ar)[j*8+5]? =some (.sl 0 1 xs[j].dialed.deal.tags.length (ints xs[j].dialed.deal.tags)):=by
 have:=Ay (o:=5) BB h (by omega)
 simpa[Ar]using this
@[simp high] theorem AAh {xs:List Cv} {j:Nat} (h:j<xs.length):(xs.flatMap Ar)[j*8+6]? =some (.sc (.int .i64 xs[j].dialed.tries)):=by
 have:=Ay (o:=6) BB h (by omega)
 simpa[Ar]using this
@[simp high] theorem AAK {xs:List Cv} {j:Nat} (h:j<xs.length):(xs.flatMap Ar)[j*8+7]? =some (.sl 0 1 xs[j].dialed.up.length (ints xs[j].dialed.up)):=by
 have:=Ay (o:=7) BB h (by omega)
 simpa[Ar]using this
@[simp high] theorem ABT {xs:List Event} {j:Nat} (h:j<xs.length):(xs.flatMap Cu)[j*6]? =some (.sc (.int .i64 xs[j].kind)):=by
 have:=Ay (o:=0) Di h (by omega)
 simpa[Cu]using this
@[simp high] theorem ABv {xs:List Event} {j:Nat} (h:j<xs.length):(xs.flatMap Cu)[j*6+1]? =some (.sc (.int .i64 xs[j].n)):=by
 have:=Ay (o:=1) Di h (by omega)
 simpa[Cu]using this
@[simp high] theorem ABq {xs:List Event} {j:Nat} (h:j<xs.length):(xs.flatMap Cu)[j*6+2]? =some (.sc (.int .i64 xs[j].box.limit)):=by
 have:=Ay (o:=2) Di h (by omega)
 simpa[Cu]using this
@[simp high] theorem ABL {xs:List Event} {j:Nat} (h:j<xs.length):(xs.flatMap Cu)[j*6+3]? =some (.sl 0 1 xs[j].box.drops.length (ints xs[j].box.drops)):=by
 have:=Ay (o:=3) Di h (by omega)
 simpa[Cu]using this
@[simp high] theorem ABp {xs:List Event} {j:Nat} (h:j<xs.length):(xs.flatMap Cu)[j*6+4]? =some (.sl 0 1 xs[j].box.strips.length (ints xs[j].box.strips)):=by
 have:=Ay (o:=4) Di h (by omega)
 simpa[Cu]using this
@[simp high] theorem ABP {xs:List Event} {j:Nat} (h:j<xs.length):(xs.flatMap Cu)[j*6+5]? =some (.sc (.bool xs[j].box.lists)):=by
 have:=Ay (o:=5) Di h (by omega)
 simpa[Cu]using this
theorem Ov {α:Type} {f:α→List V} {e:Nat} (hf:∀x,(f x).length=e) {xs:List α} {j o n:Nat} (h:j<xs.length) (ho:o+n≤e):Fy (xs.flatMap f) (j*e+o) n=some (((f xs[j]).drop o).take n):=by
 unfold Fy
 have hl:=Le hf xs
 have h2:j*e+e≤xs.length*e:=by
  have:=Nat.mul_le_mul_right e (show j+1≤xs.length by omega)
  rw[Nat.add_mul]at this;omega
 rw[hl,if_pos (by omega),←List.drop_drop,Vv hf,List.drop_eq_getElem_cons h,List.flatMap_cons,List.drop_append,List.take_append]
 have h3:=hf xs[j]
 rw[List.length_drop,h3]
 have:n-(e-o)=0:=by omega
 rw[this,List.take_zero,List.append_nil]
@[simp high] theorem AAy {xs:List Cv} {j:Nat} (h:j<xs.length):Fy (xs.flatMap Ar) (j*8+3) 5=some (AP xs[j].dialed):=Ov BB h (by omega)
@[simp high] theorem AAe {xs:List Cv} {j:Nat} (h:j<xs.length):Fy (xs.flatMap Ar) (j*8+3) 3=some (Uy xs[j].dialed.deal):=Ov BB h (by omega)
@[simp high] theorem AAN {xs:List Ct} {j:Nat} (h:j<xs.length):Fy (xs.flatMap AP) (j*5) 3=some (Uy xs[j].deal):=Ov (o:=0) Dp h (by omega)
@[simp high] theorem ABm {xs:List Event} {j:Nat} (h:j<xs.length):Fy (xs.flatMap Cu) (j*6+2) 4=some (Cg xs[j].box):=Ov Di h (by omega)
attribute [simp] Nat.add_one_le_iff Uy Cg AP PW Aj Ar Hf Cu
end Go.Eng.T
namespace Go.Eng.T
abbrev WN (R:Rel):Prop:=∀a b c:Int,R [I a,I b,I c] [] (B (decide (b≤a∧a≤c))) []
theorem ABh (D:Dn):WN (Body D XK):=by
 intro a b c
 by_cases h1:b≤a<;>by_cases h2:a≤c<;>simp -implicitDefEqProofs [h1,h2]
theorem ArB (D:Dn):WN (Body D Rh):=by
 intro a b c
 by_cases h1:b≤a<;>by_cases h2:a≤c<;>simp -implicitDefEqProofs [h1,h2]
end Go.Eng.T
namespace Go.Eng.T
abbrev Oo (R:Rel):Prop:=∀(xs:List Int) (l:Int),0≤l→l≤4194304→Ik xs→R [.sl 1 1 xs.length (ints xs),I l] [] (I (szl xs.length l)) []
theorem Ave (D:Dn):Oo (Body D Sy):=by
 intro xs l h1 h2 h3
 have hw:IntKind.i64.wrap (l-(xs.length:Int))=l-xs.length:=by unfold Ik maxLen at h3;exact Ad (by omega) (by omega)
 by_cases h:l<xs.length
 ·have h':l-(xs.length:Int)<0:=by omega
  simp -implicitDefEqProofs [hw,h,h',szl]
 ·have h':¬l-(xs.length:Int)<0:=by omega
  simp -implicitDefEqProofs [hw,h,h',szl]
abbrev OH (R:Rel):Prop:=∀(xs:List Int),xs.length*8≤2 ^ 40→R [.sl 1 1 xs.length (ints xs)] [] (.sl 0 1 xs.length (ints xs)) []
theorem Awl (D:Dn):OH (Body D TK):=by
 intro xs hl
 have h1:((xs.length:Nat):Int)*8≤1099511627776:=by omega
 simp -implicitDefEqProofs [h1]
 refine Ag (fun k s=>∃j,j+k=xs.length∧s=⟨[.sl 1 1 xs.length (ints xs),.undef,.arr 0,.sc (.int .i64 j),.undef],[.arr 1 0 xs.length (ints (mix 0 xs j))]⟩) ?_ xs.length _ ⟨0,by simp,by simp[UN,ints]⟩
 intro k s ⟨j,hj,hs⟩
 subst hs
 by_cases hjn:j<xs.length
 ·have hw:IntKind.i64.wrap ((j:Int)+1)=(j+1:Nat):=by rw[Ad (by omega) (by omega)];simp
  simp -implicitDefEqProofs [hjn,Nat.le_of_lt hjn,Zp]
  exact⟨k-1,by omega,j+1,by omega,by simp[hw],rfl⟩
 ·have hje:mix 0 xs j=xs:=ZX (by omega)
  simp -implicitDefEqProofs [hjn,hje]
abbrev Fg (R:Rel):Prop:=∀(xs ys:List Int),xs.length≤maxLen→ys.length≤maxLen→R [.sl 1 1 xs.length (ints xs),.sl 1 1 ys.length (ints ys)] [] (B (decide (xs=ys))) []
theorem AvU (D:Dn):Fg (Body D Tt):=by
 intro xs ys h1 h2
 unfold maxLen at h1 h2
 by_cases hl:xs.length=ys.length
 ·have hl':(xs.length:Int)=ys.length:=by omega
  simp -implicitDefEqProofs [hl']
  refine Ag (fun k s=>∃j,j+k=xs.length∧xs.take j=ys.take j∧s=⟨[.sl 1 1 xs.length (ints xs),.sl 1 1 ys.length (ints ys),.undef,.sc (.int .i64 j),.undef,.undef,.undef],[]⟩) ?_ xs.length _ ⟨0,by simp,by simp,by simp⟩
  intro k s ⟨j,hj,hp,hs⟩
  subst hs
  by_cases hjn:j<xs.length
  ·have hw:IntKind.i64.wrap ((j:Int)+1)=(j+1:Nat):=by rw[Ad (by omega) (by omega)];simp
   have hy:j<ys.length:=by omega
   by_cases he:xs[j]=ys[j]
   ·simp -implicitDefEqProofs [hjn,hy,he]
    exact⟨k-1,by omega,j+1,by omega,IA hjn hy hp he,by simp[hw]⟩
   ·have hne:xs≠ys:=fun h=>he (by simp[h])
    simp -implicitDefEqProofs [hjn,hy,he,hne]
  ·obtain rfl:xs=ys:=La (by omega) hl hp
   simp -implicitDefEqProofs [hjn]
 ·have hl':¬(xs.length:Int)=ys.length:=by omega
  have:xs≠ys:=fun h=>hl (by rw[h])
  simp -implicitDefEqProofs [hl',this]
end Go.Eng.T
namespace Go.Eng.T
abbrev AkG (R:Rel):Prop:=∀(x:FH) (l:Int),0≤l→l≤4194304→F9 x→R [arg (Cg x),I l] [] (I (szl (BX x) l)) []
theorem AyD (D:Dn) (hszIntS:Oo (D 16)):AkG (Body D U1):=by
 intro x l hl1 hl2 hln
 simp only[F9]at hln
 simp -implicitDefEqProofs
 refine Aa (hszIntS x.drops (l) (by omega) (by omega) hln.1) ?_
 by_cases g0:l<((x.drops.length:Nat):Int)
 ·have gg:l<((BX x:Nat):Int):=by simp only[BX];omega
  have e1:szl (x.drops.length) (l)= -1:=by unfold szl;rw[if_pos g0]
  have e2:szl (BX x) l= -1:=by unfold szl;rw[if_pos gg]
  simp -implicitDefEqProofs [e1,e2]
 have e3:szl (x.drops.length) (l)=l-((x.drops.length:Nat):Int):=by unfold szl;rw[if_neg g0]
 have p0:¬l-((x.drops.length:Nat):Int)<0:=by omega
 simp -implicitDefEqProofs [e3,p0]
 refine Aa (hszIntS x.strips (l-((x.drops.length:Nat):Int)) (by omega) (by omega) hln.2) ?_
 by_cases g1:l-((x.drops.length:Nat):Int)<((x.strips.length:Nat):Int)
 ·have gg:l<((BX x:Nat):Int):=by simp only[BX];omega
  have e1:szl (x.strips.length) (l-((x.drops.length:Nat):Int))= -1:=by unfold szl;rw[if_pos g1]
  have e2:szl (BX x) l= -1:=by unfold szl;rw[if_pos gg]
  simp -implicitDefEqProofs [e1,e2]
 have e4:szl (x.strips.length) (l-((x.drops.length:Nat):Int))=l-((x.drops.length:Nat):Int)-((x.strips.length:Nat):Int):=by unfold szl;rw[if_neg g1]
 have p1:¬l-((x.drops.length:Nat):Int)-((x.strips.length:Nat):Int)<0:=by omega
 simp -implicitDefEqProofs [e4,p1]
 have gg:¬l<((BX x:Nat):Int):=by simp only[BX];omega
 unfold szl;rw[if_neg gg];simp only[BX]<;>omega
abbrev Aky (R:Rel):Prop:=∀x:FH,BX x≤4194304→R [arg (Cg x)] [] (.agg (Cg x)) []
theorem Ayk (D:Dn) (htoIntS:OH (D 31)):Aky (Body D Vn):=by
 intro x h
 simp only[BX]at h
 simp -implicitDefEqProofs
 refine Aa (htoIntS x.drops (by omega)) ?_
 simp -implicitDefEqProofs
 refine Aa (htoIntS x.strips (by omega)) ?_
 simp -implicitDefEqProofs
abbrev Aki (R:Rel):Prop:=∀x y:FH,BX x≤2 ^ 40→BX y≤2 ^ 40→R [arg (Cg x),arg (Cg y)] [] (B (decide (x=y))) []
theorem Azh (D:Dn) (heqIntS:Fg (D 47)):Aki (Body D Uv):=by
 intro x y h1 h2
 simp only[BX]at h1 h2
 by_cases g_limit:x.limit=y.limit
 rotate_left
 ·have hne:x≠y:=fun h=>g_limit (by rw[h])
  simp -implicitDefEqProofs [g_limit,hne]
 simp -implicitDefEqProofs [g_limit]
 refine Aa (heqIntS x.drops y.drops (by unfold maxLen;omega) (by unfold maxLen;omega)) ?_
 by_cases g_drops:x.drops=y.drops
 rotate_left
 ·have hne:x≠y:=fun h=>g_drops (by rw[h])
  simp -implicitDefEqProofs [g_drops,hne]
 simp -implicitDefEqProofs [g_drops]
 refine Aa (heqIntS x.strips y.strips (by unfold maxLen;omega) (by unfold maxLen;omega)) ?_
 by_cases g_strips:x.strips=y.strips
 rotate_left
 ·have hne:x≠y:=fun h=>g_strips (by rw[h])
  simp -implicitDefEqProofs [g_strips,hne]
 simp -implicitDefEqProofs [g_strips]
 by_cases g_lists:x.lists=y.lists
 rotate_left
 ·have hne:x≠y:=fun h=>g_lists (by rw[h])
  simp -implicitDefEqProofs [g_lists,hne]
 simp -implicitDefEqProofs [g_lists]
 have hxy:x=y:=by cases x;cases y;simp_all
 simp -implicitDefEqProofs [hxy]
abbrev AB5 (R:Rel):Prop:=∀(x:Event) (l:Int),0≤l→l≤4194304→AxZ x→R [arg (Cu x),I l] [] (I (szl (Aez x) l)) []
abbrev ACc (R:Rel):Prop:=∀x:Event,Aez x≤4194304→R [arg (Cu x)] [] (.agg (Cu x)) []
abbrev AB9 (R:Rel):Prop:=∀x y:Event,Aez x≤2 ^ 40→Aez y≤2 ^ 40→R [arg (Cu x),arg (Cu y)] [] (B (decide (x=y))) []
end Go.Eng.T
namespace Go.Eng.T
abbrev Aex (R:Rel):Prop:=∀xs ys:List FH,Bn BX xs≤2 ^ 40→Bn BX ys≤2 ^ 40→R [.sl 1 4 xs.length (xs.flatMap Cg),.sl 1 4 ys.length (ys.flatMap Cg)] [] (B (decide (xs=ys))) []
theorem AwI (D:Dn) (heq:Aki (D 249)):Aex (Body D Sw):=by
 intro xs ys h1 h2
 have hlen:=Ic (f:=BX) (xs:=xs)
 by_cases hl:xs.length=ys.length
 ·have hl':(xs.length:Int)=ys.length:=by omega
  simp -implicitDefEqProofs [hl']
  refine Ag (fun k s=>∃j,j+k=xs.length∧xs.take j=ys.take j∧s=⟨[.sl 1 4 xs.length (xs.flatMap Cg),.sl 1 4 ys.length (ys.flatMap Cg),.undef,.sc (.int .i64 j),.undef,.undef,.undef],[]⟩) ?_ xs.length _ ⟨0,by simp,by simp,by simp⟩
  intro k s ⟨j,hj,hp,hs⟩
  subst hs
  by_cases hjn:j<xs.length
  ·have hw:IntKind.i64.wrap ((j:Int)+1)=(j+1:Nat):=by rw[Ad (by omega) (by omega)];simp
   have hy:j<ys.length:=by omega
   have hsx:=size_at (f:=BX) hjn
   have hsy:=size_at (f:=BX) hy
   simp -implicitDefEqProofs [hjn,hy]
   refine Aa (heq xs[j] ys[j] (by omega) (by omega)) ?_
   by_cases he:xs[j]=ys[j]
   ·simp -implicitDefEqProofs [he]
    exact⟨k-1,by omega,j+1,by omega,IA hjn hy hp he,by simp[hw]⟩
   ·have hne:xs≠ys:=fun h=>he (by simp[h])
    simp -implicitDefEqProofs [he,hne]
  ·obtain rfl:xs=ys:=La (by omega) hl hp
   simp -implicitDefEqProofs [hjn]
 ·have hl':¬(xs.length:Int)=ys.length:=by omega
  have:xs≠ys:=fun h=>hl (by rw[h])
  simp -implicitDefEqProofs [hl',this]
abbrev Qc (R:Rel):Prop:=∀x y:AQ,Ac x≤2 ^ 40→Ac y≤2 ^ 40→R [arg (Aj x),arg (Aj y)] [] (B (decide (x=y))) []
theorem Akz (D:Dn) (heqIntS:Fg (D 47)) (heqBoxS:Aex (D 204)):Qc (Body D L8):=by
 intro x y h1 h2
 simp only[Ac]at h1 h2
 simp -implicitDefEqProofs
 refine Aa (heqIntS x.versions y.versions (by unfold maxLen;omega) (by unfold maxLen;omega)) ?_
 by_cases g_versions:x.versions=y.versions
 rotate_left
 ·have hne:x≠y:=fun h=>g_versions (by rw[h])
  simp -implicitDefEqProofs [g_versions,hne]
 simp -implicitDefEqProofs [g_versions]
 refine Aa (heqIntS x.tags y.tags (by unfold maxLen;omega) (by unfold maxLen;omega)) ?_
 by_cases g_tags:x.tags=y.tags
 rotate_left
 ·have hne:x≠y:=fun h=>g_tags (by rw[h])
  simp -implicitDefEqProofs [g_tags,hne]
 simp -implicitDefEqProofs [g_tags]
 refine Aa (heqBoxS x.path y.path (by omega) (by omega)) ?_
 by_cases g_path:x.path=y.path
 rotate_left
 ·have hne:x≠y:=fun h=>g_path (by rw[h])
  simp -implicitDefEqProofs [g_path,hne]
 simp -implicitDefEqProofs [g_path]
 by_cases g_cls:x.cls=y.cls
 rotate_left
 ·have hne:x≠y:=fun h=>g_cls (by rw[h])
  simp -implicitDefEqProofs [g_cls,hne]
 simp -implicitDefEqProofs [g_cls]
 have hxy:x=y:=by cases x;cases y;simp_all
 simp -implicitDefEqProofs [hxy]
abbrev Oq (R:Rel):Prop:=∀xs ys:List AQ,Bn Ac xs≤2 ^ 40→Bn Ac ys≤2 ^ 40→R [.sl 1 4 xs.length (xs.flatMap Aj),.sl 1 4 ys.length (ys.flatMap Aj)] [] (B (decide (xs=ys))) []
theorem Ah2 (D:Dn) (heq:Qc (D 134)):Oq (Body D KN):=by
 intro xs ys h1 h2
 have hlen:=Ic (f:=Ac) (xs:=xs)
 by_cases hl:xs.length=ys.length
 ·have hl':(xs.length:Int)=ys.length:=by omega
  simp -implicitDefEqProofs [hl']
  refine Ag (fun k s=>∃j,j+k=xs.length∧xs.take j=ys.take j∧s=⟨[.sl 1 4 xs.length (xs.flatMap Aj),.sl 1 4 ys.length (ys.flatMap Aj),.undef,.sc (.int .i64 j),.undef,.undef,.undef],[]⟩) ?_ xs.length _ ⟨0,by simp,by simp,by simp⟩
  intro k s ⟨j,hj,hp,hs⟩
  subst hs
  by_cases hjn:j<xs.length
  ·have hw:IntKind.i64.wrap ((j:Int)+1)=(j+1:Nat):=by rw[Ad (by omega) (by omega)];simp
   have hy:j<ys.length:=by omega
   have hsx:=size_at (f:=Ac) hjn
   have hsy:=size_at (f:=Ac) hy
   simp -implicitDefEqProofs [hjn,hy]
   refine Aa (heq xs[j] ys[j] (by omega) (by omega)) ?_
   by_cases he:xs[j]=ys[j]
   ·simp -implicitDefEqProofs [he]
    exact⟨k-1,by omega,j+1,by omega,IA hjn hy hp he,by simp[hw]⟩
   ·have hne:xs≠ys:=fun h=>he (by simp[h])
    simp -implicitDefEqProofs [he,hne]
  ·obtain rfl:xs=ys:=La (by omega) hl hp
   simp -implicitDefEqProofs [hjn]
 ·have hl':¬(xs.length:Int)=ys.length:=by omega
  have:xs≠ys:=fun h=>hl (by rw[h])
  simp -implicitDefEqProofs [hl',this]
end Go.Eng.T
