/- Own work: part 44 of the proof of FnExactDialOf. -/
import Derived.Test.YtdgpapmladligaaGreatEngAT
set_option linter.unusedSimpArgs false
set_option linter.unusedVariables false
namespace Go.Eng.T
open Go.Eng.X
def Dk:Nat→Bz
 |0=>R 0 [x 0 (s 0),m (i 0)] [(2,0)] [0,3]
 |1=>R 1 [F (s 2) 0,P 3 (l 0),m (s 1),C 140 [r (l 1),r (l 2)] [],m (l 3)] [(1,4)] []
 |2=>R 2 [m (s 1),y .lss (l 0) (i 0)] [(4,1)] []
 |3=>R 3 [m (i (-1))] [(3,0)] [1,2]
 |4=>R 4 [F (s 2) 4,L (l 0),m (s 1),C 16 [r (l 1),r (l 2)] [],m (l 3)] [(1,4)] [2]
 |5=>R 5 [m (s 1),y .lss (l 0) (i 0)] [(5,1)] []
 |6=>R 6 [m (i (-1))] [(3,0)] [1]
 |_=>R 7 [m (s 1),m (l 0)] [(3,1)] [1]
def Pv:BD:=⟨6,1,[0,1],0,false,[],j (d (Dk 0)) (j (d (Dk 1)) (j (j (d (Dk 2)) (h 4 (j (d (Dk 3)) (.ret)) (.skip))) (j (d (Dk 4)) (j (j (d (Dk 5)) (h 5 (j (d (Dk 6)) (.ret)) (.skip))) (j (d (Dk 7)) (.ret)))))),[.slot 3]⟩
def Abm:List Tmp:=[0,1,2,4,10,16]
def EF:Nat→Bz
 |0=>R 0 [x 0 (s 0),a 1 zD] [(1,0),(2,1)] [0]
 |1=>R 1 [a 2 zD] [(3,0)] []
 |2=>R 2 [F (s 1) 0,P 3 (l 0),C 171 [r (l 1)] [3],F (s 3) 0,W 3 (l 3) (l 2)] [] []
 |3=>R 3 [F (s 1) 3,L (l 0),F (s 3) 3,W 1 (l 2) (l 1)] [] []
 |4=>R 4 [F (s 1) 4,L (l 0),C 31 [r (l 1)] [4],F (s 3) 4,W 1 (l 3) (l 2)] [] [1]
 |_=>R 5 [P 5 (s 3),W 5 (s 2) (l 0)] [] [3]
def Po:BD:=⟨4,5,[0],0,false,[],j (d (EF 0)) (j (d (EF 1)) (j (d (EF 2)) (j (d (EF 3)) (j (d (EF 4)) (j (d (EF 5)) (.ret)))))),[.cell 2 (some 5)]⟩
def Abp:List Tmp:=[0,1,2,3]
def Dm:Nat→Bz
 |0=>R 0 [x 0 (s 0),x 1 (s 1),m f] [(2,0),(3,1)] [0,1,4]
 |1=>R 1 [F (s 2) 0,P 3 (l 0),F (s 3) 0,P 3 (l 2),C 205 [r (l 1),r (l 3)] [],n (l 4)] [(5,5)] []
 |2=>R 2 [m f] [(4,0)] [2,3]
 |3=>R 3 [F (s 2) 3,L (l 0),F (s 3) 3,L (l 2),y .neq (l 1) (l 3)] [(6,4)] []
 |4=>R 4 [m f] [(4,0)] [2,3]
 |5=>R 5 [F (s 2) 4,L (l 0),F (s 3) 4,L (l 2),C 47 [r (l 1),r (l 3)] [],n (l 4)] [(7,5)] [2,3]
 |6=>R 6 [m f] [(4,0)] []
 |_=>R 7 [m t] [(4,0)] []
def O0:BD:=⟨8,2,[0,1],0,false,[],j (d (Dm 0)) (j (j (d (Dm 1)) (h 5 (j (d (Dm 2)) (.ret)) (.skip))) (j (j (d (Dm 3)) (h 6 (j (d (Dm 4)) (.ret)) (.skip))) (j (j (d (Dm 5)) (h 7 (j (d (Dm 6)) (.ret)) (.skip))) (j (d (Dm 7)) (.ret))))),[.slot 4]⟩
def Aa3:List Tmp:=[0,1,2,3,4,10,15,21]
def BP:Nat→Bz
 |0=>R 0 [m f] [] [2]
 |1=>R 1 [m (s 0),e (l 0),m (s 1),e (l 2),y .neq (l 1) (l 3)] [(4,4)] []
 |2=>R 2 [m f] [(2,0)] [0,1]
 |3=>R 3 [m (i 0)] [(3,0)] []
 |4=>R 4 [m (s 3),m (s 0),e (l 1),y .lss (l 0) (l 2)] [(5,3)] []
 |5=>T 6 [D (m (s 0)) [] [],D (m (s 3)) [] [],D (A 4 (l 0) (l 1)) [] [],D (P 4 (l 2)) [] [],D (m (s 1)) [] [],D (m (s 3)) [] [],D (A 4 (l 4) (l 5)) [] [],D (P 4 (l 6)) [] [],D (C 134 [r (l 3),r (l 7)] []) [] [],D (n (l 8)) [] []] [(6,9)] []
 |6=>R 7 [m f] [(2,0)] [0,1,3]
 |7=>R 5 [m (s 3),y .add (l 0) (i 1),m (l 1)] [(3,2)] []
 |_=>R 8 [m t] [(2,0)] [0,1,3]
def K4:BD:=⟨7,0,[0,1],0,false,[],j (d (BP 0)) (j (j (d (BP 1)) (h 4 (j (d (BP 2)) (.ret)) (.skip))) (j (j (d (BP 3)) (.block 0 (.loop (j (j (d (BP 4)) (h 5 (.skip) (.exit 0))) (j (.block 1 (j (d (BP 5)) (h 6 (j (d (BP 6)) (.ret)) (.skip)))) (d (BP 7))))))) (j (d (BP 8)) (.ret)))),[.slot 2]⟩
def Ws:List Tmp:=[0,1,4,5,10,14,26]
def Bf:Nat→Bz
 |0=>R 0 [m (i 0)] [] [2]
 |1=>R 1 [m (i 0)] [(3,0)] []
 |2=>R 2 [m (s 3),m (s 0),e (l 1),y .lss (l 0) (l 2)] [(4,3)] []
 |3=>Q 4 [m (s 0),m (s 3),A 4 (l 0) (l 1),F (l 2) 0,Hw.take 1 (l 3),m (s 1),C 52 [v (l 4),r (l 5)] [],m (l 6)] [(1,7)] [] [1] [.untake 1]
 |4=>Q 5 [m (s 0),m (s 3),A 4 (l 0) (l 1),F (l 2) 1,Hw.take 2 (l 3),m (s 1),C 52 [v (l 4),r (l 5)] [],m (l 6)] [(1,7)] [] [2] [.untake 2]
 |5=>Q 6 [m (s 0),m (s 3),A 4 (l 0) (l 1),F (l 2) 2,Hw.take 3 (l 3),m (s 1),C 137 [v (l 4),r (l 5)] [],m (l 6)] [(1,7)] [] [3] [.untake 3]
 |6=>R 7 [m (s 0),m (s 3),m (s 1),A 4 (l 0) (l 1),F (l 3) 3,W 1 (l 4) (l 2)] [] []
 |7=>R 8 [m (s 1),y .add (l 0) (i 1),m (l 1)] [(1,2)] []
 |8=>R 3 [m (s 3),y .add (l 0) (i 1),m (l 1)] [(3,2)] []
 |_=>R 9 [m (s 1),m (l 0)] [(2,1)] [0,1,3]
def Jh:BD:=⟨5,4,[0,1],1,false,[1,2,3],j (d (Bf 0)) (j (j (d (Bf 1)) (.block 0 (.loop (j (j (d (Bf 2)) (h 4 (.skip) (.exit 0))) (j (.block 1 (j (d (Bf 3)) (j (d (Bf 4)) (j (d (Bf 5)) (j (d (Bf 6)) (d (Bf 7))))))) (d (Bf 8))))))) (j (d (Bf 9)) (.ret))),[.slot 2]⟩
def Uj:List Tmp:=[0,1,4,5,9]
def Td:Nat→Bz
 |0=>R 0 [m f] [] [3]
 |_=>R 1 [m (s 0),m (s 1),y .geq (l 0) (l 1),m (l 2),J 3 (m (s 0)),J 3 (m (s 2)),J 3 (y .leq (l 4) (l 5)),k (l 3) (l 6) f,m (l 7)] [(3,8)] [0,1,2]
def Yx:BD:=⟨4,0,[0,1,2],0,false,[],j (d (Td 0)) (j (d (Td 1)) (.ret)),[.slot 3]⟩
def AlB:List Tmp:=[0,1,2,6]
def NU:Nat→Bz
 |0=>R 0 [m f] [] [3]
 |_=>R 1 [m (s 1),m (s 0),y .leq (l 0) (l 1),m (l 2),J 3 (m (s 0)),J 3 (m (s 2)),J 3 (y .leq (l 4) (l 5)),k (l 3) (l 6) f,m (l 7)] [(3,8)] [0,1,2]
def Ra:BD:=⟨4,0,[0,1,2],0,false,[],j (d (NU 0)) (j (d (NU 1)) (.ret)),[.slot 3]⟩
def Adw:List Tmp:=[0,1,2,6]
def Gn:Nat→Bz
 |0=>R 0 [x 0 (s 0),m (i 0)] [(2,0)] [0,3]
 |1=>R 1 [F (s 2) 2,L (l 0),m (s 1),C 16 [r (l 1),r (l 2)] [],m (l 3)] [(1,4)] [2]
 |2=>R 2 [m (s 1),y .lss (l 0) (i 0)] [(4,1)] []
 |3=>R 3 [m (i (-1))] [(3,0)] [1]
 |_=>R 4 [m (s 1),m (l 0)] [(3,1)] [1]
def TY:BD:=⟨5,1,[0,1],0,false,[],j (d (Gn 0)) (j (d (Gn 1)) (j (j (d (Gn 2)) (h 4 (j (d (Gn 3)) (.ret)) (.skip))) (j (d (Gn 4)) (.ret)))),[.slot 3]⟩
def Afp:List Tmp:=[0,1,2,4,10]
def Gt:Nat→Bz
 |0=>R 0 [m (i 0)] [] [2]
 |1=>R 1 [m (s 1),m (s 0),e (l 1),y .sub (l 0) (l 2),m (l 3)] [(1,4)] [0]
 |2=>R 2 [m (s 1),y .lss (l 0) (i 0)] [(3,1)] []
 |3=>R 3 [m (i (-1))] [(2,0)] [1]
 |_=>R 4 [m (s 1),m (l 0)] [(2,1)] [1]
def Sj:BD:=⟨4,0,[0,1],0,false,[],j (d (Gt 0)) (j (d (Gt 1)) (j (j (d (Gt 2)) (h 3 (j (d (Gt 3)) (.ret)) (.skip))) (j (d (Gt 4)) (.ret)))),[.slot 2]⟩
def Agh:List Tmp:=[0,1,4,10]
def FT:Nat→Bz
 |0=>R 0 [x 0 (s 0),a 1 [c,o,N 1]] [(1,0),(2,1)] [0]
 |1=>R 1 [a 2 [c,o,N 1]] [(3,0)] []
 |2=>R 2 [F (s 1) 0,L (l 0),F (s 3) 0,W 1 (l 2) (l 1)] [] []
 |3=>R 3 [F (s 1) 1,L (l 0),F (s 3) 1,W 1 (l 2) (l 1)] [] []
 |4=>R 4 [F (s 1) 2,L (l 0),C 31 [r (l 1)] [3],F (s 3) 2,W 1 (l 3) (l 2)] [] [1]
 |_=>R 5 [P 3 (s 3),W 3 (s 2) (l 0)] [] [3]
def Tt:BD:=⟨4,4,[0],0,false,[],j (d (FT 0)) (j (d (FT 1)) (j (d (FT 2)) (j (d (FT 3)) (j (d (FT 4)) (j (d (FT 5)) (.ret)))))),[.cell 2 (some 3)]⟩
def Agz:List Tmp:=[0,1,2,3]
def EX:Nat→Bz
 |0=>R 0 [m (z 1)] [] [1]
 |1=>R 1 [m (s 0),e (l 0),Hw.makeSlice 0 1 8 [o] (l 1),m (l 2)] [(2,3)] []
 |2=>R 2 [m (i 0)] [(3,0)] []
 |3=>R 3 [m (s 3),m (s 0),e (l 1),y .lss (l 0) (l 2)] [(4,3)] []
 |4=>R 5 [m (s 2),m (s 3),m (s 0),m (s 3),A 1 (l 2) (l 3),L (l 4),A 1 (l 0) (l 1),W 1 (l 6) (l 5)] [] []
 |5=>R 4 [m (s 3),y .add (l 0) (i 1),m (l 1)] [(3,2)] []
 |_=>R 6 [m (s 2),m (l 0)] [(1,1)] [0,2,3]
def SX:BD:=⟨5,1,[0],0,false,[],j (d (EX 0)) (j (d (EX 1)) (j (j (d (EX 2)) (.block 0 (.loop (j (j (d (EX 3)) (h 4 (.skip) (.exit 0))) (j (.block 1 (d (EX 4))) (d (EX 5))))))) (j (d (EX 6)) (.ret)))),[.slot 1]⟩
def Ahs:List Tmp:=[0,2,3,4,11]
def El:Nat→Bz
 |0=>R 0 [x 0 (s 0),x 1 (s 1),m f] [(2,0),(3,1)] [0,1,4]
 |1=>R 1 [F (s 2) 0,L (l 0),F (s 3) 0,L (l 2),Hw.beq true (l 1) (l 3)] [(5,4)] []
 |2=>R 2 [m f] [(4,0)] [2,3]
 |3=>R 3 [F (s 2) 1,L (l 0),F (s 3) 1,L (l 2),y .neq (l 1) (l 3)] [(6,4)] []
 |4=>R 4 [m f] [(4,0)] [2,3]
 |5=>R 5 [F (s 2) 2,L (l 0),F (s 3) 2,L (l 2),C 47 [r (l 1),r (l 3)] [],n (l 4)] [(7,5)] [2,3]
 |6=>R 6 [m f] [(4,0)] []
 |_=>R 7 [m t] [(4,0)] []
def Tz:BD:=⟨8,2,[0,1],0,false,[],j (d (El 0)) (j (j (d (El 1)) (h 5 (j (d (El 2)) (.ret)) (.skip))) (j (j (d (El 3)) (h 6 (j (d (El 4)) (.ret)) (.skip))) (j (j (d (El 5)) (h 7 (j (d (El 6)) (.ret)) (.skip))) (j (d (El 7)) (.ret))))),[.slot 4]⟩
def AgK:List Tmp:=[0,1,2,3,4,9,14,20]
def DJ:Nat→Bz
 |0=>R 0 [m f] [] [2]
 |1=>R 1 [m (s 0),e (l 0),m (s 1),e (l 2),y .neq (l 1) (l 3)] [(4,4)] []
 |2=>R 2 [m f] [(2,0)] [0,1]
 |3=>R 3 [m (i 0)] [(3,0)] []
 |4=>R 4 [m (s 3),m (s 0),e (l 1),y .lss (l 0) (l 2)] [(5,3)] []
 |5=>T 6 [D (m (s 0)) [] [],D (m (s 3)) [] [],D (A 1 (l 0) (l 1)) [] [],D (L (l 2)) [] [],D (m (s 1)) [] [],D (m (s 3)) [] [],D (A 1 (l 4) (l 5)) [] [],D (L (l 6)) [] [],D (y .neq (l 3) (l 7)) [] []] [(6,8)] []
 |6=>R 7 [m f] [(2,0)] [0,1,3]
 |7=>R 5 [m (s 3),y .add (l 0) (i 1),m (l 1)] [(3,2)] []
 |_=>R 8 [m t] [(2,0)] [0,1,3]
def TV:BD:=⟨7,0,[0,1],0,false,[],j (d (DJ 0)) (j (j (d (DJ 1)) (h 4 (j (d (DJ 2)) (.ret)) (.skip))) (j (j (d (DJ 3)) (.block 0 (.loop (j (j (d (DJ 4)) (h 5 (.skip) (.exit 0))) (j (.block 1 (j (d (DJ 5)) (h 6 (j (d (DJ 6)) (.ret)) (.skip)))) (d (DJ 7))))))) (j (d (DJ 8)) (.ret)))),[.slot 2]⟩
def Ag0:List Tmp:=[0,1,4,5,10,14,25]
def BO:Nat→Bz
 |0=>R 0 [x 0 (s 0),x 1 (s 1),m f] [(2,0),(3,1)] [0,1,4]
 |1=>R 1 [F (s 2) 0,L (l 0),F (s 3) 0,L (l 2),C 47 [r (l 1),r (l 3)] [],n (l 4)] [(5,5)] []
 |2=>R 2 [m f] [(4,0)] [2,3]
 |3=>R 3 [F (s 2) 1,L (l 0),F (s 3) 1,L (l 2),C 47 [r (l 1),r (l 3)] [],n (l 4)] [(6,5)] []
 |4=>R 4 [m f] [(4,0)] [2,3]
 |5=>R 5 [F (s 2) 2,L (l 0),F (s 3) 2,L (l 2),C 204 [r (l 1),r (l 3)] [],n (l 4)] [(7,5)] []
 |6=>R 6 [m f] [(4,0)] [2,3]
 |7=>R 7 [F (s 2) 3,L (l 0),F (s 3) 3,L (l 2),y .neq (l 1) (l 3)] [(8,4)] [2,3]
 |8=>R 8 [m f] [(4,0)] []
 |_=>R 9 [m t] [(4,0)] []
def MK:BD:=⟨9,2,[0,1],0,false,[],j (d (BO 0)) (j (j (d (BO 1)) (h 5 (j (d (BO 2)) (.ret)) (.skip))) (j (j (d (BO 3)) (h 6 (j (d (BO 4)) (.ret)) (.skip))) (j (j (d (BO 5)) (h 7 (j (d (BO 6)) (.ret)) (.skip))) (j (j (d (BO 7)) (h 8 (j (d (BO 8)) (.ret)) (.skip))) (j (d (BO 9)) (.ret)))))),[.slot 4]⟩
def Yg:List Tmp:=[0,1,2,3,4,10,16,22,27]
def Ec:Nat→Bz
 |0=>R 0 [m (i 0)] [] [2]
 |1=>R 1 [m (i 0)] [(3,0)] []
 |2=>R 2 [m (s 3),m (s 0),e (l 1),y .lss (l 0) (l 2)] [(4,3)] []
 |3=>R 4 [m (s 0),m (s 3),m (s 1),A 1 (l 0) (l 1),W 1 (l 3) (l 2)] [] []
 |4=>R 5 [m (s 1),y .add (l 0) (i 1),m (l 1)] [(1,2)] []
 |5=>R 3 [m (s 3),y .add (l 0) (i 1),m (l 1)] [(3,2)] []
 |_=>R 6 [m (s 1),m (l 0)] [(2,1)] [0,1,3]
def Pk:BD:=⟨5,1,[0,1],1,false,[],j (d (Ec 0)) (j (j (d (Ec 1)) (.block 0 (.loop (j (j (d (Ec 2)) (h 4 (.skip) (.exit 0))) (j (.block 1 (j (d (Ec 3)) (d (Ec 4)))) (d (Ec 5))))))) (j (d (Ec 6)) (.ret))),[.slot 2]⟩
def Acm:List Tmp:=[0,1,4,5,9]
def BU:Nat→Bz
 |0=>R 0 [m (i 0)] [] [2]
 |1=>R 1 [m (i 0)] [(3,0)] []
 |2=>R 2 [m (s 3),m (s 0),e (l 1),y .lss (l 0) (l 2)] [(4,3)] []
 |3=>R 4 [m (s 0),m (s 3),m (s 1),A 4 (l 0) (l 1),F (l 3) 0,W 1 (l 4) (l 2)] [] []
 |4=>R 5 [m (s 1),y .add (l 0) (i 1),m (l 1)] [(1,2)] []
 |5=>Q 6 [m (s 0),m (s 3),A 4 (l 0) (l 1),F (l 2) 1,Hw.take 1 (l 3),m (s 1),C 52 [v (l 4),r (l 5)] [],m (l 6)] [(1,7)] [] [1] [.untake 1]
 |6=>Q 7 [m (s 0),m (s 3),A 4 (l 0) (l 1),F (l 2) 2,Hw.take 2 (l 3),m (s 1),C 52 [v (l 4),r (l 5)] [],m (l 6)] [(1,7)] [] [2] [.untake 2]
 |7=>R 8 [m (s 0),m (s 3),m (s 1),y .rem (l 2) (i 3),y .eql (l 3) (i 0),A 4 (l 0) (l 1),F (l 5) 3,W 1 (l 6) (l 4)] [] []
 |8=>R 9 [m (s 1),y .add (l 0) (i 1),m (l 1)] [(1,2)] []
 |9=>R 3 [m (s 3),y .add (l 0) (i 1),m (l 1)] [(3,2)] []
 |_=>R 10 [m (s 1),m (l 0)] [(2,1)] [0,1,3]
def O4:BD:=⟨5,3,[0,1],1,false,[1,2],j (d (BU 0)) (j (j (d (BU 1)) (.block 0 (.loop (j (j (d (BU 2)) (h 4 (.skip) (.exit 0))) (j (.block 1 (j (d (BU 3)) (j (d (BU 4)) (j (d (BU 5)) (j (d (BU 6)) (j (d (BU 7)) (d (BU 8)))))))) (d (BU 9))))))) (j (d (BU 10)) (.ret))),[.slot 2]⟩
def Aby:List Tmp:=[0,1,4,5,9]
def Dp:Nat→Bz
 |0=>R 0 [m (i 0)] [] [2]
 |1=>R 1 [m (i 0)] [(3,0)] []
 |2=>R 2 [m (s 3),m (s 0),e (l 1),y .lss (l 0) (l 2)] [(4,3)] []
 |3=>R 4 [m (s 0),m (s 3),A 1 (l 0) (l 1),L (l 2),m (s 1),y .neq (l 3) (l 4)] [(5,5)] []
 |4=>R 5 [m (i (-1))] [(2,0)] [0,1,3]
 |5=>R 6 [m (s 1),y .add (l 0) (i 1),m (l 1)] [(1,2)] []
 |6=>R 3 [m (s 3),y .add (l 0) (i 1),m (l 1)] [(3,2)] []
 |_=>R 7 [m (s 1),m (l 0)] [(2,1)] [0,1,3]
def Pq:BD:=⟨6,0,[0,1],0,false,[],j (d (Dp 0)) (j (j (d (Dp 1)) (.block 0 (.loop (j (j (d (Dp 2)) (h 4 (.skip) (.exit 0))) (j (.block 1 (j (j (d (Dp 3)) (h 5 (j (d (Dp 4)) (.ret)) (.skip))) (d (Dp 5)))) (d (Dp 6))))))) (j (d (Dp 7)) (.ret))),[.slot 2]⟩
def Abs:List Tmp:=[0,1,4,5,9,17]
def Fs:Nat→Bz
 |0=>R 0 [m f] [] [2]
 |1=>R 1 [m (i 0)] [(3,0)] []
 |2=>R 2 [m (s 3),m (s 0),e (l 1),y .lss (l 0) (l 2)] [(4,3)] []
 |3=>R 4 [m (s 0),m (s 3),A 1 (l 0) (l 1),L (l 2),m (s 1),y .eql (l 3) (l 4)] [(5,5)] []
 |4=>R 5 [m t] [(2,0)] [0,1,3]
 |5=>R 3 [m (s 3),y .add (l 0) (i 1),m (l 1)] [(3,2)] []
 |_=>R 6 [m f] [(2,0)] [0,1,3]
def Vf:BD:=⟨6,0,[0,1],0,false,[],j (d (Fs 0)) (j (j (d (Fs 1)) (.block 0 (.loop (j (j (d (Fs 2)) (h 4 (.skip) (.exit 0))) (j (.block 1 (j (d (Fs 3)) (h 5 (j (d (Fs 4)) (.ret)) (.skip)))) (d (Fs 5))))))) (j (d (Fs 6)) (.ret))),[.slot 2]⟩
def AiU:List Tmp:=[0,1,4,5,9,17]
def EP:Nat→Bz
 |0=>R 0 [m f] [] [2]
 |_=>R 1 [m (s 0),m (s 1),C 389 [r (l 0),r (l 1)] [],y .geq (l 2) (i 0),m (l 3)] [(2,4)] [0,1]
def Fq:BD:=⟨3,0,[0,1],0,false,[],j (d (EP 0)) (j (d (EP 1)) (.ret)),[.slot 2]⟩
def Na:List Tmp:=[0,1,4]
def EL:Nat→Bz
 |0=>R 0 [x 0 (s 0),m (i 0)] [(2,0)] [0,3]
 |1=>R 1 [F (s 2) 1,L (l 0),m (s 1),C 16 [r (l 1),r (l 2)] [],m (l 3)] [(1,4)] []
 |2=>R 2 [m (s 1),y .lss (l 0) (i 0)] [(4,1)] []
 |3=>R 3 [m (i (-1))] [(3,0)] [1,2]
 |4=>R 4 [F (s 2) 2,L (l 0),m (s 1),C 16 [r (l 1),r (l 2)] [],m (l 3)] [(1,4)] [2]
 |5=>R 5 [m (s 1),y .lss (l 0) (i 0)] [(5,1)] []
 |6=>R 6 [m (i (-1))] [(3,0)] [1]
 |_=>R 7 [m (s 1),m (l 0)] [(3,1)] [1]
def Ux:BD:=⟨6,1,[0,1],0,false,[],j (d (EL 0)) (j (d (EL 1)) (j (j (d (EL 2)) (h 4 (j (d (EL 3)) (.ret)) (.skip))) (j (d (EL 4)) (j (j (d (EL 5)) (h 5 (j (d (EL 6)) (.ret)) (.skip))) (j (d (EL 7)) (.ret)))))),[.slot 3]⟩
def Aic:List Tmp:=[0,1,2,4,10,16]
def FB:Nat→Bz
 |0=>R 0 [x 0 (s 0),a 1 [o,N 1,N 1,c]] [(1,0),(2,1)] [0]
 |1=>R 1 [a 2 [o,N 1,N 1,c]] [(3,0)] []
 |2=>R 2 [F (s 1) 0,L (l 0),F (s 3) 0,W 1 (l 2) (l 1)] [] []
 |3=>R 3 [F (s 1) 1,L (l 0),C 31 [r (l 1)] [3],F (s 3) 1,W 1 (l 3) (l 2)] [] []
 |4=>R 4 [F (s 1) 2,L (l 0),C 31 [r (l 1)] [4],F (s 3) 2,W 1 (l 3) (l 2)] [] []
 |5=>R 5 [F (s 1) 3,L (l 0),F (s 3) 3,W 1 (l 2) (l 1)] [] [1]
 |_=>R 6 [P 4 (s 3),W 4 (s 2) (l 0)] [] [3]
def Uz:BD:=⟨4,5,[0],0,false,[],j (d (FB 0)) (j (d (FB 1)) (j (d (FB 2)) (j (d (FB 3)) (j (d (FB 4)) (j (d (FB 5)) (j (d (FB 6)) (.ret))))))),[.cell 2 (some 4)]⟩
def Aii:List Tmp:=[0,1,2,3]
def DR:Nat→Bz
 |0=>R 0 [x 0 (s 0),x 1 (s 1),m f] [(2,0),(3,1)] [0,1,4]
 |1=>R 1 [F (s 2) 0,L (l 0),F (s 3) 0,L (l 2),y .neq (l 1) (l 3)] [(5,4)] []
 |2=>R 2 [m f] [(4,0)] [2,3]
 |3=>R 3 [F (s 2) 1,L (l 0),F (s 3) 1,L (l 2),C 47 [r (l 1),r (l 3)] [],n (l 4)] [(6,5)] []
 |4=>R 4 [m f] [(4,0)] [2,3]
 |5=>R 5 [F (s 2) 2,L (l 0),F (s 3) 2,L (l 2),C 47 [r (l 1),r (l 3)] [],n (l 4)] [(7,5)] []
 |6=>R 6 [m f] [(4,0)] [2,3]
 |7=>R 7 [F (s 2) 3,L (l 0),F (s 3) 3,L (l 2),Hw.beq true (l 1) (l 3)] [(8,4)] [2,3]
 |8=>R 8 [m f] [(4,0)] []
 |_=>R 9 [m t] [(4,0)] []
def Vd:BD:=⟨9,2,[0,1],0,false,[],j (d (DR 0)) (j (j (d (DR 1)) (h 5 (j (d (DR 2)) (.ret)) (.skip))) (j (j (d (DR 3)) (h 6 (j (d (DR 4)) (.ret)) (.skip))) (j (j (d (DR 5)) (h 7 (j (d (DR 6)) (.ret)) (.skip))) (j (j (d (DR 7)) (h 8 (j (d (DR 8)) (.ret)) (.skip))) (j (d (DR 9)) (.ret)))))),[.slot 4]⟩
def Aja:List Tmp:=[0,1,2,3,4,9,15,21,26]
def DN:Nat→Bz
 |0=>R 0 [m f] [] [2]
 |1=>R 1 [m (s 0),e (l 0),m (s 1),e (l 2),y .neq (l 1) (l 3)] [(4,4)] []
 |2=>R 2 [m f] [(2,0)] [0,1]
 |3=>R 3 [m (i 0)] [(3,0)] []
 |4=>R 4 [m (s 3),m (s 0),e (l 1),y .lss (l 0) (l 2)] [(5,3)] []
 |5=>T 6 [D (m (s 0)) [] [],D (m (s 3)) [] [],D (A 4 (l 0) (l 1)) [] [],D (P 4 (l 2)) [] [],D (m (s 1)) [] [],D (m (s 3)) [] [],D (A 4 (l 4) (l 5)) [] [],D (P 4 (l 6)) [] [],D (C 249 [r (l 3),r (l 7)] []) [] [],D (n (l 8)) [] []] [(6,9)] []
 |6=>R 7 [m f] [(2,0)] [0,1,3]
 |7=>R 5 [m (s 3),y .add (l 0) (i 1),m (l 1)] [(3,2)] []
 |_=>R 8 [m t] [(2,0)] [0,1,3]
def TM:BD:=⟨7,0,[0,1],0,false,[],j (d (DN 0)) (j (j (d (DN 1)) (h 4 (j (d (DN 2)) (.ret)) (.skip))) (j (j (d (DN 3)) (.block 0 (.loop (j (j (d (DN 4)) (h 5 (.skip) (.exit 0))) (j (.block 1 (j (d (DN 5)) (h 6 (j (d (DN 6)) (.ret)) (.skip)))) (d (DN 7))))))) (j (d (DN 8)) (.ret)))),[.slot 2]⟩
def AhG:List Tmp:=[0,1,4,5,10,14,26]
def A9:Nat→Bz
 |0=>R 0 [m (i 0)] [] [2]
 |1=>R 1 [m (s 0),e (l 0),m (i 0)] [(4,1),(5,2)] []
 |2=>R 2 [y .lss (s 5) (s 4)] [(6,0)] []
 |3=>R 3 [m (s 5),m (l 0)] [(3,1)] []
 |4=>R 4 [m (s 1),m (s 0),m (s 3),A 1 (l 1) (l 2),L (l 3),y .eql (l 0) (l 4)] [(7,5)] []
 |5=>R 5 [m (s 3),m (l 0)] [(2,1)] [0,1,3,4,5]
 |6=>R 6 [y .add (s 5) (i 1),m (l 0)] [(5,1)] [3]
 |_=>R 7 [m (i (-1))] [(2,0)] [0,1,4,5]
def Gb:BD:=⟨8,0,[0,1],0,false,[],j (d (A9 0)) (j (j (d (A9 1)) (.block 0 (.loop (j (d (A9 2)) (j (h 6 (.skip) (.exit 0)) (j (.block 1 (j (d (A9 3)) (j (d (A9 4)) (h 7 (j (d (A9 5)) (.ret)) (.skip))))) (d (A9 6)))))))) (j (d (A9 7)) (.ret))),[.slot 2]⟩
def PS:List Tmp:=[0,1,4,5,7,8,9,16]
def AP:Nat→Bz
 |0=>R 0 [x 0 (s 0),m (i 0)] [(2,0)] [0,3]
 |1=>R 1 [F (s 2) 0,L (l 0),m (s 1),C 16 [r (l 1),r (l 2)] [],m (l 3)] [(1,4)] []
 |2=>R 2 [m (s 1),y .lss (l 0) (i 0)] [(4,1)] []
 |3=>R 3 [m (i (-1))] [(3,0)] [1,2]
 |4=>R 4 [F (s 2) 1,L (l 0),m (s 1),C 16 [r (l 1),r (l 2)] [],m (l 3)] [(1,4)] []
 |5=>R 5 [m (s 1),y .lss (l 0) (i 0)] [(5,1)] []
 |6=>R 6 [m (i (-1))] [(3,0)] [1,2]
 |7=>R 7 [F (s 2) 3,L (l 0),m (s 1),C 17 [r (l 1),r (l 2)] [],m (l 3)] [(1,4)] []
 |8=>R 8 [m (s 1),y .lss (l 0) (i 0)] [(6,1)] []
 |9=>R 9 [m (i (-1))] [(3,0)] [1,2]
 |10=>R 10 [F (s 2) 4,P 4 (l 0),m (s 1),C 18 [r (l 1),r (l 2)] [],m (l 3)] [(1,4)] []
 |11=>R 11 [m (s 1),y .lss (l 0) (i 0)] [(7,1)] []
 |12=>R 12 [m (i (-1))] [(3,0)] [1,2]
 |13=>R 13 [F (s 2) 10,L (l 0),m (s 1),C 19 [r (l 1),r (l 2)] [],m (l 3)] [(1,4)] []
 |14=>R 14 [m (s 1),y .lss (l 0) (i 0)] [(8,1)] []
 |15=>R 15 [m (i (-1))] [(3,0)] [1,2]
 |16=>R 16 [F (s 2) 11,L (l 0),m (s 1),C 20 [r (l 1),r (l 2)] [],m (l 3)] [(1,4)] [2]
 |17=>R 17 [m (s 1),y .lss (l 0) (i 0)] [(9,1)] []
 |18=>R 18 [m (i (-1))] [(3,0)] [1]
 |_=>R 19 [m (s 1),m (l 0)] [(3,1)] [1]
def Rl:BD:=⟨10,1,[0,1],0,false,[],j (d (AP 0)) (j (d (AP 1)) (j (j (d (AP 2)) (h 4 (j (d (AP 3)) (.ret)) (.skip))) (j (d (AP 4)) (j (j (d (AP 5)) (h 5 (j (d (AP 6)) (.ret)) (.skip))) (j (d (AP 7)) (j (j (d (AP 8)) (h 6 (j (d (AP 9)) (.ret)) (.skip))) (j (d (AP 10)) (j (j (d (AP 11)) (h 7 (j (d (AP 12)) (.ret)) (.skip))) (j (d (AP 13)) (j (j (d (AP 14)) (h 8 (j (d (AP 15)) (.ret)) (.skip))) (j (d (AP 16)) (j (j (d (AP 17)) (h 9 (j (d (AP 18)) (.ret)) (.skip))) (j (d (AP 19)) (.ret)))))))))))))),[.slot 3]⟩
def Ad4:List Tmp:=[0,1,2,4,10,16,22,28,34,40]
def Bn:Nat→Bz
 |0=>R 0 [x 0 (s 0),a 1 zW] [(1,0),(2,1)] [0]
 |1=>R 1 [a 2 zW] [(3,0)] []
 |2=>R 2 [F (s 1) 0,L (l 0),C 31 [r (l 1)] [3],F (s 3) 0,W 1 (l 3) (l 2)] [] []
 |3=>R 3 [F (s 1) 1,L (l 0),C 31 [r (l 1)] [4],F (s 3) 1,W 1 (l 3) (l 2)] [] []
 |4=>R 4 [F (s 1) 2,L (l 0),F (s 3) 2,W 1 (l 2) (l 1)] [] []
 |5=>R 5 [F (s 1) 3,L (l 0),C 32 [r (l 1)] [5],F (s 3) 3,W 1 (l 3) (l 2)] [] []
 |6=>R 6 [F (s 1) 4,P 4 (l 0),C 33 [r (l 1)] [6],F (s 3) 4,W 4 (l 3) (l 2)] [] []
 |7=>R 7 [F (s 1) 8,L (l 0),F (s 3) 8,W 1 (l 2) (l 1)] [] []
 |8=>R 8 [F (s 1) 9,L (l 0),F (s 3) 9,W 1 (l 2) (l 1)] [] []
 |9=>R 9 [F (s 1) 10,L (l 0),C 34 [r (l 1)] [7],F (s 3) 10,W 1 (l 3) (l 2)] [] []
 |10=>R 10 [F (s 1) 11,L (l 0),C 35 [r (l 1)] [8],F (s 3) 11,W 1 (l 3) (l 2)] [] []
 |11=>R 11 [F (s 1) 12,L (l 0),F (s 3) 12,W 1 (l 2) (l 1)] [] []
 |12=>R 12 [F (s 1) 13,L (l 0),F (s 3) 13,W 1 (l 2) (l 1)] [] []
 |13=>R 13 [F (s 1) 14,L (l 0),F (s 3) 14,W 1 (l 2) (l 1)] [] [1]
 |_=>R 14 [P 15 (s 3),W 15 (s 2) (l 0)] [] [3]
def Q6:BD:=⟨4,9,[0],0,false,[],j (d (Bn 0)) (j (d (Bn 1)) (j (d (Bn 2)) (j (d (Bn 3)) (j (d (Bn 4)) (j (d (Bn 5)) (j (d (Bn 6)) (j (d (Bn 7)) (j (d (Bn 8)) (j (d (Bn 9)) (j (d (Bn 10)) (j (d (Bn 11)) (j (d (Bn 12)) (j (d (Bn 13)) (j (d (Bn 14)) (.ret))))))))))))))),[.cell 2 (some 15)]⟩
def Aet:List Tmp:=[0,1,2,3]
def Ap:Nat→Bz
 |0=>R 0 [x 0 (s 0),x 1 (s 1),m f] [(2,0),(3,1)] [0,1,4]
 |1=>R 1 [F (s 2) 0,L (l 0),F (s 3) 0,L (l 2),C 47 [r (l 1),r (l 3)] [],n (l 4)] [(5,5)] []
 |2=>R 2 [m f] [(4,0)] [2,3]
 |3=>R 3 [F (s 2) 1,L (l 0),F (s 3) 1,L (l 2),C 47 [r (l 1),r (l 3)] [],n (l 4)] [(6,5)] []
 |4=>R 4 [m f] [(4,0)] [2,3]
 |5=>R 5 [F (s 2) 2,L (l 0),F (s 3) 2,L (l 2),y .neq (l 1) (l 3)] [(7,4)] []
 |6=>R 6 [m f] [(4,0)] [2,3]
 |7=>R 7 [F (s 2) 3,L (l 0),F (s 3) 3,L (l 2),C 48 [r (l 1),r (l 3)] [],n (l 4)] [(8,5)] []
 |8=>R 8 [m f] [(4,0)] [2,3]
 |9=>R 9 [F (s 2) 4,P 4 (l 0),F (s 3) 4,P 4 (l 2),C 49 [r (l 1),r (l 3)] [],n (l 4)] [(9,5)] []
 |10=>R 10 [m f] [(4,0)] [2,3]
 |11=>R 11 [F (s 2) 8,L (l 0),F (s 3) 8,L (l 2),y .neq (l 1) (l 3)] [(10,4)] []
 |12=>R 12 [m f] [(4,0)] [2,3]
 |13=>R 13 [F (s 2) 9,L (l 0),F (s 3) 9,L (l 2),y .neq (l 1) (l 3)] [(11,4)] []
 |14=>R 14 [m f] [(4,0)] [2,3]
 |15=>R 15 [F (s 2) 10,L (l 0),F (s 3) 10,L (l 2),C 50 [r (l 1),r (l 3)] [],n (l 4)] [(12,5)] []
 |16=>R 16 [m f] [(4,0)] [2,3]
 |17=>R 17 [F (s 2) 11,L (l 0),F (s 3) 11,L (l 2),C 51 [r (l 1),r (l 3)] [],n (l 4)] [(13,5)] []
 |18=>R 18 [m f] [(4,0)] [2,3]
 |19=>R 19 [F (s 2) 12,L (l 0),F (s 3) 12,L (l 2),y .neq (l 1) (l 3)] [(14,4)] []
 |20=>R 20 [m f] [(4,0)] [2,3]
 |21=>R 21 [F (s 2) 13,L (l 0),F (s 3) 13,L (l 2),y .neq (l 1) (l 3)] [(15,4)] []
 |22=>R 22 [m f] [(4,0)] [2,3]
 |23=>R 23 [F (s 2) 14,L (l 0),F (s 3) 14,L (l 2),y .neq (l 1) (l 3)] [(16,4)] [2,3]
 |24=>R 24 [m f] [(4,0)] []
 |_=>R 25 [m t] [(4,0)] []
def QE:BD:=⟨17,2,[0,1],0,false,[],j (d (Ap 0)) (j (j (d (Ap 1)) (h 5 (j (d (Ap 2)) (.ret)) (.skip))) (j (j (d (Ap 3)) (h 6 (j (d (Ap 4)) (.ret)) (.skip))) (j (j (d (Ap 5)) (h 7 (j (d (Ap 6)) (.ret)) (.skip))) (j (j (d (Ap 7)) (h 8 (j (d (Ap 8)) (.ret)) (.skip))) (j (j (d (Ap 9)) (h 9 (j (d (Ap 10)) (.ret)) (.skip))) (j (j (d (Ap 11)) (h 10 (j (d (Ap 12)) (.ret)) (.skip))) (j (j (d (Ap 13)) (h 11 (j (d (Ap 14)) (.ret)) (.skip))) (j (j (d (Ap 15)) (h 12 (j (d (Ap 16)) (.ret)) (.skip))) (j (j (d (Ap 17)) (h 13 (j (d (Ap 18)) (.ret)) (.skip))) (j (j (d (Ap 19)) (h 14 (j (d (Ap 20)) (.ret)) (.skip))) (j (j (d (Ap 21)) (h 15 (j (d (Ap 22)) (.ret)) (.skip))) (j (j (d (Ap 23)) (h 16 (j (d (Ap 24)) (.ret)) (.skip))) (j (d (Ap 25)) (.ret)))))))))))))),[.slot 4]⟩
def AdR:List Tmp:=[0,1,2,3,4,10,16,21,27,33,38,43,49,55,60,65,70]
def Bo:Nat→Bz
 |0=>R 0 [m (i 0)] [] [2]
 |1=>R 1 [m (s 1),m (s 0),e (l 1),y .sub (l 0) (l 2),m (l 3)] [(1,4)] []
 |2=>R 2 [m (s 1),y .lss (l 0) (i 0)] [(4,1)] []
 |3=>R 3 [m (i (-1))] [(2,0)] [0,1]
 |4=>R 4 [m (i 0)] [(3,0)] []
 |5=>R 5 [m (s 3),m (s 0),e (l 1),y .lss (l 0) (l 2)] [(5,3)] []
 |6=>R 7 [m (s 0),m (s 3),A 4 (l 0) (l 1),P 4 (l 2),m (s 1),C 62 [r (l 3),r (l 4)] [],m (l 5)] [(1,6)] []
 |7=>R 8 [m (s 1),y .lss (l 0) (i 0)] [(6,1)] []
 |8=>R 9 [m (i (-1))] [(2,0)] [0,1,3]
 |9=>R 6 [m (s 3),y .add (l 0) (i 1),m (l 1)] [(3,2)] []
 |_=>R 10 [m (s 1),m (l 0)] [(2,1)] [0,1,3]
def Lp:BD:=⟨7,0,[0,1],0,false,[],j (d (Bo 0)) (j (d (Bo 1)) (j (j (d (Bo 2)) (h 4 (j (d (Bo 3)) (.ret)) (.skip))) (j (j (d (Bo 4)) (.block 0 (.loop (j (j (d (Bo 5)) (h 5 (.skip) (.exit 0))) (j (.block 1 (j (d (Bo 6)) (j (d (Bo 7)) (h 6 (j (d (Bo 8)) (.ret)) (.skip))))) (d (Bo 9))))))) (j (d (Bo 10)) (.ret))))),[.slot 2]⟩
def V7:List Tmp:=[0,1,4,5,11,15,25]
def E5:Nat→Bz
 |0=>R 0 [x 0 (s 0),m (i 0)] [(2,0)] [0,3]
 |1=>R 1 [F (s 2) 1,L (l 0),m (s 1),C 16 [r (l 1),r (l 2)] [],m (l 3)] [(1,4)] [2]
 |2=>R 2 [m (s 1),y .lss (l 0) (i 0)] [(4,1)] []
 |3=>R 3 [m (i (-1))] [(3,0)] [1]
 |_=>R 4 [m (s 1),m (l 0)] [(3,1)] [1]
def N9:BD:=⟨5,1,[0,1],0,false,[],j (d (E5 0)) (j (d (E5 1)) (j (j (d (E5 2)) (h 4 (j (d (E5 3)) (.ret)) (.skip))) (j (d (E5 4)) (.ret)))),[.slot 3]⟩
def Zr:List Tmp:=[0,1,2,4,10]
def BJ:Nat→Bz
 |0=>R 0 [m (i 0)] [] [2]
 |1=>R 1 [m (s 1),m (s 0),e (l 1),y .sub (l 0) (l 2),m (l 3)] [(1,4)] []
 |2=>R 2 [m (s 1),y .lss (l 0) (i 0)] [(4,1)] []
 |3=>R 3 [m (i (-1))] [(2,0)] [0,1]
 |4=>R 4 [m (i 0)] [(3,0)] []
 |5=>R 5 [m (s 3),m (s 0),e (l 1),y .lss (l 0) (l 2)] [(5,3)] []
 |6=>R 7 [m (s 0),m (s 3),A 5 (l 0) (l 1),P 5 (l 2),m (s 1),C 63 [r (l 3),r (l 4)] [],m (l 5)] [(1,6)] []
 |7=>R 8 [m (s 1),y .lss (l 0) (i 0)] [(6,1)] []
 |8=>R 9 [m (i (-1))] [(2,0)] [0,1,3]
 |9=>R 6 [m (s 3),y .add (l 0) (i 1),m (l 1)] [(3,2)] []
 |_=>R 10 [m (s 1),m (l 0)] [(2,1)] [0,1,3]
def NP:BD:=⟨7,0,[0,1],0,false,[],j (d (BJ 0)) (j (d (BJ 1)) (j (j (d (BJ 2)) (h 4 (j (d (BJ 3)) (.ret)) (.skip))) (j (j (d (BJ 4)) (.block 0 (.loop (j (j (d (BJ 5)) (h 5 (.skip) (.exit 0))) (j (.block 1 (j (d (BJ 6)) (j (d (BJ 7)) (h 6 (j (d (BJ 8)) (.ret)) (.skip))))) (d (BJ 9))))))) (j (d (BJ 10)) (.ret))))),[.slot 2]⟩
def ZU:List Tmp:=[0,1,4,5,11,15,25]
def BH:Nat→Bz
 |0=>R 0 [m (i 0)] [] [2]
 |1=>R 1 [m (s 1),m (s 0),e (l 1),y .sub (l 0) (l 2),m (l 3)] [(1,4)] []
 |2=>R 2 [m (s 1),y .lss (l 0) (i 0)] [(4,1)] []
 |3=>R 3 [m (i (-1))] [(2,0)] [0,1]
 |4=>R 4 [m (i 0)] [(3,0)] []
 |5=>R 5 [m (s 3),m (s 0),e (l 1),y .lss (l 0) (l 2)] [(5,3)] []
 |6=>R 7 [m (s 0),m (s 3),A 8 (l 0) (l 1),P 8 (l 2),m (s 1),C 64 [r (l 3),r (l 4)] [],m (l 5)] [(1,6)] []
 |7=>R 8 [m (s 1),y .lss (l 0) (i 0)] [(6,1)] []
 |8=>R 9 [m (i (-1))] [(2,0)] [0,1,3]
 |9=>R 6 [m (s 3),y .add (l 0) (i 1),m (l 1)] [(3,2)] []
 |_=>R 10 [m (s 1),m (l 0)] [(2,1)] [0,1,3]
def NE:BD:=⟨7,0,[0,1],0,false,[],j (d (BH 0)) (j (d (BH 1)) (j (j (d (BH 2)) (h 4 (j (d (BH 3)) (.ret)) (.skip))) (j (j (d (BH 4)) (.block 0 (.loop (j (j (d (BH 5)) (h 5 (.skip) (.exit 0))) (j (.block 1 (j (d (BH 6)) (j (d (BH 7)) (h 6 (j (d (BH 8)) (.ret)) (.skip))))) (d (BH 9))))))) (j (d (BH 10)) (.ret))))),[.slot 2]⟩
def Aav:List Tmp:=[0,1,4,5,11,15,25]
def CW:Nat→Bz
 |0=>R 0 [m (z 4)] [] [1]
 |1=>R 1 [m (s 0),e (l 0),Hw.makeSlice 0 4 80 [.sl 0 1 0 [],.sl 0 1 0 [],.sl 0 4 0 [],o] (l 1),m (l 2)] [(2,3)] []
 |2=>R 2 [m (i 0)] [(3,0)] []
 |3=>R 3 [m (s 3),m (s 0),e (l 1),y .lss (l 0) (l 2)] [(4,3)] []
 |4=>Q 5 [m (s 2),m (s 3),m (s 0),m (s 3),A 4 (l 2) (l 3),P 4 (l 4),C 98 [r (l 5)] [1,2,3],A 4 (l 0) (l 1),W 4 (l 7) (l 6)] [] [] [1,2,3] []
 |5=>R 4 [m (s 3),y .add (l 0) (i 1),m (l 1)] [(3,2)] []
 |_=>R 6 [m (s 2),m (l 0)] [(1,1)] [0,2,3]
def Lx:BD:=⟨5,4,[0],0,false,[],j (d (CW 0)) (j (d (CW 1)) (j (j (d (CW 2)) (.block 0 (.loop (j (j (d (CW 3)) (h 4 (.skip) (.exit 0))) (j (.block 1 (d (CW 4))) (d (CW 5))))))) (j (d (CW 6)) (.ret)))),[.slot 1]⟩
def V8:List Tmp:=[0,2,3,4,11]
def Dw:Nat→Bz
 |0=>R 0 [x 0 (s 0),a 1 zR] [(1,0),(2,1)] [0]
 |1=>R 1 [a 2 zR] [(3,0)] []
 |2=>R 2 [F (s 1) 0,L (l 0),F (s 3) 0,W 1 (l 2) (l 1)] [] []
 |3=>R 3 [F (s 1) 1,L (l 0),C 31 [r (l 1)] [3],F (s 3) 1,W 1 (l 3) (l 2)] [] []
 |4=>R 4 [F (s 1) 2,L (l 0),F (s 3) 2,W 1 (l 2) (l 1)] [] []
 |5=>R 5 [F (s 1) 3,L (l 0),F (s 3) 3,W 1 (l 2) (l 1)] [] [1]
 |_=>R 6 [P 4 (s 3),W 4 (s 2) (l 0)] [] [3]
def NK:BD:=⟨4,4,[0],0,false,[],j (d (Dw 0)) (j (d (Dw 1)) (j (d (Dw 2)) (j (d (Dw 3)) (j (d (Dw 4)) (j (d (Dw 5)) (j (d (Dw 6)) (.ret))))))),[.cell 2 (some 4)]⟩
def YK:List Tmp:=[0,1,2,3]
def Dt:Nat→Bz
 |0=>R 0 [m (z 5)] [] [1]
 |1=>R 1 [m (s 0),e (l 0),Hw.makeSlice 0 5 72 [c,o,.sl 0 1 0 [],o,.sl 0 1 0 []] (l 1),m (l 2)] [(2,3)] []
 |2=>R 2 [m (i 0)] [(3,0)] []
 |3=>R 3 [m (s 3),m (s 0),e (l 1),y .lss (l 0) (l 2)] [(4,3)] []
 |4=>Q 5 [m (s 2),m (s 3),m (s 0),m (s 3),A 5 (l 2) (l 3),P 5 (l 4),C 99 [r (l 5)] [1,2],A 5 (l 0) (l 1),W 5 (l 7) (l 6)] [] [] [1,2] []
 |5=>R 4 [m (s 3),y .add (l 0) (i 1),m (l 1)] [(3,2)] []
 |_=>R 6 [m (s 2),m (l 0)] [(1,1)] [0,2,3]
def NH:BD:=⟨5,3,[0],0,false,[],j (d (Dt 0)) (j (d (Dt 1)) (j (j (d (Dt 2)) (.block 0 (.loop (j (j (d (Dt 3)) (h 4 (.skip) (.exit 0))) (j (.block 1 (d (Dt 4))) (d (Dt 5))))))) (j (d (Dt 6)) (.ret)))),[.slot 1]⟩
def Y4:List Tmp:=[0,2,3,4,11]
def Du:Nat→Bz
 |0=>R 0 [m (z 8)] [] [1]
 |1=>R 1 [m (s 0),e (l 0),Hw.makeSlice 0 8 96 [o,o,c,c,o,.sl 0 1 0 [],o,.sl 0 1 0 []] (l 1),m (l 2)] [(2,3)] []
 |2=>R 2 [m (i 0)] [(3,0)] []
 |3=>R 3 [m (s 3),m (s 0),e (l 1),y .lss (l 0) (l 2)] [(4,3)] []
 |4=>Q 5 [m (s 2),m (s 3),m (s 0),m (s 3),A 8 (l 2) (l 3),P 8 (l 4),C 100 [r (l 5)] [1,2],A 8 (l 0) (l 1),W 8 (l 7) (l 6)] [] [] [1,2] []
 |5=>R 4 [m (s 3),y .add (l 0) (i 1),m (l 1)] [(3,2)] []
 |_=>R 6 [m (s 2),m (l 0)] [(1,1)] [0,2,3]
def NY:BD:=⟨5,3,[0],0,false,[],j (d (Du 0)) (j (d (Du 1)) (j (j (d (Du 2)) (.block 0 (.loop (j (j (d (Du 3)) (h 4 (.skip) (.exit 0))) (j (.block 1 (d (Du 4))) (d (Du 5))))))) (j (d (Du 6)) (.ret)))),[.slot 1]⟩
def Z6:List Tmp:=[0,2,3,4,11]
def Ca:Nat→Bz
 |0=>R 0 [x 0 (s 0),x 1 (s 1),m f] [(2,0),(3,1)] [0,1,4]
 |1=>R 1 [F (s 2) 0,L (l 0),F (s 3) 0,L (l 2),y .neq (l 1) (l 3)] [(5,4)] []
 |2=>R 2 [m f] [(4,0)] [2,3]
 |3=>R 3 [F (s 2) 1,L (l 0),F (s 3) 1,L (l 2),C 47 [r (l 1),r (l 3)] [],n (l 4)] [(6,5)] []
 |4=>R 4 [m f] [(4,0)] [2,3]
 |5=>R 5 [F (s 2) 2,L (l 0),F (s 3) 2,L (l 2),y .neq (l 1) (l 3)] [(7,4)] []
 |6=>R 6 [m f] [(4,0)] [2,3]
 |7=>R 7 [F (s 2) 3,L (l 0),F (s 3) 3,L (l 2),Hw.beq true (l 1) (l 3)] [(8,4)] [2,3]
 |8=>R 8 [m f] [(4,0)] []
 |_=>R 9 [m t] [(4,0)] []
def NZ:BD:=⟨9,2,[0,1],0,false,[],j (d (Ca 0)) (j (j (d (Ca 1)) (h 5 (j (d (Ca 2)) (.ret)) (.skip))) (j (j (d (Ca 3)) (h 6 (j (d (Ca 4)) (.ret)) (.skip))) (j (j (d (Ca 5)) (h 7 (j (d (Ca 6)) (.ret)) (.skip))) (j (j (d (Ca 7)) (h 8 (j (d (Ca 8)) (.ret)) (.skip))) (j (d (Ca 9)) (.ret)))))),[.slot 4]⟩
def ZO:List Tmp:=[0,1,2,3,4,9,15,20,25]
def Cs:Nat→Bz
 |0=>R 0 [m f] [] [2]
 |1=>R 1 [m (s 0),e (l 0),m (s 1),e (l 2),y .neq (l 1) (l 3)] [(4,4)] []
 |2=>R 2 [m f] [(2,0)] [0,1]
 |3=>R 3 [m (i 0)] [(3,0)] []
 |4=>R 4 [m (s 3),m (s 0),e (l 1),y .lss (l 0) (l 2)] [(5,3)] []
 |5=>T 6 [D (m (s 0)) [] [],D (m (s 3)) [] [],D (A 5 (l 0) (l 1)) [] [],D (P 5 (l 2)) [] [],D (m (s 1)) [] [],D (m (s 3)) [] [],D (A 5 (l 4) (l 5)) [] [],D (P 5 (l 6)) [] [],D (C 135 [r (l 3),r (l 7)] []) [] [],D (n (l 8)) [] []] [(6,9)] []
 |6=>R 7 [m f] [(2,0)] [0,1,3]
 |7=>R 5 [m (s 3),y .add (l 0) (i 1),m (l 1)] [(3,2)] []
 |_=>R 8 [m t] [(2,0)] [0,1,3]
def N8:BD:=⟨7,0,[0,1],0,false,[],j (d (Cs 0)) (j (j (d (Cs 1)) (h 4 (j (d (Cs 2)) (.ret)) (.skip))) (j (j (d (Cs 3)) (.block 0 (.loop (j (j (d (Cs 4)) (h 5 (.skip) (.exit 0))) (j (.block 1 (j (d (Cs 5)) (h 6 (j (d (Cs 6)) (.ret)) (.skip)))) (d (Cs 7))))))) (j (d (Cs 8)) (.ret)))),[.slot 2]⟩
def ZL:List Tmp:=[0,1,4,5,10,14,26]
def Cq:Nat→Bz
 |0=>R 0 [m f] [] [2]
 |1=>R 1 [m (s 0),e (l 0),m (s 1),e (l 2),y .neq (l 1) (l 3)] [(4,4)] []
 |2=>R 2 [m f] [(2,0)] [0,1]
 |3=>R 3 [m (i 0)] [(3,0)] []
 |4=>R 4 [m (s 3),m (s 0),e (l 1),y .lss (l 0) (l 2)] [(5,3)] []
 |5=>T 6 [D (m (s 0)) [] [],D (m (s 3)) [] [],D (A 8 (l 0) (l 1)) [] [],D (P 8 (l 2)) [] [],D (m (s 1)) [] [],D (m (s 3)) [] [],D (A 8 (l 4) (l 5)) [] [],D (P 8 (l 6)) [] [],D (C 136 [r (l 3),r (l 7)] []) [] [],D (n (l 8)) [] []] [(6,9)] []
 |6=>R 7 [m f] [(2,0)] [0,1,3]
 |7=>R 5 [m (s 3),y .add (l 0) (i 1),m (l 1)] [(3,2)] []
 |_=>R 8 [m t] [(2,0)] [0,1,3]
def Np:BD:=⟨7,0,[0,1],0,false,[],j (d (Cq 0)) (j (j (d (Cq 1)) (h 4 (j (d (Cq 2)) (.ret)) (.skip))) (j (j (d (Cq 3)) (.block 0 (.loop (j (j (d (Cq 4)) (h 5 (.skip) (.exit 0))) (j (.block 1 (j (d (Cq 5)) (h 6 (j (d (Cq 6)) (.ret)) (.skip)))) (d (Cq 7))))))) (j (d (Cq 8)) (.ret)))),[.slot 2]⟩
def YT:List Tmp:=[0,1,4,5,10,14,26]
def Bv:Nat→Bz
 |0=>R 0 [x 0 (s 0),m (i 0)] [(2,0)] [0,3]
 |1=>R 1 [F (s 2) 0,L (l 0),m (s 1),C 16 [r (l 1),r (l 2)] [],m (l 3)] [(1,4)] []
 |2=>R 2 [m (s 1),y .lss (l 0) (i 0)] [(4,1)] []
 |3=>R 3 [m (i (-1))] [(3,0)] [1,2]
 |4=>R 4 [F (s 2) 1,L (l 0),m (s 1),C 16 [r (l 1),r (l 2)] [],m (l 3)] [(1,4)] []
 |5=>R 5 [m (s 1),y .lss (l 0) (i 0)] [(5,1)] []
 |6=>R 6 [m (i (-1))] [(3,0)] [1,2]
 |7=>R 7 [F (s 2) 2,L (l 0),m (s 1),C 139 [r (l 1),r (l 2)] [],m (l 3)] [(1,4)] [2]
 |8=>R 8 [m (s 1),y .lss (l 0) (i 0)] [(6,1)] []
 |9=>R 9 [m (i (-1))] [(3,0)] [1]
 |_=>R 10 [m (s 1),m (l 0)] [(3,1)] [1]
def Mc:BD:=⟨7,1,[0,1],0,false,[],j (d (Bv 0)) (j (d (Bv 1)) (j (j (d (Bv 2)) (h 4 (j (d (Bv 3)) (.ret)) (.skip))) (j (d (Bv 4)) (j (j (d (Bv 5)) (h 5 (j (d (Bv 6)) (.ret)) (.skip))) (j (d (Bv 7)) (j (j (d (Bv 8)) (h 6 (j (d (Bv 9)) (.ret)) (.skip))) (j (d (Bv 10)) (.ret)))))))),[.slot 3]⟩
def XC:List Tmp:=[0,1,2,4,10,16,22]
def FK:Nat→Bz
 |0=>R 0 [x 0 (s 0),m (i 0)] [(2,0)] [0,3]
 |1=>R 1 [F (s 2) 3,P 5 (l 0),m (s 1),C 63 [r (l 1),r (l 2)] [],m (l 3)] [(1,4)] [2]
 |2=>R 2 [m (s 1),y .lss (l 0) (i 0)] [(4,1)] []
 |3=>R 3 [m (i (-1))] [(3,0)] [1]
 |_=>R 4 [m (s 1),m (l 0)] [(3,1)] [1]
def Pn:BD:=⟨5,1,[0,1],0,false,[],j (d (FK 0)) (j (d (FK 1)) (j (j (d (FK 2)) (h 4 (j (d (FK 3)) (.ret)) (.skip))) (j (d (FK 4)) (.ret)))),[.slot 3]⟩
def Abd:List Tmp:=[0,1,2,4,10]
def Dg:Nat→Bz
 |0=>R 0 [x 0 (s 0),a 1 zE] [(1,0),(2,1)] [0]
 |1=>R 1 [a 2 zE] [(3,0)] []
 |2=>R 2 [F (s 1) 0,L (l 0),C 31 [r (l 1)] [3],F (s 3) 0,W 1 (l 3) (l 2)] [] []
 |3=>R 3 [F (s 1) 1,L (l 0),C 31 [r (l 1)] [4],F (s 3) 1,W 1 (l 3) (l 2)] [] []
 |4=>R 4 [F (s 1) 2,L (l 0),C 170 [r (l 1)] [5],F (s 3) 2,W 1 (l 3) (l 2)] [] []
 |5=>R 5 [F (s 1) 3,L (l 0),F (s 3) 3,W 1 (l 2) (l 1)] [] [1]
 |_=>R 6 [P 4 (s 3),W 4 (s 2) (l 0)] [] [3]
def LV:BD:=⟨4,6,[0],0,false,[],j (d (Dg 0)) (j (d (Dg 1)) (j (d (Dg 2)) (j (d (Dg 3)) (j (d (Dg 4)) (j (d (Dg 5)) (j (d (Dg 6)) (.ret))))))),[.cell 2 (some 4)]⟩
def Xr:List Tmp:=[0,1,2,3]
def Ed:Nat→Bz
 |0=>R 0 [x 0 (s 0),a 1 zL] [(1,0),(2,1)] [0]
 |1=>R 1 [a 2 zL] [(3,0)] []
 |2=>R 2 [F (s 1) 0,L (l 0),F (s 3) 0,W 1 (l 2) (l 1)] [] []
 |3=>R 3 [F (s 1) 1,L (l 0),F (s 3) 1,W 1 (l 2) (l 1)] [] []
 |4=>R 4 [F (s 1) 2,L (l 0),F (s 3) 2,W 1 (l 2) (l 1)] [] []
 |5=>R 5 [F (s 1) 3,P 5 (l 0),C 99 [r (l 1)] [3,4],F (s 3) 3,W 5 (l 3) (l 2)] [] [1]
 |_=>R 6 [P 8 (s 3),W 8 (s 2) (l 0)] [] [3]
def PD:BD:=⟨4,5,[0],0,false,[],j (d (Ed 0)) (j (d (Ed 1)) (j (d (Ed 2)) (j (d (Ed 3)) (j (d (Ed 4)) (j (d (Ed 5)) (j (d (Ed 6)) (.ret))))))),[.cell 2 (some 8)]⟩
def Abn:List Tmp:=[0,1,2,3]
def Cj:Nat→Bz
 |0=>R 0 [x 0 (s 0),x 1 (s 1),m f] [(2,0),(3,1)] [0,1,4]
 |1=>R 1 [F (s 2) 0,L (l 0),F (s 3) 0,L (l 2),y .neq (l 1) (l 3)] [(5,4)] []
 |2=>R 2 [m f] [(4,0)] [2,3]
 |3=>R 3 [F (s 2) 1,L (l 0),F (s 3) 1,L (l 2),y .neq (l 1) (l 3)] [(6,4)] []
 |4=>R 4 [m f] [(4,0)] [2,3]
 |5=>R 5 [F (s 2) 2,L (l 0),F (s 3) 2,L (l 2),Hw.beq true (l 1) (l 3)] [(7,4)] []
 |6=>R 6 [m f] [(4,0)] [2,3]
 |7=>R 7 [F (s 2) 3,P 5 (l 0),F (s 3) 3,P 5 (l 2),C 135 [r (l 1),r (l 3)] [],n (l 4)] [(8,5)] [2,3]
 |8=>R 8 [m f] [(4,0)] []
 |_=>R 9 [m t] [(4,0)] []
def O8:BD:=⟨9,2,[0,1],0,false,[],j (d (Cj 0)) (j (j (d (Cj 1)) (h 5 (j (d (Cj 2)) (.ret)) (.skip))) (j (j (d (Cj 3)) (h 6 (j (d (Cj 4)) (.ret)) (.skip))) (j (j (d (Cj 5)) (h 7 (j (d (Cj 6)) (.ret)) (.skip))) (j (j (d (Cj 7)) (h 8 (j (d (Cj 8)) (.ret)) (.skip))) (j (d (Cj 9)) (.ret)))))),[.slot 4]⟩
def AaX:List Tmp:=[0,1,2,3,4,9,14,19,25]
def CJ:Nat→Bz
 |0=>R 0 [m (i 0)] [] [2]
 |1=>R 1 [m (s 1),m (s 0),e (l 1),y .sub (l 0) (l 2),m (l 3)] [(1,4)] []
 |2=>R 2 [m (s 1),y .lss (l 0) (i 0)] [(4,1)] []
 |3=>R 3 [m (i (-1))] [(2,0)] [0,1]
 |4=>R 4 [m (i 0)] [(3,0)] []
 |5=>R 5 [m (s 3),m (s 0),e (l 1),y .lss (l 0) (l 2)] [(5,3)] []
 |6=>R 7 [m (s 0),m (s 3),A 4 (l 0) (l 1),P 4 (l 2),m (s 1),C 206 [r (l 3),r (l 4)] [],m (l 5)] [(1,6)] []
 |7=>R 8 [m (s 1),y .lss (l 0) (i 0)] [(6,1)] []
 |8=>R 9 [m (i (-1))] [(2,0)] [0,1,3]
 |9=>R 6 [m (s 3),y .add (l 0) (i 1),m (l 1)] [(3,2)] []
 |_=>R 10 [m (s 1),m (l 0)] [(2,1)] [0,1,3]
def SB:BD:=⟨7,0,[0,1],0,false,[],j (d (CJ 0)) (j (d (CJ 1)) (j (j (d (CJ 2)) (h 4 (j (d (CJ 3)) (.ret)) (.skip))) (j (j (d (CJ 4)) (.block 0 (.loop (j (j (d (CJ 5)) (h 5 (.skip) (.exit 0))) (j (.block 1 (j (d (CJ 6)) (j (d (CJ 7)) (h 6 (j (d (CJ 8)) (.ret)) (.skip))))) (d (CJ 9))))))) (j (d (CJ 10)) (.ret))))),[.slot 2]⟩
def AfT:List Tmp:=[0,1,4,5,11,15,25]
def EU:Nat→Bz
 |0=>R 0 [m (z 4)] [] [1]
 |1=>R 1 [m (s 0),e (l 0),Hw.makeSlice 0 4 64 [o,.sl 0 1 0 [],.sl 0 1 0 [],c] (l 1),m (l 2)] [(2,3)] []
 |2=>R 2 [m (i 0)] [(3,0)] []
 |3=>R 3 [m (s 3),m (s 0),e (l 1),y .lss (l 0) (l 2)] [(4,3)] []
 |4=>Q 5 [m (s 2),m (s 3),m (s 0),m (s 3),A 4 (l 2) (l 3),P 4 (l 4),C 226 [r (l 5)] [1,2],A 4 (l 0) (l 1),W 4 (l 7) (l 6)] [] [] [1,2] []
 |5=>R 4 [m (s 3),y .add (l 0) (i 1),m (l 1)] [(3,2)] []
 |_=>R 6 [m (s 2),m (l 0)] [(1,1)] [0,2,3]
def SF:BD:=⟨5,3,[0],0,false,[],j (d (EU 0)) (j (d (EU 1)) (j (j (d (EU 2)) (.block 0 (.loop (j (j (d (EU 3)) (h 4 (.skip) (.exit 0))) (j (.block 1 (d (EU 4))) (d (EU 5))))))) (j (d (EU 6)) (.ret)))),[.slot 1]⟩
def Agi:List Tmp:=[0,2,3,4,11]
def CY:Nat→Bz
 |0=>R 0 [x 6 (s 0),m (i 0)] [(2,0)] [0,3]
 |1=>R 1 [F (s 2) 0,L (l 0),m (s 1),C 52 [v (l 1),r (l 2)] [],m (l 3)] [(1,4)] []
 |2=>R 2 [F (s 2) 1,L (l 0),m (s 1),C 52 [v (l 1),r (l 2)] [],m (l 3)] [(1,4)] []
 |3=>R 3 [F (s 2) 3,L (l 0),m (s 1),C 53 [v (l 1),r (l 2)] [],m (l 3)] [(1,4)] []
 |4=>R 4 [F (s 2) 4,P 4 (l 0),m (s 1),C 54 [v (l 1),r (l 2)] [],m (l 3)] [(1,4)] []
 |5=>R 5 [F (s 2) 10,L (l 0),m (s 1),C 55 [v (l 1),r (l 2)] [],m (l 3)] [(1,4)] []
 |6=>R 6 [F (s 2) 11,L (l 0),m (s 1),C 56 [v (l 1),r (l 2)] [],m (l 3)] [(1,4)] [2]
 |_=>R 7 [m (s 1),m (l 0)] [(3,1)] [1]
def Nu:BD:=⟨4,7,[0,1],6,false,[],j (d (CY 0)) (j (d (CY 1)) (j (d (CY 2)) (j (d (CY 3)) (j (d (CY 4)) (j (d (CY 5)) (j (d (CY 6)) (j (d (CY 7)) (.ret)))))))),[.slot 3]⟩
def ZR:List Tmp:=[0,1,2,4]
def JI:Nat→Bz
 |0=>R 0 [m f] [] [1]
 |_=>R 1 [m (s 0),C 267 [r (l 0),r (g 279)] [],m (l 1)] [(1,2)] [0]
def LP:BD:=⟨2,0,[0],0,false,[],j (d (JI 0)) (j (d (JI 1)) (.ret)),[.slot 1]⟩
def XJ:List Tmp:=[0,2]
def PY:Nat→Bz
 |0=>R 0 [x 0 (s 0),m f] [(2,0)] [0,3]
 |_=>R 1 [m (s 1),F (s 2) 3,L (l 1),e (l 2),y .sub (l 3) (i 1),C 114 [r (l 0),r (i 0),r (l 4)] [],m (l 5)] [(3,6)] [1,2]
def Tf:BD:=⟨4,1,[0,1],0,false,[],j (d (PY 0)) (j (d (PY 1)) (.ret)),[.slot 3]⟩
def Ag1:List Tmp:=[0,1,2,4]
def Gm:Nat→Bz
 |0=>R 0 [x 1 (s 0),m (i 0)] [(2,0)] [0,3]
 |1=>R 1 [F (s 2) 1,L (l 0),m (s 1),C 52 [v (l 1),r (l 2)] [],m (l 3)] [(1,4)] [2]
 |_=>R 2 [m (s 1),m (l 0)] [(3,1)] [1]
def Lm:BD:=⟨4,2,[0,1],1,false,[],j (d (Gm 0)) (j (d (Gm 1)) (j (d (Gm 2)) (.ret))),[.slot 3]⟩
def Wl:List Tmp:=[0,1,2,4]
def AY:Nat→Bz
 |0=>R 0 [m (i 0)] [] [2]
 |1=>R 1 [m (i 0)] [(3,0)] []
 |2=>R 2 [m (s 3),m (s 0),e (l 1),y .lss (l 0) (l 2)] [(4,3)] []
 |3=>R 4 [m (s 0),m (s 3),m (s 1),y .rem (l 2) (i 3),y .eql (l 3) (i 0),A 5 (l 0) (l 1),F (l 5) 0,F (l 6) 0,W 1 (l 7) (l 4)] [] []
 |4=>R 5 [m (s 1),y .add (l 0) (i 1),m (l 1)] [(1,2)] []
 |5=>R 6 [m (s 0),m (s 3),m (s 1),A 5 (l 0) (l 1),F (l 3) 0,F (l 4) 1,W 1 (l 5) (l 2)] [] []
 |6=>R 7 [m (s 1),y .add (l 0) (i 1),m (l 1)] [(1,2)] []
 |7=>Q 8 [m (s 0),m (s 3),A 5 (l 0) (l 1),F (l 2) 0,F (l 3) 2,Hw.take 1 (l 4),m (s 1),C 52 [v (l 5),r (l 6)] [],m (l 7)] [(1,8)] [] [1] [.untake 1]
 |8=>R 9 [m (s 0),m (s 3),m (s 1),A 5 (l 0) (l 1),F (l 3) 3,W 1 (l 4) (l 2)] [] []
 |9=>R 10 [m (s 1),y .add (l 0) (i 1),m (l 1)] [(1,2)] []
 |10=>Q 11 [m (s 0),m (s 3),A 5 (l 0) (l 1),F (l 2) 4,Hw.take 2 (l 3),m (s 1),C 52 [v (l 4),r (l 5)] [],m (l 6)] [(1,7)] [] [2] [.untake 2]
 |11=>R 3 [m (s 3),y .add (l 0) (i 1),m (l 1)] [(3,2)] []
 |_=>R 12 [m (s 1),m (l 0)] [(2,1)] [0,1,3]
def KV:BD:=⟨5,3,[0,1],1,false,[1,2],j (d (AY 0)) (j (j (d (AY 1)) (.block 0 (.loop (j (j (d (AY 2)) (h 4 (.skip) (.exit 0))) (j (.block 1 (j (d (AY 3)) (j (d (AY 4)) (j (d (AY 5)) (j (d (AY 6)) (j (d (AY 7)) (j (d (AY 8)) (j (d (AY 9)) (d (AY 10)))))))))) (d (AY 11))))))) (j (d (AY 12)) (.ret))),[.slot 2]⟩
def Wm:List Tmp:=[0,1,4,5,9]
def Aq:Nat→Bz
 |0=>R 0 [m (i 0)] [] [2]
 |1=>R 1 [m (i 0)] [(3,0)] []
 |2=>R 2 [m (s 3),m (s 0),e (l 1),y .lss (l 0) (l 2)] [(4,3)] []
 |3=>R 4 [m (s 0),m (s 3),m (s 1),A 8 (l 0) (l 1),F (l 3) 0,W 1 (l 4) (l 2)] [] []
 |4=>R 5 [m (s 1),y .add (l 0) (i 1),m (l 1)] [(1,2)] []
 |5=>R 6 [m (s 0),m (s 3),m (s 1),A 8 (l 0) (l 1),F (l 3) 1,W 1 (l 4) (l 2)] [] []
 |6=>R 7 [m (s 1),y .add (l 0) (i 1),m (l 1)] [(1,2)] []
 |7=>R 8 [m (s 0),m (s 3),m (s 1),y .rem (l 2) (i 3),y .eql (l 3) (i 0),A 8 (l 0) (l 1),F (l 5) 2,W 1 (l 6) (l 4)] [] []
 |8=>R 9 [m (s 1),y .add (l 0) (i 1),m (l 1)] [(1,2)] []
 |9=>R 10 [m (s 0),m (s 3),m (s 1),y .rem (l 2) (i 3),y .eql (l 3) (i 0),A 8 (l 0) (l 1),F (l 5) 3,F (l 6) 0,F (l 7) 0,W 1 (l 8) (l 4)] [] []
 |10=>R 11 [m (s 1),y .add (l 0) (i 1),m (l 1)] [(1,2)] []
 |11=>R 12 [m (s 0),m (s 3),m (s 1),A 8 (l 0) (l 1),F (l 3) 3,F (l 4) 0,F (l 5) 1,W 1 (l 6) (l 2)] [] []
 |12=>R 13 [m (s 1),y .add (l 0) (i 1),m (l 1)] [(1,2)] []
 |13=>Q 14 [m (s 0),m (s 3),A 8 (l 0) (l 1),F (l 2) 3,F (l 3) 0,F (l 4) 2,Hw.take 1 (l 5),m (s 1),C 52 [v (l 6),r (l 7)] [],m (l 8)] [(1,9)] [] [1] [.untake 1]
 |14=>R 15 [m (s 0),m (s 3),m (s 1),A 8 (l 0) (l 1),F (l 3) 3,F (l 4) 3,W 1 (l 5) (l 2)] [] []
 |15=>R 16 [m (s 1),y .add (l 0) (i 1),m (l 1)] [(1,2)] []
 |16=>Q 17 [m (s 0),m (s 3),A 8 (l 0) (l 1),F (l 2) 3,F (l 3) 4,Hw.take 2 (l 4),m (s 1),C 52 [v (l 5),r (l 6)] [],m (l 7)] [(1,8)] [] [2] [.untake 2]
 |17=>R 3 [m (s 3),y .add (l 0) (i 1),m (l 1)] [(3,2)] []
 |_=>R 18 [m (s 1),m (l 0)] [(2,1)] [0,1,3]
def Kv:BD:=⟨5,3,[0,1],1,false,[1,2],j (d (Aq 0)) (j (j (d (Aq 1)) (.block 0 (.loop (j (j (d (Aq 2)) (h 4 (.skip) (.exit 0))) (j (.block 1 (j (d (Aq 3)) (j (d (Aq 4)) (j (d (Aq 5)) (j (d (Aq 6)) (j (d (Aq 7)) (j (d (Aq 8)) (j (d (Aq 9)) (j (d (Aq 10)) (j (d (Aq 11)) (j (d (Aq 12)) (j (d (Aq 13)) (j (d (Aq 14)) (j (d (Aq 15)) (d (Aq 16)))))))))))))))) (d (Aq 17))))))) (j (d (Aq 18)) (.ret))),[.slot 2]⟩
def WE:List Tmp:=[0,1,4,5,9]
def JM:Nat→Bz
 |0=>R 0 [m f] [] [1]
 |_=>R 1 [m (s 0),C 71 [r (l 0),r (i 0),r (i 255)] [],m (l 1),J 2 (m (s 0)),J 2 (y .rem (l 3) (i 16)),J 2 (y .eql (l 4) (i 10)),k (l 2) (l 5) f,m (l 6)] [(1,7)] [0]
def LH:BD:=⟨2,0,[0],0,false,[],j (d (JM 0)) (j (d (JM 1)) (.ret)),[.slot 1]⟩
def XL:List Tmp:=[0,2]
def Eh:Nat→Bz
 |0=>R 0 [m f] [] [2]
 |_=>R 1 [m (s 0),m (s 1),C 404 [r (l 0),r (l 1)] [],y .geq (l 2) (i 0),m (l 3)] [(2,4)] [0,1]
def Et:BD:=⟨3,0,[0,1],0,false,[],j (d (Eh 0)) (j (d (Eh 1)) (.ret)),[.slot 2]⟩
def Ku:List Tmp:=[0,1,4]
def JZ:Nat→Bz
 |0=>R 0 [m f] [] [1]
 |_=>R 1 [m (s 0),C 114 [r (l 0),r (i 0),r (i 255)] [],m (l 1),J 2 (m (s 0)),J 2 (y .rem (l 3) (i 16)),J 2 (y .eql (l 4) (i 10)),k (l 2) (l 5) f,m (l 6)] [(1,7)] [0]
def MF:BD:=⟨2,0,[0],0,false,[],j (d (JZ 0)) (j (d (JZ 1)) (.ret)),[.slot 1]⟩
def Xd:List Tmp:=[0,2]
def JU:Nat→Bz
 |0=>R 0 [x 0 (s 1),x 1 (s 2),m f] [(3,0),(4,1)] [1,2,5]
 |_=>R 1 [m (s 0),Hw.makeFunc 266 [s 3,s 4],C 267 [r (l 0),r (l 1)] [],n (l 2),m (l 3)] [(5,4)] [0,3,4]
def LY:BD:=⟨6,2,[0,1,2],0,false,[],j (d (JU 0)) (j (d (JU 1)) (.ret)),[.slot 5]⟩
def Yk:List Tmp:=[0,1,2,4,5,6]
def AU:Nat→Bz
 |0=>R 0 [m (i 0)] [] [2]
 |1=>R 1 [m (s 0),e (l 0),m (i 0)] [(4,1),(5,2)] []
 |2=>R 2 [y .lss (s 5) (s 4)] [(6,0)] []
 |3=>R 3 [m (s 5),m (l 0)] [(3,1)] []
 |4=>R 4 [m (s 1),m (s 0),m (s 3),A 1 (l 1) (l 2),L (l 3),Hw.callv (l 0) [r (l 4)] []] [(7,5)] []
 |5=>R 5 [m (s 3),m (l 0)] [(2,1)] [0,1,3,4,5]
 |6=>R 6 [y .add (s 5) (i 1),m (l 0)] [(5,1)] [3]
 |_=>R 7 [m (i (-1))] [(2,0)] [0,1,4,5]
def Fa:BD:=⟨8,0,[0,1],0,false,[],j (d (AU 0)) (j (j (d (AU 1)) (.block 0 (.loop (j (d (AU 2)) (j (h 6 (.skip) (.exit 0)) (j (.block 1 (j (d (AU 3)) (j (d (AU 4)) (h 7 (j (d (AU 5)) (.ret)) (.skip))))) (d (AU 6)))))))) (j (d (AU 7)) (.ret))),[.slot 2]⟩
def Mh:List Tmp:=[0,1,4,5,7,8,9,16]
def Im:Nat→Bz
 |0=>R 0 [m f] [] [3]
 |_=>R 1 [m (s 0),L (s 1),L (s 2),C 114 [r (l 0),r (l 1),r (l 2)] [],n (l 3),m (l 4)] [(3,5)] [0,1,2]
def JN:BD:=⟨4,0,[0,1,2],0,false,[],j (d (Im 0)) (j (d (Im 1)) (.ret)),[.slot 3]⟩
def UR:List Tmp:=[0,1,2,4]
def Ri:Nat→Bz
 |0=>R 0 [x 0 (s 0),m f] [(1,0)] [0,2]
 |_=>R 1 [F (s 1) 0,L (l 0),C 71 [r (l 1),r (i 0),r (i 9)] [],m (l 2),J 3 (F (s 1) 1),J 3 (L (l 4)),J 3 (e (l 5)),J 3 (y .leq (l 6) (i 6)),k (l 3) (l 7) f,m (l 8),J 9 (F (s 1) 2),J 9 (L (l 10)),J 9 (e (l 11)),J 9 (y .leq (l 12) (i 6)),k (l 9) (l 13) f,m (l 14),J 15 (F (s 1) 1),J 15 (L (l 16)),J 15 (C 217 [r (l 17)] []),k (l 15) (l 18) f,m (l 19),J 20 (F (s 1) 2),J 20 (L (l 21)),J 20 (C 217 [r (l 22)] []),k (l 20) (l 23) f,m (l 24)] [(2,25)] [1]
def Vs:BD:=⟨3,1,[0],0,false,[],j (d (Ri 0)) (j (d (Ri 1)) (.ret)),[.slot 2]⟩
def AhR:List Tmp:=[0,1,2]
def QD:Nat→Bz
 |0=>R 0 [x 0 (s 0),m f] [(1,0)] [0,2]
 |_=>R 1 [F (s 1) 0,L (l 0),C 114 [r (l 1),r (i 0),r (i 9)] [],m (l 2),J 3 (F (s 1) 1),J 3 (L (l 4)),J 3 (e (l 5)),J 3 (y .leq (l 6) (i 6)),k (l 3) (l 7) f,m (l 8),J 9 (F (s 1) 2),J 9 (L (l 10)),J 9 (e (l 11)),J 9 (y .leq (l 12) (i 6)),k (l 9) (l 13) f,m (l 14),J 15 (F (s 1) 1),J 15 (L (l 16)),J 15 (C 233 [r (l 17),r (i 0),r (i 255)] []),k (l 15) (l 18) f,m (l 19),J 20 (F (s 1) 2),J 20 (L (l 21)),J 20 (C 233 [r (l 22),r (i 0),r (i 255)] []),k (l 20) (l 23) f,m (l 24)] [(2,25)] [1]
def UB:BD:=⟨3,1,[0],0,false,[],j (d (QD 0)) (j (d (QD 1)) (.ret)),[.slot 2]⟩
def AiK:List Tmp:=[0,1,2]
def EO:Nat→Bz
 |0=>R 0 [m f] [] [1]
 |1=>R 1 [m (i 0)] [(2,0)] []
 |2=>R 2 [m (s 2),m (s 0),e (l 1),y .lss (l 0) (l 2)] [(3,3)] []
 |3=>R 4 [m (s 0),m (s 2),A 1 (l 0) (l 1),L (l 2),C 71 [r (l 3),r (i 0),r (i 255)] [],n (l 4)] [(4,5)] []
 |4=>R 5 [m f] [(1,0)] [0,2]
 |5=>R 3 [m (s 2),y .add (l 0) (i 1),m (l 1)] [(2,2)] []
 |_=>R 6 [m t] [(1,0)] [0,2]
def Ta:BD:=⟨5,0,[0],0,false,[],j (d (EO 0)) (j (j (d (EO 1)) (.block 0 (.loop (j (j (d (EO 2)) (h 3 (.skip) (.exit 0))) (j (.block 1 (j (d (EO 3)) (h 4 (j (d (EO 4)) (.ret)) (.skip)))) (d (EO 5))))))) (j (d (EO 6)) (.ret))),[.slot 1]⟩
def Ag8:List Tmp:=[0,2,3,7,15]
def JH:Nat→Bz
 |0=>R 0 [a 0 [N 1,N 2]] [(1,0)] []
 |_=>R 1 [M 1 1 0 [],m (s 0),q 2 1 8 (l 0) (l 1),b [N 1,N 2] [(0,1,l 2)],W 2 (s 1) (l 3)] [] [0]
def Ma:BD:=⟨2,3,[0],0,false,[],j (d (JH 0)) (j (d (JH 1)) (.ret)),[.cell 1 (some 2)]⟩
def Xf:List Tmp:=[0,2]
def Bw:Nat→Bz
 |0=>R 0 [x 0 (s 0),x 1 (s 1),a 2 [N 1,N 2],m f] [(2,0),(3,1),(4,2)] [0,1,5]
 |1=>T 1 [D (P 4 (s 2)) [0] [],D (C 152 [r (l 0)] []) [] [],D (n (l 1)) [] [],D (m (l 2)) [] [],H 3 (P 2 (s 3)) [1] [],H 3 (C 285 [r (l 4)] []) [] [],H 3 (n (l 5)) [] [],D (k (l 3) t (l 6)) [] [],D (m (l 7)) [] [],H 8 (F (s 2) 0) [] [],H 8 (L (l 9)) [0] [],H 8 (y .gtr (l 10) (i 0)) [] [],H 8 (m (l 11)) [] [],K 12 (F (s 3) 0) [] [],K 12 (L (l 13)) [1] [],K 12 (F (s 3) 0) [] [],K 12 (L (l 15)) [1] [],K 12 (e (l 16)) [] [],K 12 (y .sub (l 17) (i 1)) [] [],K 12 (A 1 (l 14) (l 18)) [] [],K 12 (L (l 19)) [] [],K 12 (F (s 2) 0) [] [],K 12 (L (l 21)) [0] [],K 12 (y .gtr (l 20) (l 22)) [] [],H 8 (k (l 12) (l 23) f) [] [],D (k (l 8) t (l 24)) [] []] [(10,25)] []
 |2=>R 2 [b [N 1,N 2] [],W 2 (s 4) (l 0),m f] [(5,2)] [2,3]
 |3=>Q 3 [M 3 1 0 [],F (s 3) 0,L (l 1),q 4 1 8 (l 0) (l 2),b [N 1,N 2] [(0,1,l 3)],a 5 [N 1,N 2],W 2 (l 5) (l 4)] [(6,5)] [] [] [.ownc 5 1 10]
 |4=>R 4 [m (i 0)] [(7,0)] []
 |5=>R 5 [m (s 7),F (s 3) 1,L (l 1),e (l 2),y .lss (l 0) (l 3)] [(11,4)] []
 |6=>R 7 [F (s 3) 1,L (l 0),m (s 7),A 2 (l 1) (l 2),F (l 3) 0,L (l 4),m (l 5)] [(8,6)] []
 |7=>R 8 [F (s 2) 2,L (l 0),m (s 8),C 166 [r (l 1),r (l 2)] [],m (l 3)] [(9,4)] []
 |8=>R 9 [F (s 2) 1,L (l 0),m (s 8),C 166 [r (l 1),r (l 2)] [],m (l 3),G 4 (F (s 2) 3),G 4 (L (l 5)),G 4 (m (l 6)),J 7 (m (s 9)),J 7 (n (l 8)),G 4 (k (l 7) (l 9) f),G 4 (m (l 10)),J 11 (m (s 8)),J 11 (C 71 [r (l 12),r (i 1),r (i 3)] []),J 11 (n (l 13)),G 4 (k (l 11) (l 14) f),k (l 4) t (l 15)] [(12,16)] []
 |9=>R 10 [b [N 1,N 2] [],W 2 (s 4) (l 0),m f] [(5,2)] [2,3,6,7,8,9]
 |10=>R 11 [m (s 9),n (l 0)] [(13,1)] [9]
 |11=>Y 12 [D (F (s 6) 1) [] [],D (L (l 0)) [5] [],D (m (s 8)) [] [],D (M 6 1 0 []) [6] [6],D (F (s 3) 1) [] [],D (L (l 4)) [1] [],D (m (s 7)) [] [],D (A 2 (l 5) (l 6)) [] [],D (F (l 7) 1) [] [],D (L (l 8)) [] [],D (q 7 1 8 (l 3) (l 9)) [6,7] [6,7],D (b [o,N 1] [(0,1,l 2),(1,1,l 10)]) [] [],D (M 8 2 1 [l 11]) [7,8] [7,8],D (p 9 2 32 (l 1) (l 12)) [8,9,10] [8,9,10],D (F (s 6) 1) [] [],D (W 1 (l 14) (l 13)) [5] [5]] [] [8] [6,7,8,9] [w 9 10]
 |12=>R 6 [m (s 7),y .add (l 0) (i 1),m (l 1)] [(7,2)] []
 |_=>R 13 [P 2 (s 6),W 2 (s 4) (l 0),m t] [(5,2)] [2,3,6,7]
def QX:BD:=⟨14,11,[0,1],0,false,[],j (d (Bw 0)) (j (j (d (Bw 1)) (h 10 (j (d (Bw 2)) (.ret)) (.skip))) (j (d (Bw 3)) (j (j (d (Bw 4)) (.block 0 (.loop (j (j (d (Bw 5)) (h 11 (.skip) (.exit 0))) (j (.block 1 (j (d (Bw 6)) (j (d (Bw 7)) (j (j (d (Bw 8)) (h 12 (j (d (Bw 9)) (.ret)) (.skip))) (j (d (Bw 10)) (h 13 (d (Bw 11)) (.skip))))))) (d (Bw 12))))))) (j (d (Bw 13)) (.ret))))),[.cell 4 (some 2),.slot 5]⟩
def Adl:List Tmp:=[0,1,2,3,4,5,6,7,8,9,35,46,75,78]
def GV:Nat→Bz
 |0=>R 0 [x 0 (s 0),x 1 (s 1),a 2 [N 1,N 2],m f] [(2,0),(3,1),(4,2)] [0,1,5]
 |1=>R 1 [P 4 (s 2),C 183 [r (l 0)] [],n (l 1),m (l 2),G 3 (P 2 (s 3)),G 3 (C 292 [r (l 4)] []),G 3 (n (l 5)),k (l 3) t (l 6),m (l 7),G 8 (P 4 (s 2)),G 8 (P 2 (s 3)),G 8 (C 295 [r (l 9),r (l 10)] []),k (l 8) t (l 11)] [(6,12)] []
 |2=>R 2 [b [N 1,N 2] [],W 2 (s 4) (l 0),m f] [(5,2)] [2,3]
 |_=>T 3 [D (F (s 3) 0) [] [],D (L (l 0)) [1] [],D (C 296 [r (l 1)] [3]) [3] [3],D (F (s 3) 1) [] [],D (L (l 3)) [1] [],D (.makeFunc 297 [s 2]) [] [],D (C 298 [r (l 4),r (l 5)] [4]) [0,4] [4],D (b [N 1,N 2] [(0,1,l 2),(1,1,l 6)]) [] [],D (W 2 (s 4) (l 7)) [2] [2],D (m t) [] []] [(5,9)] [2,3]
def Q0:BD:=⟨7,5,[0,1],0,false,[],j (d (GV 0)) (j (j (d (GV 1)) (h 6 (j (d (GV 2)) (.ret)) (.skip))) (j (d (GV 3)) (.ret))),[.cell 4 (some 2),.slot 5]⟩
def AdC:List Tmp:=[0,1,2,3,4,5,18]
def NS:Nat→Bz
 |0=>R 0 [x 0 (s 0),m f] [(1,0)] [0,2]
 |_=>R 1 [F (s 1) 0,L (l 0),C 208 [r (l 1)] [],m (l 2),J 3 (F (s 1) 1),J 3 (L (l 4)),J 3 (C 312 [r (l 5)] []),k (l 3) (l 6) f,m (l 7)] [(2,8)] [1]
def Q7:BD:=⟨3,1,[0],0,false,[],j (d (NS 0)) (j (d (NS 1)) (.ret)),[.slot 2]⟩
def Ade:List Tmp:=[0,1,2]
def Nv:Nat→Bz
 |0=>R 0 [x 0 (s 0),m f] [(1,0)] [0,2]
 |_=>R 1 [F (s 1) 0,L (l 0),C 232 [r (l 1)] [],m (l 2),J 3 (F (s 1) 1),J 3 (L (l 4)),J 3 (C 320 [r (l 5)] []),k (l 3) (l 6) f,m (l 7)] [(2,8)] [1]
def Rh:BD:=⟨3,1,[0],0,false,[],j (d (Nv 0)) (j (d (Nv 1)) (.ret)),[.slot 2]⟩
def Aem:List Tmp:=[0,1,2]
def Jp:Nat→Bz
 |0=>R 0 [x 0 (s 0),x 1 (s 1),m f] [(2,0),(3,1)] [0,1,4]
 |1=>T 1 [D (F (s 2) 0) [] [],D (L (l 0)) [0] [],D (y .neq (l 1) (i 0)) [] [],D (m (l 2)) [] [],K 3 (F (s 3) 0) [] [],K 3 (L (l 4)) [1] [],K 3 (C 325 [r (l 5)] []) [] [],K 3 (F (s 2) 0) [] [],K 3 (L (l 7)) [0] [],K 3 (y .gtr (l 6) (l 8)) [] [],D (k (l 3) (l 9) f) [] []] [(5,10)] []
 |2=>R 2 [m t] [(4,0)] [2,3]
 |_=>R 3 [F (s 3) 1,L (l 0),Hw.makeFunc 326 [s 2],C 327 [r (l 1),r (l 2)] [],m (l 3)] [(4,4)] [2,3]
def Vw:BD:=⟨6,2,[0,1],0,false,[],j (d (Jp 0)) (j (j (d (Jp 1)) (h 5 (j (d (Jp 2)) (.ret)) (.skip))) (j (d (Jp 3)) (.ret))),[.slot 4]⟩
def AiE:List Tmp:=[0,1,2,3,4,15]
def CR:Nat→Bz
 |0=>R 0 [m (z 2)] [] [2]
 |1=>Q 1 [M 0 2 0 [],m (l 0)] [(3,1)] [] [] [w 0 6]
 |2=>R 2 [m (s 0),e (l 0),m (i 0)] [(5,0),(6,1),(7,2)] [0]
 |3=>R 3 [y .lss (s 7) (s 6)] [(8,0)] []
 |4=>Q 4 [A 2 (s 5) (s 7),P 2 (l 0),a 1 [o,N 1],W 2 (l 2) (l 1)] [(4,2)] [] [1] []
 |5=>R 5 [m (s 1),F (s 4) 0,L (l 1),Hw.callv (l 0) [r (l 2)] []] [(9,3)] []
 |6=>Y 6 [D (m (s 3)) [] [],D (F (s 4) 0) [] [],D (L (l 1)) [1] [],D (M 2 1 0 []) [2] [2],D (F (s 4) 1) [] [],D (L (l 4)) [1] [],D (q 3 1 8 (l 3) (l 5)) [2,3] [2,3],D (b [o,N 1] [(0,1,l 2),(1,1,l 6)]) [] [],D (M 4 2 1 [l 7]) [3,4] [3,4],D (p 5 2 32 (l 0) (l 8)) [4,5,6] [4,5,6],D (m (l 9)) [] []] [(3,10)] [4] [2,3,4,5] [w 5 6]
 |7=>R 7 [y .add (s 7) (i 1),m (l 0)] [(7,1)] []
 |_=>R 8 [m (s 3),m (l 0)] [(2,1)] [1,3,5,6,7]
def PX:BD:=⟨10,7,[0,1],0,false,[],j (d (CR 0)) (j (d (CR 1)) (j (j (d (CR 2)) (.block 0 (.loop (j (d (CR 3)) (j (h 8 (.skip) (.exit 0)) (j (.block 1 (j (d (CR 4)) (j (d (CR 5)) (h 9 (d (CR 6)) (.skip))))) (d (CR 7)))))))) (j (d (CR 8)) (.ret)))),[.slot 2]⟩
def Ace:List Tmp:=[0,1,4,5,7,9,10,11,12,18]
def K3:Nat→Bz
 |0=>R 0 [m f] [] [2]
 |_=>R 1 [F (s 1) 2,L (l 0),m (s 0),C 188 [r (l 1),r (l 2)] [],n (l 3),m (l 4)] [(2,5)] [0,1]
def Nq:BD:=⟨3,0,[0,1],0,false,[],j (d (K3 0)) (j (d (K3 1)) (.ret)),[.slot 2]⟩
def ZV:List Tmp:=[0,1,3]
def CV:Nat→Bz
 |0=>R 0 [m f] [] [1]
 |1=>R 1 [m (i 0)] [(2,0)] []
 |2=>R 2 [m (s 2),m (s 0),e (l 1),y .lss (l 0) (l 2)] [(3,3)] []
 |3=>T 4 [D (m (s 0)) [] [],D (m (s 2)) [] [],D (A 1 (l 0) (l 1)) [] [],D (L (l 2)) [] [],D (C 71 [r (l 3),r (i 1),r (i 9)] []) [] [],D (n (l 4)) [] [],D (m (l 5)) [] [],H 6 (m (s 2)) [] [],H 6 (y .gtr (l 7) (i 0)) [] [],H 6 (m (l 8)) [] [],K 9 (m (s 0)) [] [],K 9 (m (s 2)) [] [],K 9 (y .sub (l 11) (i 1)) [] [],K 9 (A 1 (l 10) (l 12)) [] [],K 9 (L (l 13)) [] [],K 9 (m (s 0)) [] [],K 9 (m (s 2)) [] [],K 9 (A 1 (l 15) (l 16)) [] [],K 9 (L (l 17)) [] [],K 9 (y .geq (l 14) (l 18)) [] [],H 6 (k (l 9) (l 19) f) [] [],D (k (l 6) t (l 20)) [] []] [(4,21)] []
 |4=>R 5 [m f] [(1,0)] [0,2]
 |5=>R 3 [m (s 2),y .add (l 0) (i 1),m (l 1)] [(2,2)] []
 |_=>R 6 [m (s 0),e (l 0),y .gtr (l 1) (i 0),m (l 2)] [(1,3)] [0,2]
def KP:BD:=⟨5,0,[0],0,false,[],j (d (CV 0)) (j (j (d (CV 1)) (.block 0 (.loop (j (j (d (CV 2)) (h 3 (.skip) (.exit 0))) (j (.block 1 (j (d (CV 3)) (h 4 (j (d (CV 4)) (.ret)) (.skip)))) (d (CV 5))))))) (j (d (CV 6)) (.ret))),[.slot 1]⟩
def Wj:List Tmp:=[0,2,3,7,31]
def Es:Nat→Bz
 |0=>R 0 [m f] [] [1]
 |1=>R 1 [m (i 0)] [(2,0)] []
 |2=>R 2 [m (s 2),m (s 0),e (l 1),y .lss (l 0) (l 2)] [(3,3)] []
 |3=>R 4 (.append [m (s 0),m (s 2),A 2 (l 0) (l 1),F (l 2) 0,L (l 3),C 71 [r (l 4),r (i 0),r (i 255)] [],n (l 5),m (l 6),G 7 (m (s 0)),G 7 (m (s 2)),G 7 (A 2 (l 8) (l 9)),G 7 (F (l 10) 1),G 7 (L (l 11)),G 7 (e (l 12)),G 7 (y .gtr (l 13) (i 4)),k (l 7) t (l 14),m (l 15),G 16 (m (s 0)),G 16 (m (s 2)),G 16 (A 2 (l 17) (l 18)),G 16 (F (l 19) 1),G 16 (L (l 20)),G 16 (C 217 [r (l 21)] []),G 16 (n (l 22)),k (l 16) t (l 23),m (l 24),G 25 (m (s 0)),G 25 (m (s 0)),G 25 (m (s 2)),G 25 (A 2 (l 27) (l 28))] [G 25 (F (l 29) 0),G 25 (L (l 30)),G 25 (C 309 [r (l 26),r (l 31)] []),G 25 (m (s 2)),G 25 (y .lss (l 32) (l 33)),k (l 25) t (l 34)]) [(4,35)] []
 |4=>R 5 [m f] [(1,0)] [0,2]
 |5=>R 3 [m (s 2),y .add (l 0) (i 1),m (l 1)] [(2,2)] []
 |_=>R 6 [m (s 0),e (l 0),y .leq (l 1) (i 6),m (l 2)] [(1,3)] [0,2]
def QJ:BD:=⟨5,0,[0],0,false,[],j (d (Es 0)) (j (j (d (Es 1)) (.block 0 (.loop (j (j (d (Es 2)) (h 3 (.skip) (.exit 0))) (j (.block 1 (j (d (Es 3)) (h 4 (j (d (Es 4)) (.ret)) (.skip)))) (d (Es 5))))))) (j (d (Es 6)) (.ret))),[.slot 1]⟩
def AdZ:List Tmp:=[0,2,3,7,45]
def Ch:Nat→Bz
 |0=>R 0 [m f] [] [1]
 |1=>R 1 [m (s 0),e (l 0),m (i 0)] [(4,0),(5,1),(6,2)] []
 |2=>R 2 [y .lss (s 6) (s 5)] [(7,0)] []
 |3=>R 3 [m (s 6),A 1 (s 4) (s 6),L (l 1),m (l 0),m (l 2)] [(2,3),(3,4)] []
 |4=>R 4 [m (s 3),C 114 [r (l 0),r (i 1),r (i 9)] [],n (l 1),m (l 2),G 3 (m (s 2)),G 3 (y .gtr (l 4) (i 0)),G 3 (m (l 5)),J 6 (m (s 0)),J 6 (m (s 2)),J 6 (y .sub (l 8) (i 1)),J 6 (A 1 (l 7) (l 9)),J 6 (L (l 10)),J 6 (m (s 3)),J 6 (y .geq (l 11) (l 12)),G 3 (k (l 6) (l 13) f),k (l 3) t (l 14)] [(8,15)] [2,3]
 |5=>R 5 [m f] [(1,0)] [0,4,5,6]
 |6=>R 6 [y .add (s 6) (i 1),m (l 0)] [(6,1)] []
 |_=>R 7 [m (s 0),e (l 0),y .gtr (l 1) (i 0),m (l 2)] [(1,3)] [0,4,5,6]
def KD:BD:=⟨9,0,[0],0,false,[],j (d (Ch 0)) (j (j (d (Ch 1)) (.block 0 (.loop (j (d (Ch 2)) (j (h 7 (.skip) (.exit 0)) (j (.block 1 (j (d (Ch 3)) (j (d (Ch 4)) (h 8 (j (d (Ch 5)) (.ret)) (.skip))))) (d (Ch 6)))))))) (j (d (Ch 7)) (.ret))),[.slot 1]⟩
def WG:List Tmp:=[0,2,3,4,5,6,7,8,27]
def D5:Nat→Bz
 |0=>R 0 [m f] [] [1]
 |1=>R 1 [m (s 0),e (l 0),m (i 0)] [(4,0),(5,1),(6,2)] []
 |2=>R 2 [y .lss (s 6) (s 5)] [(7,0)] []
 |3=>Q 3 [m (s 6),A 2 (s 4) (s 6),P 2 (l 1),a 0 [o,N 1],m (l 0),W 2 (l 3) (l 2)] [(2,4),(3,3)] [] [0] []
 |4=>T 4 [D (F (s 3) 0) [] [],D (L (l 0)) [0] [],D (C 114 [r (l 1),r (i 0),r (i 255)] []) [] [],D (n (l 2)) [] [],D (m (l 3)) [] [],H 4 (m (s 0)) [] [],H 4 (m (s 2)) [] [],H 4 (.slice 2 (l 5) none (some (l 6))) [] [],H 4 (F (s 3) 0) [] [],H 4 (L (l 8)) [0] [],H 4 (C 321 [r (l 7),r (l 9)] []) [] [],H 4 (y .geq (l 10) (i 0)) [] [],D (k (l 4) t (l 11)) [] [],D (m (l 12)) [] [],H 13 (F (s 3) 1) [] [],H 13 (L (l 14)) [0] [],H 13 (e (l 15)) [] [],H 13 (y .gtr (l 16) (i 4)) [] [],D (k (l 13) t (l 17)) [] [],D (m (l 18)) [] [],H 19 (F (s 3) 1) [] [],H 19 (L (l 20)) [0] [],H 19 (C 233 [r (l 21),r (i 0),r (i 255)] []) [] [],H 19 (n (l 22)) [] [],D (k (l 19) t (l 23)) [] []] [(8,24)] [2,3]
 |5=>R 5 [m f] [(1,0)] [0,4,5,6]
 |6=>R 6 [y .add (s 6) (i 1),m (l 0)] [(6,1)] []
 |_=>R 7 [m (s 0),e (l 0),y .leq (l 1) (i 6),m (l 2)] [(1,3)] [0,4,5,6]
def Q9:BD:=⟨9,1,[0],0,false,[],j (d (D5 0)) (j (j (d (D5 1)) (.block 0 (.loop (j (d (D5 2)) (j (h 7 (.skip) (.exit 0)) (j (.block 1 (j (d (D5 3)) (j (d (D5 4)) (h 8 (j (d (D5 5)) (.ret)) (.skip))))) (d (D5 6)))))))) (j (d (D5 7)) (.ret))),[.slot 1]⟩
def AdI:List Tmp:=[0,2,3,4,5,6,7,8,36]
def Ct:Nat→Bz
 |0=>R 0 [m f] [] [2]
 |_=>R 1 [m (s 0),m (s 1),C 352 [r (l 0),r (l 1)] [],y .geq (l 2) (i 0),m (l 3)] [(2,4)] [0,1]
def CF:BD:=⟨3,0,[0,1],0,false,[],j (d (Ct 0)) (j (d (Ct 1)) (.ret)),[.slot 2]⟩
def Gw:List Tmp:=[0,1,4]
def NR:Nat→Bz
 |0=>R 0 [x 0 (s 0),m f] [(2,0)] [0,3]
 |_=>R 1 [F (s 1) 1,L (l 0),F (s 2) 0,L (l 2),C 188 [r (l 1),r (l 3)] [],m (l 4),G 5 (F (s 1) 3),G 5 (L (l 6)),G 5 (m (l 7)),J 8 (F (s 1) 2),J 8 (L (l 9)),J 8 (F (s 2) 0),J 8 (L (l 11)),J 8 (C 188 [r (l 10),r (l 12)] []),J 8 (n (l 13)),G 5 (k (l 8) (l 14) f),G 5 (m (l 15)),J 16 (F (s 2) 0),J 16 (L (l 17)),J 16 (C 114 [r (l 18),r (i 1),r (i 3)] []),J 16 (n (l 19)),G 5 (k (l 16) (l 20) f),k (l 5) t (l 21),m (l 22)] [(3,23)] [1,2]
def QR:BD:=⟨4,1,[0,1],0,false,[],j (d (NR 0)) (j (d (NR 1)) (.ret)),[.slot 3]⟩
def AdT:List Tmp:=[0,1,2,3]
def FE:Nat→Bz
 |0=>R 0 [m (i 0)] [] [2]
 |1=>R 1 [m (i 0)] [(3,0)] []
 |2=>R 2 [m (s 3),m (s 0),e (l 1),y .lss (l 0) (l 2)] [(4,3)] []
 |3=>R 4 [m (s 0),m (s 3),A 2 (l 0) (l 1),F (l 2) 0,L (l 3),m (s 1),y .eql (l 4) (l 5)] [(5,6)] []
 |4=>R 5 [m (s 3),m (l 0)] [(2,1)] [0,1,3]
 |5=>R 3 [m (s 3),y .add (l 0) (i 1),m (l 1)] [(3,2)] []
 |_=>R 6 [m (i (-1))] [(2,0)] [0,1,3]
def UG:BD:=⟨6,0,[0,1],0,false,[],j (d (FE 0)) (j (j (d (FE 1)) (.block 0 (.loop (j (j (d (FE 2)) (h 4 (.skip) (.exit 0))) (j (.block 1 (j (d (FE 3)) (h 5 (j (d (FE 4)) (.ret)) (.skip)))) (d (FE 5))))))) (j (d (FE 6)) (.ret))),[.slot 2]⟩
def AhU:List Tmp:=[0,1,4,5,9,18]
def QT:Nat→Bz
 |0=>R 0 [x 0 (s 1),m (i 0)] [(2,0)] [1,3]
 |_=>R 1 [m (s 0),Hw.makeFunc 351 [s 2],C 352 [r (l 0),r (l 1)] [],m (l 2)] [(3,3)] [0,2]
def Uu:BD:=⟨4,1,[0,1],0,false,[],j (d (QT 0)) (j (d (QT 1)) (.ret)),[.slot 3]⟩
def AiB:List Tmp:=[0,1,3,4]
def Al:Nat→Bz
 |0=>R 0 [m (i 0)] [] [2]
 |1=>R 1 [m (s 0),e (l 0),m (i 0)] [(4,1),(5,2)] []
 |2=>R 2 [y .lss (s 5) (s 4)] [(6,0)] []
 |3=>R 3 [m (s 5),m (l 0)] [(3,1)] []
 |4=>R 4 [m (s 1),m (s 0),m (s 3),A 2 (l 1) (l 2),P 2 (l 3),Hw.callv (l 0) [r (l 4)] []] [(7,5)] []
 |5=>R 5 [m (s 3),m (l 0)] [(2,1)] [0,1,3,4,5]
 |6=>R 6 [y .add (s 5) (i 1),m (l 0)] [(5,1)] [3]
 |_=>R 7 [m (i (-1))] [(2,0)] [0,1,4,5]
def Df:BD:=⟨8,0,[0,1],0,false,[],j (d (Al 0)) (j (j (d (Al 1)) (.block 0 (.loop (j (d (Al 2)) (j (h 6 (.skip) (.exit 0)) (j (.block 1 (j (d (Al 3)) (j (d (Al 4)) (h 7 (j (d (Al 5)) (.ret)) (.skip))))) (d (Al 6)))))))) (j (d (Al 7)) (.ret))),[.slot 2]⟩
def Hf:List Tmp:=[0,1,4,5,7,8,9,16]
def Ob:Nat→Bz
 |0=>R 0 [x 0 (s 0),m f] [(2,0)] [0,3]
 |_=>R 1 [F (s 2) 0,L (l 0),L (s 1),y .eql (l 1) (l 2),m (l 3)] [(3,4)] [1,2]
def Q8:BD:=⟨4,1,[0,1],0,false,[],j (d (Ob 0)) (j (d (Ob 1)) (.ret)),[.slot 3]⟩
def AdA:List Tmp:=[0,1,2,3]
def EJ:Nat→Bz
 |0=>R 0 [m (i 0)] [] [2]
 |1=>R 1 [m (s 0),m (s 1),C 224 [r (l 0),r (l 1)] [0],m (l 2)] [(3,3)] []
 |2=>R 2 [m (s 0),C 208 [r (l 0)] [],n (l 1),m (l 2),G 3 (m (s 1)),G 3 (C 208 [r (l 4)] []),G 3 (n (l 5)),k (l 3) t (l 6),m (l 7),G 8 (m (s 3)),G 8 (e (l 9)),G 8 (y .eql (l 10) (i 0)),k (l 8) t (l 11)] [(4,12)] [0,1]
 |3=>R 3 [m (i 0)] [(2,0)] [3]
 |_=>R 4 [m (s 3),m (s 3),e (l 1),y .sub (l 2) (i 1),A 1 (l 0) (l 3),L (l 4),m (l 5)] [(2,6)] [3]
def MG:BD:=⟨5,1,[0,1],0,false,[],j (d (EJ 0)) (j (d (EJ 1)) (j (j (d (EJ 2)) (h 4 (j (d (EJ 3)) (.ret)) (.skip))) (j (d (EJ 4)) (.ret)))),[.slot 2]⟩
def Yf:List Tmp:=[0,1,4,5,21]
def Dh:Nat→Bz
 |0=>R 0 [m (z 1)] [] [2]
 |1=>Q 1 [M 0 1 0 [],m (l 0)] [(3,1)] [] [] [w 0 3]
 |2=>R 2 [m (s 0),e (l 0),m (i 0)] [(5,0),(6,1),(7,2)] [0]
 |3=>R 3 [y .lss (s 7) (s 6)] [(8,0)] []
 |4=>R 4 [A 1 (s 5) (s 7),L (l 0),m (l 1)] [(4,2)] []
 |5=>R 5 [m (s 1),m (s 4),C 188 [r (l 0),r (l 1)] [],n (l 2)] [(9,3)] []
 |6=>Q 6 [m (s 3),m (s 4),M 1 1 1 [l 1],q 2 1 8 (l 0) (l 2),m (l 3)] [(3,4)] [4] [1,2] [w 2 3]
 |7=>R 7 [y .add (s 7) (i 1),m (l 0)] [(7,1)] []
 |_=>R 8 [m (s 3),m (l 0)] [(2,1)] [1,3,5,6,7]
def Rm:BD:=⟨10,4,[0,1],0,false,[],j (d (Dh 0)) (j (d (Dh 1)) (j (j (d (Dh 2)) (.block 0 (.loop (j (d (Dh 3)) (j (h 8 (.skip) (.exit 0)) (j (.block 1 (j (d (Dh 4)) (j (d (Dh 5)) (h 9 (d (Dh 6)) (.skip))))) (d (Dh 7)))))))) (j (d (Dh 8)) (.ret)))),[.slot 2]⟩
def Aeb:List Tmp:=[0,1,4,5,7,9,10,11,12,18]
def BN:Nat→Bz
 |0=>R 0 [m (i 0)] [] [2]
 |1=>R 1 [m (s 0),C 232 [r (l 0)] [],n (l 1),m (l 2),G 3 (m (s 1)),G 3 (C 232 [r (l 4)] []),G 3 (n (l 5)),k (l 3) t (l 6)] [(5,7)] []
 |2=>R 2 [m (i 0)] [(2,0)] [0,1]
 |3=>R 3 [m (i 0)] [(3,0)] []
 |4=>R 4 [m (s 0),m (s 1),C 242 [r (l 0),r (l 1)] [0],e (l 2),m (i 0)] [(6,2),(7,3),(8,4)] [0,1]
 |5=>R 5 [y .lss (s 8) (s 7)] [(9,0)] []
 |6=>R 6 [A 1 (s 6) (s 8),L (l 0),m (l 1)] [(4,2)] []
 |7=>R 7 [m (s 3),m (s 4),Hw.minmax true (l 0) [l 1],m (l 2)] [(3,3)] [4]
 |8=>R 8 [y .add (s 8) (i 1),m (l 0)] [(8,1)] []
 |_=>R 9 [m (s 3),m (l 0)] [(2,1)] [3,6,7,8]
def LQ:BD:=⟨10,1,[0,1],0,false,[],j (d (BN 0)) (j (j (d (BN 1)) (h 5 (j (d (BN 2)) (.ret)) (.skip))) (j (d (BN 3)) (j (j (d (BN 4)) (.block 0 (.loop (j (d (BN 5)) (j (h 9 (.skip) (.exit 0)) (j (.block 1 (j (d (BN 6)) (d (BN 7)))) (d (BN 8)))))))) (j (d (BN 9)) (.ret))))),[.slot 2]⟩
def Yr:List Tmp:=[0,1,4,5,7,15,18,19,20,21]
def Bg:Nat→Bz
 |0=>R 0 [x 0 (s 0),m f] [(1,0)] [0,2]
 |1=>R 1 [m (i 0)] [(3,0)] []
 |2=>R 2 [m (s 3),F (s 1) 1,L (l 1),e (l 2),y .lss (l 0) (l 3)] [(5,4)] []
 |3=>T 4 (.append [D (F (s 1) 1) [] [],D (L (l 0)) [0] [],D (m (s 3)) [] [],D (A 1 (l 1) (l 2)) [] [],D (L (l 3)) [] [],D (C 71 [r (l 4),r (i 0),r (i 255)] []) [] [],D (n (l 5)) [] [],D (m (l 6)) [] [],H 7 (F (s 1) 1) [] [],H 7 (L (l 8)) [0] [],H 7 (m (s 3)) [] [],H 7 (A 1 (l 9) (l 10)) [] [],H 7 (L (l 11)) [] [],H 7 (C 250 [r (l 12)] []) [] [],D (k (l 7) t (l 13)) [] [],D (m (l 14)) [] [],H 15 (m (s 3)) [] [],H 15 (y .gtr (l 16) (i 0)) [] [],H 15 (m (l 17)) [] [],K 18 (F (s 1) 1) [] [],K 18 (L (l 19)) [0] [],K 18 (m (s 3)) [] [],K 18 (y .sub (l 21) (i 1)) [] [],K 18 (A 1 (l 20) (l 22)) [] [],K 18 (L (l 23)) [] [],K 18 (F (s 1) 1) [] [],K 18 (L (l 25)) [0] [],K 18 (m (s 3)) [] [],K 18 (A 1 (l 26) (l 27)) [] [],K 18 (L (l 28)) [] []] [K 18 (y .geq (l 24) (l 29)) [] [],H 15 (k (l 18) (l 30) f) [] [],D (k (l 15) t (l 31)) [] []]) [(6,32)] []
 |4=>R 5 [m f] [(2,0)] [1,3]
 |5=>R 3 [m (s 3),y .add (l 0) (i 1),m (l 1)] [(3,2)] []
 |6=>R 6 [m (i 0)] [(4,0)] [3]
 |7=>R 7 [m (s 4),F (s 1) 2,L (l 1),e (l 2),y .lss (l 0) (l 3)] [(7,4)] []
 |8=>R 9 [F (s 1) 2,L (l 0),m (s 4),A 4 (l 1) (l 2),P 4 (l 3),C 152 [r (l 4)] [],n (l 5)] [(8,6)] []
 |9=>R 10 [m f] [(2,0)] [1,4]
 |10=>R 8 [m (s 4),y .add (l 0) (i 1),m (l 1)] [(4,2)] []
 |_=>R 11 [F (s 1) 0,L (l 0),C 208 [r (l 1)] [],m (l 2),J 3 (F (s 1) 1),J 3 (L (l 4)),J 3 (e (l 5)),J 3 (y .leq (l 6) (i 5)),k (l 3) (l 7) f,m (l 8),J 9 (F (s 1) 2),J 9 (L (l 10)),J 9 (e (l 11)),J 9 (y .leq (l 12) (i 4)),k (l 9) (l 13) f,m (l 14),J 15 (F (s 1) 3),J 15 (L (l 16)),J 15 (C 71 [r (l 17),r (i 0),r (i 5)] []),k (l 15) (l 18) f,m (l 19)] [(2,20)] [1,4]
def Ms:BD:=⟨9,1,[0],0,false,[],j (d (Bg 0)) (j (j (d (Bg 1)) (.block 0 (.loop (j (j (d (Bg 2)) (h 5 (.skip) (.exit 0))) (j (.block 1 (j (d (Bg 3)) (h 6 (j (d (Bg 4)) (.ret)) (.skip)))) (d (Bg 5))))))) (j (j (d (Bg 6)) (.block 2 (.loop (j (j (d (Bg 7)) (h 7 (.skip) (.exit 2))) (j (.block 3 (j (d (Bg 8)) (h 8 (j (d (Bg 9)) (.ret)) (.skip)))) (d (Bg 10))))))) (j (d (Bg 11)) (.ret)))),[.slot 2]⟩
def X6:List Tmp:=[0,1,2,3,4,9,44,49,58]
def JX:Nat→Bz
 |0=>R 0 [m f] [] [1]
 |_=>R 1 [m (s 0),C 71 [r (l 0),r (i 1),r (i 2147483646)] [],m (l 1)] [(1,2)] [0]
def Mg:BD:=⟨2,0,[0],0,false,[],j (d (JX 0)) (j (d (JX 1)) (.ret)),[.slot 1]⟩
def XV:List Tmp:=[0,2]
def DY:Nat→Bz
 |0=>R 0 [m f] [] [1]
 |1=>R 1 [m (s 0),e (l 0),m (i 0)] [(4,0),(5,1),(6,2)] []
 |2=>R 2 [y .lss (s 6) (s 5)] [(7,0)] []
 |3=>R 3 [m (s 6),A 1 (s 4) (s 6),L (l 1),m (l 0),m (l 2)] [(2,3),(3,4)] []
 |4=>R 4 [m (s 2),y .gtr (l 0) (i 0),m (l 1),J 2 (m (s 0)),J 2 (m (s 2)),J 2 (y .sub (l 4) (i 1)),J 2 (A 1 (l 3) (l 5)),J 2 (L (l 6)),J 2 (m (s 3)),J 2 (y .geq (l 7) (l 8)),k (l 2) (l 9) f] [(8,10)] [2,3]
 |5=>R 5 [m f] [(1,0)] [0,4,5,6]
 |6=>R 6 [y .add (s 6) (i 1),m (l 0)] [(6,1)] []
 |_=>R 7 [m (s 0),C 233 [r (l 0),r (i 0),r (i 255)] [],m (l 1)] [(1,2)] [0,4,5,6]
def Q5:BD:=⟨9,0,[0],0,false,[],j (d (DY 0)) (j (j (d (DY 1)) (.block 0 (.loop (j (d (DY 2)) (j (h 7 (.skip) (.exit 0)) (j (.block 1 (j (d (DY 3)) (j (d (DY 4)) (h 8 (j (d (DY 5)) (.ret)) (.skip))))) (d (DY 6)))))))) (j (d (DY 7)) (.ret))),[.slot 1]⟩
def Adn:List Tmp:=[0,2,3,4,5,6,7,8,22]
def JW:Nat→Bz
 |0=>R 0 [m f] [] [1]
 |_=>R 1 [m (s 0),C 114 [r (l 0),r (i 1),r (i 2147483646)] [],m (l 1)] [(1,2)] [0]
def MJ:BD:=⟨2,0,[0],0,false,[],j (d (JW 0)) (j (d (JW 1)) (.ret)),[.slot 1]⟩
def X9:List Tmp:=[0,2]
def JO:Nat→Bz
 |0=>R 0 [x 0 (s 0),m f] [(1,0)] [0,2]
 |_=>R 1 (.append [F (s 1) 0,L (l 0),C 232 [r (l 1)] [],m (l 2),J 3 (F (s 1) 1),J 3 (L (l 4)),J 3 (e (l 5)),J 3 (y .leq (l 6) (i 5)),k (l 3) (l 7) f,m (l 8),J 9 (F (s 1) 1),J 9 (L (l 10)),J 9 (C 235 [r (l 11)] []),k (l 9) (l 12) f,m (l 13),J 14 (F (s 1) 1),J 14 (L (l 15)),J 14 (C 270 [r (l 16)] []),J 14 (n (l 17)),k (l 14) (l 18) f,m (l 19),J 20 (F (s 1) 2),J 20 (L (l 21)),J 20 (e (l 22)),J 20 (y .leq (l 23) (i 4)),k (l 20) (l 24) f,m (l 25),J 26 (F (s 1) 2),J 26 (L (l 27)),J 26 (C 272 [r (l 28),r (g 271)] [])] [J 26 (n (l 29)),k (l 26) (l 30) f,m (l 31),J 32 (F (s 1) 3),J 32 (L (l 33)),J 32 (C 114 [r (l 34),r (i 0),r (i 5)] []),k (l 32) (l 35) f,m (l 36)]) [(2,37)] [1]
def Mx:BD:=⟨3,1,[0],0,false,[],j (d (JO 0)) (j (d (JO 1)) (.ret)),[.slot 2]⟩
def XZ:List Tmp:=[0,1,2]
def Dq:Nat→Bz
 |0=>R 0 [m (z 1)] [] [2]
 |1=>Q 1 [M 0 1 0 [],m (l 0)] [(3,1)] [] [] [w 0 3]
 |2=>R 2 [m (i 0)] [(4,0)] []
 |3=>R 3 [m (s 4),m (s 0),e (l 1),y .lss (l 0) (l 2)] [(5,3)] []
 |4=>R 5 [m (s 1),m (s 0),m (s 4),A 1 (l 1) (l 2),L (l 3),C 166 [r (l 0),r (l 4)] []] [(6,5)] []
 |5=>Q 6 [m (s 3),m (s 0),m (s 4),A 1 (l 1) (l 2),L (l 3),M 1 1 1 [l 4],q 2 1 8 (l 0) (l 5),m (l 6)] [(3,7)] [] [1,2] [w 2 3]
 |6=>R 4 [m (s 4),y .add (l 0) (i 1),m (l 1)] [(4,2)] []
 |_=>R 7 [m (s 3),m (l 0)] [(2,1)] [0,1,3,4]
def PU:BD:=⟨7,4,[0,1],0,false,[],j (d (Dq 0)) (j (d (Dq 1)) (j (j (d (Dq 2)) (.block 0 (.loop (j (j (d (Dq 3)) (h 5 (.skip) (.exit 0))) (j (.block 1 (j (d (Dq 4)) (h 6 (d (Dq 5)) (.skip)))) (d (Dq 6))))))) (j (d (Dq 7)) (.ret)))),[.slot 2]⟩
def AbR:List Tmp:=[0,1,4,5,6,11,19]
def CS:Nat→Bz
 |0=>R 0 [m (z 1)] [] [2]
 |1=>Q 1 [M 0 1 0 [],m (l 0)] [(3,1)] [] [] [w 0 3]
 |2=>R 2 [m (s 0),e (l 0),m (i 0)] [(5,0),(6,1),(7,2)] [0]
 |3=>R 3 [y .lss (s 7) (s 6)] [(8,0)] []
 |4=>R 4 [A 1 (s 5) (s 7),L (l 0),m (l 1)] [(4,2)] []
 |5=>R 5 [m (s 1),m (s 4),C 188 [r (l 0),r (l 1)] []] [(9,2)] []
 |6=>Q 6 [m (s 3),m (s 4),M 1 1 1 [l 1],q 2 1 8 (l 0) (l 2),m (l 3)] [(3,4)] [4] [1,2] [w 2 3]
 |7=>R 7 [y .add (s 7) (i 1),m (l 0)] [(7,1)] []
 |_=>R 8 [m (s 3),m (l 0)] [(2,1)] [1,3,5,6,7]
def P8:BD:=⟨10,4,[0,1],0,false,[],j (d (CS 0)) (j (d (CS 1)) (j (j (d (CS 2)) (.block 0 (.loop (j (d (CS 3)) (j (h 8 (.skip) (.exit 0)) (j (.block 1 (j (d (CS 4)) (j (d (CS 5)) (h 9 (d (CS 6)) (.skip))))) (d (CS 7)))))))) (j (d (CS 8)) (.ret)))),[.slot 2]⟩
def Aa8:List Tmp:=[0,1,4,5,7,9,10,11,12,17]
def Dl:Nat→Bz
 |0=>R 0 [m f] [] [2]
 |_=>R 1 [m (s 0),m (s 1),C 405 [r (l 0),r (l 1)] [],y .geq (l 2) (i 0),m (l 3)] [(2,4)] [0,1]
def DT:BD:=⟨3,0,[0,1],0,false,[],j (d (Dl 0)) (j (d (Dl 1)) (.ret)),[.slot 2]⟩
def IG:List Tmp:=[0,1,4]
def Cu:Nat→Bz
 |0=>R 0 [m f] [] [2]
 |_=>R 1 [m (s 0),m (s 1),C 406 [r (l 0),r (l 1)] [],y .geq (l 2) (i 0),m (l 3)] [(2,4)] [0,1]
def CB:BD:=⟨3,0,[0,1],0,false,[],j (d (Cu 0)) (j (d (Cu 1)) (.ret)),[.slot 2]⟩
def Gx:List Tmp:=[0,1,4]
def Ik:Nat→Bz
 |0=>R 0 [x 0 (s 0),m f] [(1,0)] [0,2]
 |_=>R 1 [P 4 (s 1),C 183 [r (l 0)] [],n (l 1),m (l 2)] [(2,3)] [1]
def JY:BD:=⟨3,1,[0],0,false,[],j (d (Ik 0)) (j (d (Ik 1)) (.ret)),[.slot 2]⟩
def Vb:List Tmp:=[0,1,2]
def Au:Nat→Bz
 |0=>R 0 [m (i 0)] [] [2]
 |1=>R 1 [m (s 0),e (l 0),m (i 0)] [(4,1),(5,2)] []
 |2=>R 2 [y .lss (s 5) (s 4)] [(6,0)] []
 |3=>R 3 [m (s 5),m (l 0)] [(3,1)] []
 |4=>R 4 [m (s 1),m (s 0),m (s 3),A 1 (l 1) (l 2),L (l 3),Hw.callv (l 0) [r (l 4)] []] [(7,5)] []
 |5=>R 5 [m (s 3),m (l 0)] [(2,1)] [0,1,3,4,5]
 |6=>R 6 [y .add (s 5) (i 1),m (l 0)] [(5,1)] [3]
 |_=>R 7 [m (i (-1))] [(2,0)] [0,1,4,5]
def Ei:BD:=⟨8,0,[0,1],0,false,[],j (d (Au 0)) (j (j (d (Au 1)) (.block 0 (.loop (j (d (Au 2)) (j (h 6 (.skip) (.exit 0)) (j (.block 1 (j (d (Au 3)) (j (d (Au 4)) (h 7 (j (d (Au 5)) (.ret)) (.skip))))) (d (Au 6)))))))) (j (d (Au 7)) (.ret))),[.slot 2]⟩
def JV:List Tmp:=[0,1,4,5,7,8,9,16]
def Am:Nat→Bz
 |0=>R 0 [m (i 0)] [] [2]
 |1=>R 1 [m (s 0),e (l 0),m (i 0)] [(4,1),(5,2)] []
 |2=>R 2 [y .lss (s 5) (s 4)] [(6,0)] []
 |3=>R 3 [m (s 5),m (l 0)] [(3,1)] []
 |4=>R 4 [m (s 1),m (s 0),m (s 3),A 4 (l 1) (l 2),P 4 (l 3),Hw.callv (l 0) [r (l 4)] []] [(7,5)] []
 |5=>R 5 [m (s 3),m (l 0)] [(2,1)] [0,1,3,4,5]
 |6=>R 6 [y .add (s 5) (i 1),m (l 0)] [(5,1)] [3]
 |_=>R 7 [m (i (-1))] [(2,0)] [0,1,4,5]
def Dc:BD:=⟨8,0,[0,1],0,false,[],j (d (Am 0)) (j (j (d (Am 1)) (.block 0 (.loop (j (d (Am 2)) (j (h 6 (.skip) (.exit 0)) (j (.block 1 (j (d (Am 3)) (j (d (Am 4)) (h 7 (j (d (Am 5)) (.ret)) (.skip))))) (d (Am 6)))))))) (j (d (Am 7)) (.ret))),[.slot 2]⟩
def Hl:List Tmp:=[0,1,4,5,7,8,9,16]
def DX:Nat→Bz
 |0=>R 0 [m (z 1)] [] [2]
 |1=>Q 1 [M 0 1 0 [],m (l 0)] [(3,1)] [] [] [w 0 3]
 |2=>R 2 [m (i 0)] [(4,0)] []
 |3=>R 3 [m (s 4),m (s 0),e (l 1),y .lss (l 0) (l 2)] [(5,3)] []
 |4=>R 5 [m (s 1),m (s 0),m (s 4),A 1 (l 1) (l 2),L (l 3),C 166 [r (l 0),r (l 4)] [],n (l 5)] [(6,6)] []
 |5=>Q 6 [m (s 3),m (s 0),m (s 4),A 1 (l 1) (l 2),L (l 3),M 1 1 1 [l 4],q 2 1 8 (l 0) (l 5),m (l 6)] [(3,7)] [] [1,2] [w 2 3]
 |6=>R 4 [m (s 4),y .add (l 0) (i 1),m (l 1)] [(4,2)] []
 |_=>R 7 [m (s 3),m (l 0)] [(2,1)] [0,1,3,4]
def QN:BD:=⟨7,4,[0,1],0,false,[],j (d (DX 0)) (j (d (DX 1)) (j (j (d (DX 2)) (.block 0 (.loop (j (j (d (DX 3)) (h 5 (.skip) (.exit 0))) (j (.block 1 (j (d (DX 4)) (h 6 (d (DX 5)) (.skip)))) (d (DX 6))))))) (j (d (DX 7)) (.ret)))),[.slot 2]⟩
def Ad9:List Tmp:=[0,1,4,5,6,11,20]
def BZ:Nat→Bz
 |0=>R 0 [m (z 1)] [] [2]
 |1=>Q 1 [M 0 1 0 [],m (l 0)] [(3,1)] [] [] [w 0 3]
 |2=>R 2 [m (i 0)] [(4,0)] []
 |3=>R 3 [m (s 4),m (s 1),e (l 1),y .lss (l 0) (l 2),m (l 3),J 4 (m (s 1)),J 4 (C 208 [r (l 5)] []),k (l 4) (l 6) f] [(5,7)] []
 |4=>R 5 [m (s 0),m (s 1),m (s 4),m (s 4),y .add (l 3) (i 1),Hw.slice 1 (l 1) (some (l 2)) (some (l 4)),C 260 [r (l 0),r (l 5)] [],n (l 6)] [(6,7)] []
 |5=>Q 6 [m (s 3),m (s 1),m (s 4),A 1 (l 1) (l 2),L (l 3),M 1 1 1 [l 4],q 2 1 8 (l 0) (l 5),m (l 6)] [(3,7)] [] [1,2] [w 2 3]
 |6=>R 4 [m (s 4),y .add (l 0) (i 1),m (l 1)] [(4,2)] []
 |_=>R 7 [m (s 3),m (l 0)] [(2,1)] [0,1,3,4]
def J5:BD:=⟨7,4,[0,1],0,false,[],j (d (BZ 0)) (j (d (BZ 1)) (j (j (d (BZ 2)) (.block 0 (.loop (j (j (d (BZ 3)) (h 5 (.skip) (.exit 0))) (j (.block 1 (j (d (BZ 4)) (h 6 (d (BZ 5)) (.skip)))) (d (BZ 6))))))) (j (d (BZ 7)) (.ret)))),[.slot 2]⟩
def Ut:List Tmp:=[0,1,4,5,6,15,25]
def AZ:Nat→Bz
 |0=>R 0 [m (z 1)] [] [2]
 |1=>Q 1 [M 0 1 0 [],m (l 0)] [(3,1)] [] [] [w 0 9]
 |2=>R 2 [m (s 1),C 232 [r (l 0)] [],n (l 1)] [(6,2)] []
 |3=>R 3 [m (s 3),m (l 0)] [(2,1)] [0,1,3]
 |4=>R 4 [m (s 1),e (l 0),m (i 0)] [(7,0),(8,1),(9,2)] [1]
 |5=>R 5 [y .lss (s 9) (s 8)] [(10,0)] []
 |6=>R 6 [A 1 (s 7) (s 9),L (l 0),m (l 1)] [(4,2)] []
 |7=>Q 7 [m (s 0),m (s 4),M 1 1 1 [l 1],C 273 [r (l 2)] [2,3],C 274 [r (l 0),r (l 3)] [4,5],m (l 4),X (l 5) 0,X (l 5) 1,a 6 [N 1,N 2],W 2 (l 8) (l 6),m (l 7)] [(5,10)] [] [1,2,3,4,5,6] []
 |8=>R 8 [m (s 5),n (l 0)] [(11,1)] [5]
 |9=>Q 9 [m (s 3),m (s 4),M 7 1 1 [l 1],q 8 1 8 (l 0) (l 2),m (l 3)] [(3,4)] [4] [7,8] [w 8 9]
 |10=>R 10 [y .add (s 9) (i 1),m (l 0)] [(9,1)] []
 |_=>R 11 [m (s 3),m (l 0)] [(2,1)] [0,3,7,8,9]
def JL:BD:=⟨12,10,[0,1],0,false,[],j (d (AZ 0)) (j (d (AZ 1)) (j (j (d (AZ 2)) (h 6 (j (d (AZ 3)) (.ret)) (.skip))) (j (j (d (AZ 4)) (.block 0 (.loop (j (d (AZ 5)) (j (h 10 (.skip) (.exit 0)) (j (.block 1 (j (d (AZ 6)) (j (d (AZ 7)) (j (d (AZ 8)) (h 11 (d (AZ 9)) (.skip)))))) (d (AZ 10)))))))) (j (d (AZ 11)) (.ret))))),[.slot 2]⟩
def Vm:List Tmp:=[0,1,4,5,7,9,13,15,16,17,18,30]
def EC:Nat→Bz
 |0=>R 0 [m f] [] [2]
 |1=>R 1 [m (s 1),C 208 [r (l 0)] [],n (l 1)] [(4,2)] []
 |2=>R 2 [m f] [(2,0)] [0,1]
 |3=>R 3 [m (s 0),m (s 1),Hw.slice 1 (l 1) none (some (i 1)),C 256 [r (l 2)] [0,1],C 286 [r (l 0),r (l 3)] [2,3],m (l 4),X (l 5) 0,X (l 5) 1,a 4 [N 1,N 2],W 2 (l 8) (l 6),m (l 7)] [(3,10)] [0,1]
 |_=>R 4 [m (s 3),m (l 0)] [(2,1)] [3]
def MC:BD:=⟨5,5,[0,1],0,false,[],j (d (EC 0)) (j (j (d (EC 1)) (h 4 (j (d (EC 2)) (.ret)) (.skip))) (j (d (EC 3)) (j (d (EC 4)) (.ret)))),[.slot 2]⟩
def X3:List Tmp:=[0,1,4,6,9]
def CU:Nat→Bz
 |0=>R 0 [x 0 (s 1),a 1 [N 1,N 2],m f] [(2,0),(3,1)] [1,4]
 |1=>R 1 [P 2 (s 2),C 292 [r (l 0)] [],n (l 1),m (l 2),G 3 (m (s 0)),G 3 (e (l 4)),G 3 (y .gtr (l 5) (i 4)),k (l 3) t (l 6)] [(8,7)] []
 |2=>R 2 [b [N 1,N 2] [],W 2 (s 3) (l 0),m f] [(4,2)] [0,2]
 |3=>Q 3 [P 2 (s 2),C 293 [r (l 0)] [2,3],a 4 [N 1,N 2],W 2 (l 2) (l 1),m t] [(5,2),(6,4)] [2] [] [w 2 7,w 3 8]
 |4=>R 4 [m (i 0)] [(7,0)] []
 |5=>R 5 [m (s 7),m (s 0),e (l 1),y .lss (l 0) (l 2),m (l 3),J 4 (m (s 6)),k (l 4) (l 5) f] [(9,6)] []
 |6=>Y 7 [D (m (s 0)) [] [],D (m (s 7)) [] [],D (A 4 (l 0) (l 1)) [] [],D (P 4 (l 2)) [] [],D (P 2 (s 5)) [4] [],D (C 294 [r (l 3),r (l 4)] [5,6]) [5,6,7,8] [5,6],D (m (l 5)) [] [],D (X (l 6) 0) [] [],D (X (l 6) 1) [] [],D (W 2 (s 5) (l 7)) [4] [4],D (m (l 8)) [] []] [(6,10)] [] [5,6] [w 5 7,w 6 8]
 |7=>R 6 [m (s 7),y .add (l 0) (i 1),m (l 1)] [(7,2)] []
 |_=>R 8 [P 2 (s 5),m (s 6),W 2 (s 3) (l 0),m (l 1)] [(4,3)] [0,5,6,7]
def PW:BD:=⟨10,9,[0,1],0,false,[],j (d (CU 0)) (j (j (d (CU 1)) (h 8 (j (d (CU 2)) (.ret)) (.skip))) (j (d (CU 3)) (j (j (d (CU 4)) (.block 0 (.loop (j (j (d (CU 5)) (h 9 (.skip) (.exit 0))) (j (.block 1 (d (CU 6))) (d (CU 7))))))) (j (d (CU 8)) (.ret))))),[.cell 3 (some 2),.slot 4]⟩
def Acn:List Tmp:=[0,1,3,4,5,6,7,8,16,26]
def J3:Nat→Bz
 |0=>R 0 [a 0 [N 1,N 2]] [(1,0)] []
 |_=>R 1 [M 1 1 0 [],m (s 0),q 2 1 8 (l 0) (l 1),b [N 1,N 2] [(0,1,l 2)],W 2 (s 1) (l 3)] [] [0]
def LU:BD:=⟨2,3,[0],0,false,[],j (d (J3 0)) (j (d (J3 1)) (.ret)),[.cell 1 (some 2)]⟩
def X0:List Tmp:=[0,2]
def BG:Nat→Bz
 |0=>R 0 [x 0 (s 1),a 1 [N 1,N 2],m f] [(2,0),(3,1)] [1,4]
 |1=>R 1 [m (s 0),e (l 0),y .gtr (l 1) (i 4),m (l 2),G 3 (P 2 (s 2)),G 3 (C 285 [r (l 4)] []),G 3 (n (l 5)),k (l 3) t (l 6)] [(9,7)] []
 |2=>R 2 [b [N 1,N 2] [],W 2 (s 3) (l 0),m f] [(4,2)] [0,2]
 |3=>Q 3 [P 2 (s 2),C 301 [r (l 0)] [2,3],a 4 [N 1,N 2],W 2 (l 2) (l 1)] [(5,2)] [2] [] [w 2 8,w 3 9]
 |4=>R 4 [m (i 0)] [(6,0)] []
 |5=>R 5 [m (s 6),m (s 0),e (l 1),y .lss (l 0) (l 2)] [(10,3)] []
 |6=>Y 7 [D (m (s 0)) [] [],D (m (s 6)) [] [],D (A 4 (l 0) (l 1)) [] [],D (P 4 (l 2)) [] [],D (P 2 (s 5)) [4] [],D (C 258 [r (l 3),r (l 4)] [5,6]) [5,6,8,9] [5,6],D (m (l 5)) [] [],D (X (l 6) 0) [] [],D (X (l 6) 1) [] [],D (a 7 [N 1,N 2]) [7] [7],D (W 2 (l 9) (l 7)) [7] [7],D (m (l 8)) [] []] [(7,9),(8,11)] [] [5,6,7] []
 |7=>R 8 [m (s 8),n (l 0)] [(11,1)] [8]
 |8=>R 9 [b [N 1,N 2] [],W 2 (s 3) (l 0),m f] [(4,2)] [0,5,6,7]
 |9=>Q 10 [P 2 (s 7),W 2 (s 5) (l 0)] [] [7] [] [w 5 8,w 6 9]
 |10=>R 6 [m (s 6),y .add (l 0) (i 1),m (l 1)] [(6,2)] []
 |_=>R 11 [P 2 (s 5),W 2 (s 3) (l 0),m t] [(4,2)] [0,5,6]
def PN:BD:=⟨12,10,[0,1],0,false,[],j (d (BG 0)) (j (j (d (BG 1)) (h 9 (j (d (BG 2)) (.ret)) (.skip))) (j (d (BG 3)) (j (j (d (BG 4)) (.block 0 (.loop (j (j (d (BG 5)) (h 10 (.skip) (.exit 0))) (j (.block 1 (j (d (BG 6)) (j (j (d (BG 7)) (h 11 (j (d (BG 8)) (.ret)) (.skip))) (d (BG 9))))) (d (BG 10))))))) (j (d (BG 11)) (.ret))))),[.cell 3 (some 2),.slot 4]⟩
def Abx:List Tmp:=[0,1,3,4,5,6,7,8,9,17,24,37]
def KO:Nat→Bz
 |0=>R 0 [x 0 (s 0),a 1 [N 1,N 2]] [(1,0),(2,1)] [0]
 |_=>T 1 [D (M 2 1 0 []) [2] [2],D (F (s 1) 0) [] [],D (L (l 1)) [0] [],D (q 3 1 8 (l 0) (l 2)) [2,3] [2,3],D (F (s 1) 1) [] [],D (L (l 4)) [0] [],D (C 318 [r (l 5)] [4]) [4] [4],D (b [N 1,N 2] [(0,1,l 3),(1,1,l 6)]) [] [],D (W 2 (s 2) (l 7)) [1] [1]] [] [1]
def NC:BD:=⟨3,5,[0],0,false,[],j (d (KO 0)) (j (d (KO 1)) (.ret)),[.cell 2 (some 2)]⟩
def Zd:List Tmp:=[0,1,2]
def MI:Nat→Bz
 |0=>R 0 [x 0 (s 0),a 1 [N 1,N 2]] [(1,0),(2,1)] [0]
 |_=>T 1 [D (M 2 1 0 []) [2] [2],D (F (s 1) 0) [] [],D (L (l 1)) [0] [],D (q 3 1 8 (l 0) (l 2)) [2,3] [2,3],D (F (s 1) 1) [] [],D (L (l 4)) [0] [],D (C 311 [r (l 5)] [4]) [4] [4],D (b [N 1,N 2] [(0,1,l 3),(1,1,l 6)]) [] [],D (W 2 (s 2) (l 7)) [1] [1]] [] [1]
def PZ:BD:=⟨3,5,[0],0,false,[],j (d (MI 0)) (j (d (MI 1)) (.ret)),[.cell 2 (some 2)]⟩
def AbO:List Tmp:=[0,1,2]
def ME:Nat→Bz
 |0=>R 0 [m (z 2)] [] [1]
 |_=>R 1 [m (s 0),C 298 [r (l 0),r (g 350)] [0],m (l 1)] [(1,2)] [0]
def Px:BD:=⟨2,1,[0],0,false,[],j (d (ME 0)) (j (d (ME 1)) (.ret)),[.slot 1]⟩
def AbN:List Tmp:=[0,2]
def NM:Nat→Bz
 |0=>R 0 [m (z 2)] [] [1]
 |_=>R 1 [m (s 0),m (s 0),C 308 [r (l 1)] [0],C 331 [r (l 0),r (l 2)] [1],m (l 3)] [(1,4)] [0]
def QI:BD:=⟨2,2,[0],0,false,[],j (d (NM 0)) (j (d (NM 1)) (.ret)),[.slot 1]⟩
def Ady:List Tmp:=[0,2]
def J4:Nat→Bz
 |0=>R 0 [m f] [] [0,1]
 |_=>R 1 [m t] [(1,0)] []
def Mq:BD:=⟨2,0,[0],0,false,[],j (d (J4 0)) (j (d (J4 1)) (.ret)),[.slot 1]⟩
def XQ:List Tmp:=[0,2]
def D6:Nat→Bz
 |0=>R 0 [m (z 2)] [] [2]
 |1=>Q 1 [M 0 2 0 [],m (l 0)] [(3,1)] [] [] [w 0 5]
 |2=>R 2 [m (i 0)] [(4,0)] []
 |3=>R 3 [m (s 4),m (s 0),e (l 1),y .lss (l 0) (l 2)] [(5,3)] []
 |4=>R 5 [m (s 1),m (s 0),m (s 4),A 2 (l 1) (l 2),F (l 3) 0,L (l 4),C 166 [r (l 0),r (l 5)] []] [(6,6)] []
 |5=>Y 6 [D (m (s 3)) [] [],D (m (s 0)) [] [],D (m (s 4)) [] [],D (A 2 (l 1) (l 2)) [] [],D (F (l 3) 0) [] [],D (L (l 4)) [] [],D (M 1 1 0 []) [1] [1],D (m (s 0)) [] [],D (m (s 4)) [] [],D (A 2 (l 7) (l 8)) [] [],D (F (l 9) 1) [] [],D (L (l 10)) [] [],D (q 2 1 8 (l 6) (l 11)) [1,2] [1,2],D (b [o,N 1] [(0,1,l 5),(1,1,l 12)]) [] [],D (M 3 2 1 [l 13]) [2,3] [2,3],D (p 4 2 32 (l 0) (l 14)) [3,4,5] [3,4,5],D (m (l 15)) [] []] [(3,16)] [] [1,2,3,4] [w 4 5]
 |6=>R 4 [m (s 4),y .add (l 0) (i 1),m (l 1)] [(4,2)] []
 |_=>R 7 [m (s 3),m (l 0)] [(2,1)] [0,1,3,4]
def QZ:BD:=⟨7,6,[0,1],0,false,[],j (d (D6 0)) (j (d (D6 1)) (j (j (d (D6 2)) (.block 0 (.loop (j (j (d (D6 3)) (h 5 (.skip) (.exit 0))) (j (.block 1 (j (d (D6 4)) (h 6 (d (D6 5)) (.skip)))) (d (D6 6))))))) (j (d (D6 7)) (.ret)))),[.slot 2]⟩
def Aev:List Tmp:=[0,1,4,5,6,11,20]
def ER:Nat→Bz
 |0=>R 0 [m (z 1)] [] [1]
 |1=>Q 1 [M 0 1 0 [],m (l 0)] [(2,1)] [] [] [w 0 3]
 |2=>R 2 [m (i 0)] [(3,0)] []
 |3=>R 3 [m (s 3),m (s 0),e (l 1),y .lss (l 0) (l 2)] [(4,3)] []
 |4=>Q 5 [m (s 2),m (s 0),m (s 3),A 2 (l 1) (l 2),F (l 3) 0,L (l 4),M 1 1 1 [l 5],q 2 1 8 (l 0) (l 6),m (l 7)] [(2,8)] [] [1,2] [w 2 3]
 |5=>R 4 [m (s 3),y .add (l 0) (i 1),m (l 1)] [(3,2)] []
 |_=>R 6 [m (s 2),m (l 0)] [(1,1)] [0,2,3]
def Tq:BD:=⟨5,4,[0],0,false,[],j (d (ER 0)) (j (d (ER 1)) (j (j (d (ER 2)) (.block 0 (.loop (j (j (d (ER 3)) (h 4 (.skip) (.exit 0))) (j (.block 1 (d (ER 4))) (d (ER 5))))))) (j (d (ER 6)) (.ret)))),[.slot 1]⟩
def AgE:List Tmp:=[0,2,3,4,9]
def Ij:Nat→Bz
 |0=>R 0 [x 0 (s 0),a 1 zD] [(2,0),(3,1)] [0]
 |1=>R 1 [m (s 1),F (s 2) 3,L (l 1),e (l 2),y .sub (l 3) (i 1),C 71 [r (l 0),r (i 0),r (l 4)] [],n (l 5)] [(4,6)] []
 |2=>R 2 [b zD [],W 5 (s 3) (l 0)] [] [1,2]
 |_=>T 3 [D (F (s 2) 3) [] [],D (L (l 0)) [0] [],D (m (s 1)) [] [],D (A 4 (l 1) (l 2)) [] [],D (P 4 (l 3)) [] [],D (F (s 2) 0) [] [],D (L (l 5)) [0] [],D (F (s 2) 1) [] [],D (L (l 7)) [0] [],D (F (s 2) 2) [] [],D (L (l 9)) [0] [],D (F (s 2) 12) [] [],D (L (l 11)) [0] [],D (C 212 [r (l 12)] []) [] [],D (y .mul (i 16) (l 13)) [] [],D (m (s 1)) [] [],D (y .add (l 14) (l 15)) [] [],D (C 213 [r (l 4),r (l 6),r (l 8),r (l 10),r (l 16)] [2,3]) [2,3] [2,3],D (W 5 (s 3) (l 17)) [1] [1]] [] [1,2]
def Tn:BD:=⟨5,4,[0,1],0,false,[],j (d (Ij 0)) (j (j (d (Ij 1)) (h 4 (j (d (Ij 2)) (.ret)) (.skip))) (j (d (Ij 3)) (.ret))),[.cell 3 (some 5)]⟩
def AgB:List Tmp:=[0,1,2,4,11]
def Iq:Nat→Bz
 |0=>R 0 [x 0 (s 0),a 1 zD] [(2,0),(3,1)] [0]
 |1=>R 1 [P 15 (s 2),m (s 1),C 117 [r (l 0),r (l 1)] [],n (l 2)] [(4,3)] []
 |2=>R 2 [b zD [],W 5 (s 3) (l 0)] [] [1,2]
 |_=>T 3 [D (F (s 2) 3) [] [],D (L (l 0)) [0] [],D (m (s 1)) [] [],D (A 4 (l 1) (l 2)) [] [],D (P 4 (l 3)) [] [],D (F (s 2) 0) [] [],D (L (l 5)) [0] [],D (F (s 2) 1) [] [],D (L (l 7)) [0] [],D (F (s 2) 2) [] [],D (L (l 9)) [0] [],D (F (s 2) 12) [] [],D (L (l 11)) [0] [],D (.minmax false (l 12) [i 100000]) [] [],D (.minmax true (l 13) [i (-100000)]) [] [],D (y .mul (i 16) (l 14)) [] [],D (m (s 1)) [] [],D (y .add (l 15) (l 16)) [] [],D (C 227 [r (l 4),r (l 6),r (l 8),r (l 10),r (l 17)] [2,3]) [2,3] [2,3],D (W 5 (s 3) (l 18)) [1] [1]] [] [1,2]
def TH:BD:=⟨5,4,[0,1],0,false,[],j (d (Iq 0)) (j (j (d (Iq 1)) (h 4 (j (d (Iq 2)) (.ret)) (.skip))) (j (d (Iq 3)) (.ret))),[.cell 3 (some 5)]⟩
def AfW:List Tmp:=[0,1,2,4,8]
def G5:Nat→Bz
 |0=>R 0 [x 0 (s 0),a 1 zD] [(5,0),(6,1)] [0]
 |1=>R 1 [P 4 (s 5),C 207 [r (l 0)] [],n (l 1)] [(7,2)] []
 |2=>R 2 [b zD [],W 5 (s 6) (l 0)] [] [1,2,3,4,5]
 |_=>T 3 [D (P 4 (s 5)) [0] [],D (m (s 4)) [] [],D (C 251 [r (l 0),r (l 1)] [2,3]) [2,3] [2,3],D (F (s 5) 2) [] [],D (L (l 3)) [0] [],D (m (s 1)) [] [],D (m (s 2)) [] [],D (m (s 3)) [] [],D (C 252 [r (l 2),r (l 4),r (l 5),r (l 6),r (l 7)] [4,5]) [2,3,4,5] [4,5],D (W 5 (s 6) (l 8)) [1] [1]] [] [1,2,3,4,5]
def QM:BD:=⟨8,6,[0,1,2,3,4],0,false,[],j (d (G5 0)) (j (j (d (G5 1)) (h 7 (j (d (G5 2)) (.ret)) (.skip))) (j (d (G5 3)) (.ret))),[.cell 6 (some 5)]⟩
def Aek:List Tmp:=[0,1,2,3,4,5,10,13]
def Nl:Nat→Bz
 |0=>R 0 [m (i 0)] [] [1]
 |_=>R 1 [m (s 0),C 253 [r (i 100000),r (l 0)] [],C 215 [r (i (-100000)),r (l 1)] [],m (l 2)] [(1,3)] [0]
def QG:BD:=⟨2,0,[0],0,false,[],j (d (Nl 0)) (j (d (Nl 1)) (.ret)),[.slot 1]⟩
def Aep:List Tmp:=[0,2]
def MX:Nat→Bz
 |0=>R 0 [m (i 0)] [] [2]
 |1=>R 1 [m (s 1),m (s 0),y .gtr (l 0) (l 1)] [(3,2)] []
 |2=>R 2 [m (s 1),m (l 0)] [(2,1)] [0,1]
 |_=>R 3 [m (s 0),m (l 0)] [(2,1)] [0,1]
def AbC:BD:=⟨4,0,[0,1],0,false,[],j (d (MX 0)) (j (j (d (MX 1)) (h 3 (j (d (MX 2)) (.ret)) (.skip))) (j (d (MX 3)) (.ret))),[.slot 2]⟩
def AoN:List Tmp:=[0,1,4,7]
def GZ:Nat→Bz
 |0=>R 0 [x 0 (s 0),a 1 zD] [(5,0),(6,1)] [0]
 |1=>R 1 [P 4 (s 5),C 239 [r (l 0)] [],n (l 1)] [(7,2)] []
 |2=>R 2 [b zD [],W 5 (s 6) (l 0)] [] [1,2,3,4,5]
 |_=>T 3 [D (P 4 (s 5)) [0] [],D (m (s 4)) [] [],D (C 261 [r (l 0),r (l 1)] [2,3]) [2,3] [2,3],D (F (s 5) 2) [] [],D (L (l 3)) [0] [],D (m (s 1)) [] [],D (m (s 2)) [] [],D (m (s 3)) [] [],D (C 262 [r (l 2),r (l 4),r (l 5),r (l 6),r (l 7)] [4,5]) [2,3,4,5] [4,5],D (W 5 (s 6) (l 8)) [1] [1]] [] [1,2,3,4,5]
def QH:BD:=⟨8,6,[0,1,2,3,4],0,false,[],j (d (GZ 0)) (j (j (d (GZ 1)) (h 7 (j (d (GZ 2)) (.ret)) (.skip))) (j (d (GZ 3)) (.ret))),[.cell 6 (some 5)]⟩
def Aef:List Tmp:=[0,1,2,3,4,5,10,13]
def IK:Nat→Bz
 |0=>R 0 [x 0 (s 0),a 1 zD] [(5,0),(6,1)] [0]
 |1=>R 1 [P 2 (s 5),m (s 1),C 280 [r (l 0),r (l 1)] [2,3],m (l 2),X (l 3) 0,X (l 3) 1,X (l 3) 2,a 4 [N 1,N 2],W 2 (l 7) (l 4),m (l 5),m (l 6)] [(7,7),(8,9),(9,10)] []
 |2=>R 2 [m (s 9),n (l 0)] [(10,1)] [9]
 |3=>R 3 [m (s 8),b zD [(3,1,l 0)],W 5 (s 6) (l 1)] [] [1,2,3,4,5,7,8]
 |_=>T 4 [D (P 2 (s 7)) [4] [],D (m (s 1)) [] [],D (m (s 2)) [] [],D (m (s 3)) [] [],D (m (s 4)) [] [],D (C 281 [r (l 0),r (l 1),r (l 2),r (l 3),r (l 4)] [5]) [2,3,5] [5],D (m (s 8)) [] [],D (P 2 (s 5)) [0] [],D (P 2 (s 7)) [4] [],D (C 282 [r (l 7),r (l 8)] [6]) [2,3,6] [6],D (b zD [(0,3,l 5),(3,1,l 6),(4,1,l 9)]) [] [],D (W 5 (s 6) (l 10)) [1] [1]] [] [1,2,3,4,5,7,8]
def XU:BD:=⟨11,7,[0,1,2,3,4],0,false,[],j (d (IK 0)) (j (d (IK 1)) (j (j (d (IK 2)) (h 10 (j (d (IK 3)) (.ret)) (.skip))) (j (d (IK 4)) (.ret)))),[.cell 6 (some 5)]⟩
def AlR:List Tmp:=[0,1,2,3,4,5,10,11,12,13,22]
def Di:Nat→Bz
 |0=>R 0 [x 0 (s 0),a 1 [N 1,N 2]] [(2,0),(3,1)] [0]
 |1=>R 1 [P 4 (s 2),C 207 [r (l 0)] [],n (l 1)] [(6,2)] []
 |2=>R 2 [b [N 1,N 2] [],W 2 (s 3) (l 0)] [] [1,2]
 |3=>Q 3 [M 2 2 0 [],m (l 0)] [(4,1)] [] [] [w 2 8]
 |4=>R 4 [m (i 0)] [(5,0)] []
 |5=>R 5 [m (s 5),F (s 2) 1,L (l 1),e (l 2),y .lss (l 0) (l 3)] [(7,4)] []
 |6=>Q 7 [m (s 4),F (s 2) 1,L (l 1),m (s 5),A 1 (l 2) (l 3),L (l 4),b [o,N 1] [(0,1,l 5)],M 3 2 1 [l 6],p 4 2 32 (l 0) (l 7),m (l 8)] [(4,9)] [] [3,4] [w 4 8]
 |7=>R 6 [m (s 5),y .add (l 0) (i 1),m (l 1)] [(5,2)] []
 |_=>R 8 [M 5 1 0 [],F (s 2) 0,L (l 1),q 6 1 8 (l 0) (l 2),m (s 4),m (s 1),C 283 [r (l 4),r (l 5)] [7],b [N 1,N 2] [(0,1,l 3),(1,1,l 6)],W 2 (s 3) (l 7)] [] [1,2,4,5]
def QK:BD:=⟨8,9,[0,1],0,false,[],j (d (Di 0)) (j (j (d (Di 1)) (h 6 (j (d (Di 2)) (.ret)) (.skip))) (j (d (Di 3)) (j (j (d (Di 4)) (.block 0 (.loop (j (j (d (Di 5)) (h 7 (.skip) (.exit 0))) (j (.block 1 (d (Di 6))) (d (Di 7))))))) (j (d (Di 8)) (.ret))))),[.cell 3 (some 2)]⟩
def Ad8:List Tmp:=[0,1,2,4,5,6,9,16]
def M9:Nat→Bz
 |0=>R 0 [m (i 0)] [] [2]
 |1=>R 1 [m (s 1),m (s 0),y .lss (l 0) (l 1)] [(3,2)] []
 |2=>R 2 [m (s 1),m (l 0)] [(2,1)] [0,1]
 |_=>R 3 [m (s 0),m (l 0)] [(2,1)] [0,1]
def AbT:BD:=⟨4,0,[0,1],0,false,[],j (d (M9 0)) (j (j (d (M9 1)) (h 3 (j (d (M9 2)) (.ret)) (.skip))) (j (d (M9 3)) (.ret))),[.slot 2]⟩
def AoI:List Tmp:=[0,1,4,7]
def IB:Nat→Bz
 |0=>R 0 [x 0 (s 0),a 1 zD] [(5,0),(6,1)] [0]
 |1=>R 1 [P 2 (s 5),m (s 1),C 287 [r (l 0),r (l 1)] [2,3],m (l 2),X (l 3) 0,X (l 3) 1,X (l 3) 2,a 4 [N 1,N 2],W 2 (l 7) (l 4),m (l 5),m (l 6)] [(7,7),(8,9),(9,10)] []
 |2=>R 2 [m (s 9),n (l 0)] [(10,1)] [9]
 |3=>R 3 [m (s 8),b zD [(3,1,l 0)],W 5 (s 6) (l 1)] [] [1,2,3,4,5,7,8]
 |_=>T 4 [D (P 2 (s 7)) [4] [],D (m (s 1)) [] [],D (m (s 2)) [] [],D (m (s 3)) [] [],D (m (s 4)) [] [],D (C 288 [r (l 0),r (l 1),r (l 2),r (l 3),r (l 4)] [5]) [2,3,5] [5],D (m (s 8)) [] [],D (P 2 (s 5)) [0] [],D (P 2 (s 7)) [4] [],D (C 289 [r (l 7),r (l 8)] [6]) [2,3,6] [6],D (b zD [(0,3,l 5),(3,1,l 6),(4,1,l 9)]) [] [],D (W 5 (s 6) (l 10)) [1] [1]] [] [1,2,3,4,5,7,8]
def Xl:BD:=⟨11,7,[0,1,2,3,4],0,false,[],j (d (IB 0)) (j (d (IB 1)) (j (j (d (IB 2)) (h 10 (j (d (IB 3)) (.ret)) (.skip))) (j (d (IB 4)) (.ret)))),[.cell 6 (some 5)]⟩
def AkC:List Tmp:=[0,1,2,3,4,5,10,11,12,13,22]
def CG:Nat→Bz
 |0=>R 0 [x 0 (s 0),a 1 [N 1,N 2]] [(2,0),(3,1)] [0]
 |1=>R 1 [P 4 (s 2),C 239 [r (l 0)] [],n (l 1)] [(6,2)] []
 |2=>R 2 [b [N 1,N 2] [],W 2 (s 3) (l 0)] [] [1,2]
 |3=>Q 3 [M 2 2 0 [],m (l 0)] [(4,1)] [] [] [w 2 8]
 |4=>R 4 [F (s 2) 1,L (l 0),e (l 1),m (i 0)] [(7,1),(8,2),(9,3)] []
 |5=>R 5 [y .lss (s 9) (s 8)] [(10,0)] []
 |6=>R 6 [A 1 (s 7) (s 9),L (l 0),m (l 1)] [(5,2)] []
 |7=>Q 7 [m (s 4),m (s 5),b [o,N 1] [(0,1,l 1)],M 3 2 1 [l 2],p 4 2 32 (l 0) (l 3),m (l 4)] [(4,5)] [5] [3,4] [w 4 8]
 |8=>R 8 [y .add (s 9) (i 1),m (l 0)] [(9,1)] []
 |_=>R 9 [M 5 1 0 [],F (s 2) 0,L (l 1),q 6 1 8 (l 0) (l 2),m (s 4),m (s 1),C 290 [r (l 4),r (l 5)] [7],b [N 1,N 2] [(0,1,l 3),(1,1,l 6)],W 2 (s 3) (l 7)] [] [1,2,4,7,8,9]
def QW:BD:=⟨11,9,[0,1],0,false,[],j (d (CG 0)) (j (j (d (CG 1)) (h 6 (j (d (CG 2)) (.ret)) (.skip))) (j (d (CG 3)) (j (j (d (CG 4)) (.block 0 (.loop (j (d (CG 5)) (j (h 10 (.skip) (.exit 0)) (j (.block 1 (j (d (CG 6)) (d (CG 7)))) (d (CG 8)))))))) (j (d (CG 9)) (.ret))))),[.cell 3 (some 2)]⟩
def AdN:List Tmp:=[0,1,2,4,5,7,10,14,15,16,17]
def CO:Nat→Bz
 |0=>R 0 [x 0 (s 0),a 1 [N 1,N 2],m (i 0),m f] [(2,0),(3,1)] [0,4,5]
 |1=>R 1 [P 2 (s 2),C 285 [r (l 0)] [],n (l 1)] [(8,2)] []
 |2=>R 2 [b [N 1,N 2] [],W 2 (s 3) (l 0),m (i 0),m f] [(4,2),(5,3)] [1,2]
 |3=>R 3 [P 2 (s 2),m (s 1),C 300 [r (l 0),r (l 1)] []] [(9,2)] []
 |4=>R 4 [P 2 (s 2),C 301 [r (l 0)] [2,3],W 2 (s 3) (l 1),m (i 1),m t] [(4,3),(5,4)] [1,2]
 |5=>R 5 [P 2 (s 2),m (s 1),C 302 [r (l 0),r (l 1)] [4,5],m (l 2),X (l 3) 0,X (l 3) 1,a 6 [N 1,N 2],W 2 (l 6) (l 4),m (l 5)] [(6,6),(7,8)] [2]
 |6=>R 6 [m (s 7),n (l 0),m (l 1),G 2 (P 2 (s 6)),G 2 (m (s 1)),G 2 (C 300 [r (l 3),r (l 4)] []),G 2 (n (l 5)),k (l 2) t (l 6)] [(10,7)] [1,7]
 |7=>R 7 [b [N 1,N 2] [],W 2 (s 3) (l 0),m (i 2),m f] [(4,2),(5,3)] [6]
 |_=>R 8 [P 2 (s 6),W 2 (s 3) (l 0),m (i 2),m t] [(4,2),(5,3)] [6]
def PO:BD:=⟨11,7,[0,1],0,false,[],j (d (CO 0)) (j (j (d (CO 1)) (h 8 (j (d (CO 2)) (.ret)) (.skip))) (j (j (d (CO 3)) (h 9 (j (d (CO 4)) (.ret)) (.skip))) (j (d (CO 5)) (j (j (d (CO 6)) (h 10 (j (d (CO 7)) (.ret)) (.skip))) (j (d (CO 8)) (.ret)))))),[.cell 3 (some 2),.slot 4,.slot 5]⟩
def Acv:List Tmp:=[0,1,2,4,5,6,7,8,11,15,31]
def BS:Nat→Bz
 |0=>R 0 [x 0 (s 0),a 1 [c,o,N 1]] [(5,0),(6,1)] [0]
 |1=>R 1 [m (s 1),P 2 (s 5),C 286 [r (l 0),r (l 1)] [2,3],m (l 2),X (l 3) 0,X (l 3) 1,a 4 [N 1,N 2],W 2 (l 6) (l 4),m (l 5)] [(7,6),(8,8)] [1]
 |2=>R 2 [m (s 8),n (l 0)] [(12,1)] [8]
 |3=>R 3 [b [c,o,N 1] [],W 3 (s 6) (l 0)] [] [2,3,4,5,7]
 |4=>R 4 [m (s 2),m (s 3),P 2 (s 7),C 303 [r (l 0),r (l 1),r (l 2)] [5],m (l 3),X (l 4) 0,X (l 4) 1,a 6 [o,N 2],W 2 (l 7) (l 5),m (l 6)] [(9,7),(10,9)] [2,3]
 |5=>R 5 [m (s 10),n (l 0),m (l 1),G 2 (P 2 (s 5)),G 2 (P 2 (s 9)),G 2 (C 304 [r (l 3),r (l 4)] []),G 2 (n (l 5)),k (l 2) t (l 6)] [(13,7)] [10]
 |6=>R 6 [b [c,o,N 1] [],W 3 (s 6) (l 0)] [] [4,5,7,9]
 |7=>T 7 [D (m (s 4)) [] [],D (P 2 (s 5)) [0] [],D (C 305 [r (l 1)] [7]) [7] [7],D (P 2 (s 9)) [6] [],D (C 306 [r (l 3)] [8]) [5,8] [8],D (M 9 1 2 [l 2,l 4]) [7,8,9] [7,8,9],D (C 307 [r (l 0),r (l 5),r (i 1)] []) [9] [],D (m (l 6)) [] []] [(11,7)] [5]
 |8=>T 8 [D (m (s 11)) [] [],D (y .eql (l 0) (i 0)) [] [],D (m (l 1)) [] [],H 2 (m (s 11)) [] [],H 2 (m (s 4)) [] [],H 2 (P 2 (s 7)) [4] [],H 2 (C 305 [r (l 5)] [10]) [2,3,10] [10],H 2 (P 2 (s 9)) [6] [],H 2 (C 306 [r (l 7)] [11]) [5,11] [11],H 2 (M 12 1 2 [l 6,l 8]) [10,11,12] [10,11,12],H 2 (C 307 [r (l 4),r (l 9),r (i 1)] []) [12] [],H 2 (y .neq (l 3) (l 10)) [] [],D (k (l 2) t (l 11)) [] []] [(14,12)] [4,7,11]
 |9=>R 9 [b [c,o,N 1] [],W 3 (s 6) (l 0)] [] [9]
 |_=>T 10 [D (F (s 9) 0) [] [],D (L (l 0)) [6] [],D (F (s 9) 1) [] [],D (L (l 2)) [6] [],D (C 308 [r (l 3)] [13]) [5,13] [13],D (b [c,o,N 1] [(0,1,t),(1,1,l 1),(2,1,l 4)]) [] [],D (W 3 (s 6) (l 5)) [1] [1]] [] [9]
def Ps:BD:=⟨15,14,[0,1,2,3,4],0,false,[],j (d (BS 0)) (j (d (BS 1)) (j (j (d (BS 2)) (h 12 (j (d (BS 3)) (.ret)) (.skip))) (j (d (BS 4)) (j (j (d (BS 5)) (h 13 (j (d (BS 6)) (.ret)) (.skip))) (j (d (BS 7)) (j (j (d (BS 8)) (h 14 (j (d (BS 9)) (.ret)) (.skip))) (j (d (BS 10)) (.ret)))))))),[.cell 6 (some 3)]⟩
def AbA:List Tmp:=[0,1,2,3,4,5,10,11,12,13,14,15,23,39,60]
def DV:Nat→Bz
 |0=>R 0 [x 0 (s 0),x 1 (s 1),m (z 1)] [(2,0),(3,1)] [0,1,4]
 |1=>Q 1 [F (s 2) 0,L (l 0),F (s 3) 0,L (l 2),C 223 [r (l 1),r (l 3)] [2],m (l 4)] [(5,5)] [] [] [w 2 5]
 |2=>R 2 [m (i 0)] [(6,0)] []
 |3=>R 3 [m (s 6),F (s 2) 1,L (l 1),e (l 2),y .lss (l 0) (l 3)] [(7,4)] []
 |4=>T 5 [D (F (s 3) 1) [] [],D (L (l 0)) [1] [],D (F (s 2) 1) [] [],D (L (l 2)) [0] [],D (m (s 6)) [] [],D (A 2 (l 3) (l 4)) [] [],D (F (l 5) 0) [] [],D (L (l 6)) [] [],D (C 309 [r (l 1),r (l 7)] []) [] [],D (y .lss (l 8) (i 0)) [] [],D (m (l 9)) [] [],K 10 (F (s 2) 1) [] [],K 10 (L (l 11)) [0] [],K 10 (m (s 6)) [] [],K 10 (A 2 (l 12) (l 13)) [] [],K 10 (F (l 14) 0) [] [],K 10 (L (l 15)) [] [],K 10 (C 71 [r (l 16),r (i 0),r (i 255)] []) [] [],D (k (l 10) (l 17) f) [] []] [(8,18)] []
 |5=>Q 6 [m (s 5),F (s 2) 1,L (l 1),m (s 6),A 2 (l 2) (l 3),F (l 4) 0,L (l 5),y .add (i 1000) (l 6),M 3 1 1 [l 7],q 4 1 8 (l 0) (l 8),m (l 9)] [(5,10)] [] [3,4] [w 4 5]
 |6=>R 4 [m (s 6),y .add (l 0) (i 1),m (l 1)] [(6,2)] []
 |_=>R 7 [m (s 5),m (l 0)] [(4,1)] [2,3,5,6]
def Rb:BD:=⟨9,6,[0,1],0,false,[],j (d (DV 0)) (j (d (DV 1)) (j (j (d (DV 2)) (.block 0 (.loop (j (j (d (DV 3)) (h 7 (.skip) (.exit 0))) (j (.block 1 (j (d (DV 4)) (h 8 (d (DV 5)) (.skip)))) (d (DV 6))))))) (j (d (DV 7)) (.ret)))),[.slot 4]⟩
def Aeg:List Tmp:=[0,1,2,3,4,5,6,16,37]
def CQ:Nat→Bz
 |0=>R 0 [x 0 (s 0),a 1 [N 1,N 2],m (i 0),m f] [(2,0),(3,1)] [0,4,5]
 |1=>R 1 [P 2 (s 2),C 292 [r (l 0)] [],n (l 1)] [(8,2)] []
 |2=>R 2 [b [N 1,N 2] [],W 2 (s 3) (l 0),m (i 0),m f] [(4,2),(5,3)] [1,2]
 |3=>R 3 [P 2 (s 2),m (s 1),C 314 [r (l 0),r (l 1)] []] [(9,2)] []
 |4=>R 4 [P 2 (s 2),C 293 [r (l 0)] [2,3],W 2 (s 3) (l 1),m (i 1),m t] [(4,3),(5,4)] [1,2]
 |5=>R 5 [P 2 (s 2),m (s 1),C 315 [r (l 0),r (l 1)] [4,5],m (l 2),X (l 3) 0,X (l 3) 1,a 6 [N 1,N 2],W 2 (l 6) (l 4),m (l 5)] [(6,6),(7,8)] [2]
 |6=>R 6 [m (s 7),n (l 0),m (l 1),G 2 (P 2 (s 6)),G 2 (m (s 1)),G 2 (C 314 [r (l 3),r (l 4)] []),G 2 (n (l 5)),k (l 2) t (l 6)] [(10,7)] [1,7]
 |7=>R 7 [b [N 1,N 2] [],W 2 (s 3) (l 0),m (i 2),m f] [(4,2),(5,3)] [6]
 |_=>R 8 [P 2 (s 6),W 2 (s 3) (l 0),m (i 2),m t] [(4,2),(5,3)] [6]
def Py:BD:=⟨11,7,[0,1],0,false,[],j (d (CQ 0)) (j (j (d (CQ 1)) (h 8 (j (d (CQ 2)) (.ret)) (.skip))) (j (j (d (CQ 3)) (h 9 (j (d (CQ 4)) (.ret)) (.skip))) (j (d (CQ 5)) (j (j (d (CQ 6)) (h 10 (j (d (CQ 7)) (.ret)) (.skip))) (j (d (CQ 8)) (.ret)))))),[.cell 3 (some 2),.slot 4,.slot 5]⟩
def Ach:List Tmp:=[0,1,2,4,5,6,7,8,11,15,31]
def FJ:Nat→Bz
 |0=>R 0 [x 0 (s 0),a 1 [c,o,N 1]] [(5,0),(6,1)] [0]
 |1=>R 1 [m (s 1),P 2 (s 5),C 274 [r (l 0),r (l 1)] [2,3],m (l 2),X (l 3) 0,X (l 3) 1,a 4 [N 1,N 2],W 2 (l 6) (l 4),m (l 5)] [(7,6),(8,8)] [1]
 |2=>R 2 [m (s 8),n (l 0)] [(9,1)] [8]
 |3=>R 3 [b [c,o,N 1] [],W 3 (s 6) (l 0)] [] [2,3,4,5,7]
 |_=>R 4 [P 2 (s 5),P 2 (s 7),m (s 2),m (s 3),m (s 4),C 316 [r (l 0),r (l 1),r (l 2),r (l 3),r (l 4),r (z 2)] [5],W 3 (s 6) (l 5)] [] [2,3,4,5,7]
def P7:BD:=⟨10,6,[0,1,2,3,4],0,false,[],j (d (FJ 0)) (j (d (FJ 1)) (j (j (d (FJ 2)) (h 9 (j (d (FJ 3)) (.ret)) (.skip))) (j (d (FJ 4)) (.ret)))),[.cell 6 (some 3)]⟩
def AbI:List Tmp:=[0,1,2,3,4,5,10,11,12,20]
def Dj:Nat→Bz
 |0=>R 0 [x 0 (s 0),x 1 (s 1),m (z 1)] [(2,0),(3,1)] [0,1,4]
 |1=>Q 1 [F (s 2) 0,L (l 0),F (s 3) 0,L (l 2),C 189 [r (l 1),r (l 3)] [2],m (l 4)] [(5,5)] [] [] [w 2 8]
 |2=>T 2 [D (F (s 2) 1) [] [],D (L (l 0)) [0] [],D (C 317 [r (l 1)] [3]) [3] [3],D (F (s 3) 1) [] [],D (L (l 3)) [1] [],D (C 317 [r (l 4)] [4]) [4] [4],D (C 189 [r (l 2),r (l 5)] [5]) [3,4,5] [5],D (e (l 6)) [5] [],D (m (i 0)) [] []] [(7,6),(8,7),(9,8)] [2,3]
 |3=>R 3 [y .lss (s 9) (s 8)] [(10,0)] []
 |4=>R 4 [A 1 (s 7) (s 9),L (l 0),m (l 1)] [(6,2)] []
 |5=>R 5 [m (s 6),C 114 [r (l 0),r (i 0),r (i 255)] []] [(11,1)] []
 |6=>Q 6 [m (s 5),m (s 6),y .add (i 1000) (l 1),M 6 1 1 [l 2],q 7 1 8 (l 0) (l 3),m (l 4)] [(5,5)] [6] [6,7] [w 7 8]
 |7=>R 7 [y .add (s 9) (i 1),m (l 0)] [(9,1)] []
 |_=>R 8 [m (s 5),m (l 0)] [(4,1)] [5,7,8,9]
def QL:BD:=⟨12,9,[0,1],0,false,[],j (d (Dj 0)) (j (d (Dj 1)) (j (j (d (Dj 2)) (.block 0 (.loop (j (d (Dj 3)) (j (h 10 (.skip) (.exit 0)) (j (.block 1 (j (d (Dj 4)) (j (d (Dj 5)) (h 11 (d (Dj 6)) (.skip))))) (d (Dj 7)))))))) (j (d (Dj 8)) (.ret)))),[.slot 4]⟩
def Aen:List Tmp:=[0,1,2,3,4,5,7,19,20,21,22,26]
def Gj:Nat→Bz
 |0=>R 0 [x 0 (s 0),m f] [(2,0)] [0,3]
 |1=>R 1 [m (s 1),P 2 (s 2),C 286 [r (l 0),r (l 1)] [1,2],m (l 2),X (l 3) 0,X (l 3) 1,a 3 [N 1,N 2],W 2 (l 6) (l 4),m (l 5)] [(4,6),(5,8)] [1]
 |_=>R 2 [m (s 5),m (l 0),J 1 (P 2 (s 4)),J 1 (P 2 (s 2)),J 1 (C 328 [r (l 2),r (l 3)] []),k (l 1) (l 4) f,m (l 5)] [(3,6)] [2,4,5]
def Lc:BD:=⟨6,4,[0,1],0,false,[],j (d (Gj 0)) (j (d (Gj 1)) (j (d (Gj 2)) (.ret))),[.slot 3]⟩
def Wt:List Tmp:=[0,1,2,4,5,6]
def Dz:Nat→Bz
 |0=>R 0 [x 0 (s 0),a 1 [N 1,N 2],m f] [(2,0),(3,1)] [0,4]
 |1=>R 1 [P 2 (s 2),C 285 [r (l 0)] [],n (l 1)] [(6,2)] []
 |2=>R 2 [b [N 1,N 2] [],W 2 (s 3) (l 0),m f] [(4,2)] [1,2]
 |3=>R 3 [m (s 1),F (s 2) 0,L (l 1),C 222 [r (l 0),r (l 2)] [2],m (l 3)] [(5,4)] []
 |_=>T 4 [D (P 2 (s 2)) [0] [],D (m (s 5)) [] [],D (m (s 1)) [] [],D (F (s 2) 0) [] [],D (L (l 3)) [0] [],D (m (s 5)) [] [],D (C 223 [r (l 4),r (l 5)] [3]) [2,3] [3],D (F (s 2) 1) [] [],D (L (l 7)) [0] [],D (C 329 [r (l 2),r (l 6),r (l 8)] [4]) [3,4] [4],D (C 330 [r (l 0),r (l 1),r (l 9)] [5,6]) [2,4,5,6] [5,6],D (X (l 10) 0) [] [],D (X (l 10) 1) [] [],D (W 2 (s 3) (l 11)) [1] [1],D (m (l 12)) [] []] [(4,14)] [1,2,5]
def Jg:BD:=⟨7,7,[0,1],0,false,[],j (d (Dz 0)) (j (j (d (Dz 1)) (h 6 (j (d (Dz 2)) (.ret)) (.skip))) (j (d (Dz 3)) (j (d (Dz 4)) (.ret)))),[.cell 3 (some 2),.slot 4]⟩
def Uk:List Tmp:=[0,1,2,4,5,6,9]
def Eb:Nat→Bz
 |0=>R 0 [x 0 (s 2),a 1 [o,N 2],m f] [(3,0),(4,1)] [2,5]
 |1=>R 1 [m (s 0),F (s 3) 0,L (l 1),C 168 [r (l 0),r (l 2)] [],m (l 3)] [(6,4)] [0]
 |2=>R 2 [P 2 (s 3),C 285 [r (l 0)] [],n (l 1),m (l 2),G 3 (m (s 6)),G 3 (y .eql (l 4) (i 0)),k (l 3) t (l 5)] [(7,6)] []
 |3=>R 3 [b [o,N 2] [],W 2 (s 4) (l 0),m f] [(5,2)] [1,3,6]
 |_=>R 4 [m (s 6),F (s 3) 1,L (l 1),m (s 1),C 331 [r (l 2),r (l 3)] [2],C 332 [r (l 4)] [3],b [o,N 2] [(0,1,l 0),(1,1,l 5)],W 2 (s 4) (l 6),m t] [(5,8)] [1,3,6]
def JP:BD:=⟨8,4,[0,1,2],0,false,[],j (d (Eb 0)) (j (d (Eb 1)) (j (j (d (Eb 2)) (h 7 (j (d (Eb 3)) (.ret)) (.skip))) (j (d (Eb 4)) (.ret)))),[.cell 4 (some 2),.slot 5]⟩
def Ve:List Tmp:=[0,1,2,5,6,7,8,19]
def Dv:Nat→Bz
 |0=>R 0 [x 0 (s 0),x 1 (s 1),m f] [(2,0),(3,1)] [0,1,4]
 |1=>R 1 [m (i 0)] [(5,0)] []
 |2=>R 2 [m (s 5),F (s 3) 1,L (l 1),e (l 2),y .lss (l 0) (l 3)] [(6,4)] []
 |3=>T 4 [D (F (s 2) 1) [] [],D (L (l 0)) [0] [],D (F (s 3) 1) [] [],D (L (l 2)) [1] [],D (m (s 5)) [] [],D (A 2 (l 3) (l 4)) [] [],D (F (l 5) 0) [] [],D (L (l 6)) [] [],D (C 309 [r (l 1),r (l 7)] []) [] [],D (y .lss (l 8) (i 0)) [] [],D (m (l 9)) [] [],H 10 (F (s 3) 1) [] [],H 10 (L (l 11)) [1] [],H 10 (m (s 5)) [] [],H 10 (A 2 (l 12) (l 13)) [] [],H 10 (F (l 14) 0) [] [],H 10 (L (l 15)) [] [],H 10 (C 250 [r (l 16)] []) [] [],D (k (l 10) t (l 17)) [] []] [(7,18)] []
 |4=>R 5 [m f] [(4,0)] [2,3,5]
 |5=>R 3 [m (s 5),y .add (l 0) (i 1),m (l 1)] [(5,2)] []
 |_=>R 6 [P 2 (s 2),C 285 [r (l 0)] [],m (l 1),J 2 (P 2 (s 3)),J 2 (C 333 [r (l 3)] []),k (l 2) (l 4) f,m (l 5),J 6 (F (s 2) 0),J 6 (L (l 7)),J 6 (F (s 3) 0),J 6 (L (l 9)),J 6 (C 166 [r (l 8),r (l 10)] []),k (l 6) (l 11) f,m (l 12)] [(4,13)] [2,3,5]
def NJ:BD:=⟨8,2,[0,1],0,false,[],j (d (Dv 0)) (j (j (d (Dv 1)) (.block 0 (.loop (j (j (d (Dv 2)) (h 6 (.skip) (.exit 0))) (j (.block 1 (j (d (Dv 3)) (h 7 (j (d (Dv 4)) (.ret)) (.skip)))) (d (Dv 5))))))) (j (d (Dv 6)) (.ret))),[.slot 4]⟩
def Aas:List Tmp:=[0,1,2,3,4,5,10,31]
def Gp:Nat→Bz
 |0=>R 0 [m (i 0)] [] [3]
 |1=>R 1 [m (s 0),C 210 [r (l 0)] [],n (l 1),m (l 2),G 3 (m (s 1)),G 3 (C 334 [r (l 4)] []),G 3 (n (l 5)),k (l 3) t (l 6),m (l 7),G 8 (m (s 2)),G 8 (C 71 [r (l 9),r (i 0),r (i 1)] []),G 8 (n (l 10)),k (l 8) t (l 11)] [(4,12)] []
 |2=>R 2 [m (i 0)] [(3,0)] [0,1,2]
 |_=>R 3 [m (s 0),m (s 2),m (s 1),C 335 [r (l 2)] [],M 0 1 2 [l 1,l 3],C 336 [r (l 0),r (l 4)] [],m (l 5)] [(3,6)] [0,1,2]
def PE:BD:=⟨5,1,[0,1,2],0,false,[],j (d (Gp 0)) (j (j (d (Gp 1)) (h 4 (j (d (Gp 2)) (.ret)) (.skip))) (j (d (Gp 3)) (.ret))),[.slot 3]⟩
def Abq:List Tmp:=[0,1,2,6,19]
def EH:Nat→Bz
 |0=>R 0 [x 0 (s 0),m (z 1)] [(1,0)] [0,2]
 |1=>R 1 [P 2 (s 1),C 285 [r (l 0)] [],n (l 1)] [(4,2)] []
 |2=>R 2 [M 1 1 0 [],m (l 0)] [(2,1)] [1]
 |3=>R 3 [F (s 1) 1,L (l 0),C 337 [r (l 1)] [2],m (l 2),X (l 3) 0,X (l 3) 1,m (l 4),m (l 5)] [(3,6)] []
 |_=>R 4 [F (s 1) 0,L (l 0),e (l 1),M 3 1 1 [l 2],F (s 1) 0,L (l 4),q 4 1 8 (l 3) (l 5),m (s 3),q 5 1 8 (l 6) (l 7),m (l 8)] [(2,9)] [1,3]
def LJ:BD:=⟨5,6,[0],0,false,[],j (d (EH 0)) (j (j (d (EH 1)) (h 4 (j (d (EH 2)) (.ret)) (.skip))) (j (d (EH 3)) (j (d (EH 4)) (.ret)))),[.slot 2]⟩
def XM:List Tmp:=[0,1,2,3,7]
def Ep:Nat→Bz
 |0=>R 0 [x 0 (s 0),m (z 1)] [(1,0)] [0,2]
 |1=>R 1 [P 2 (s 1),C 333 [r (l 0)] [],n (l 1)] [(4,2)] []
 |2=>R 2 [M 1 1 0 [],m (l 0)] [(2,1)] [1]
 |3=>R 3 [F (s 1) 1,L (l 0),C 337 [r (l 1)] [2],m (l 2),X (l 3) 0,X (l 3) 1,m (l 4),m (l 5)] [(3,6)] []
 |_=>R 4 [F (s 1) 0,L (l 0),M 3 1 1 [l 1],m (s 3),q 4 1 8 (l 2) (l 3),m (l 4)] [(2,5)] [1,3]
def KQ:BD:=⟨5,5,[0],0,false,[],j (d (Ep 0)) (j (j (d (Ep 1)) (h 4 (j (d (Ep 2)) (.ret)) (.skip))) (j (d (Ep 3)) (j (d (Ep 4)) (.ret)))),[.slot 2]⟩
def Wz:List Tmp:=[0,1,2,3,7]
def KG:Nat→Bz
 |0=>R 0 [m (i 0)] [] [1]
 |_=>R 1 [m (s 0),C 313 [r (l 0),r (i 0),r (i 16)] [],y .mul (i 16) (l 1),y .add (l 2) (i 10),m (l 3)] [(1,4)] [0]
def Nr:BD:=⟨2,0,[0],0,false,[],j (d (KG 0)) (j (d (KG 1)) (.ret)),[.slot 1]⟩
def Zh:List Tmp:=[0,2]
def Hy:Nat→Bz
 |0=>R 0 [m (i 0)] [] [3]
 |1=>R 1 [m (s 2),y .lss (l 0) (i 1)] [(4,1)] []
 |2=>R 2 [m (i 0)] [(3,0)] [0,1,2]
 |_=>R 3 [m (s 0),m (s 1),M 0 1 2 [l 0,l 1],C 338 [r (l 2)] [],m (s 2),C 339 [r (l 3),r (l 4)] [],m (l 5)] [(3,6)] [0,1,2]
def TJ:BD:=⟨5,1,[0,1,2],0,false,[],j (d (Hy 0)) (j (j (d (Hy 1)) (h 4 (j (d (Hy 2)) (.ret)) (.skip))) (j (d (Hy 3)) (.ret))),[.slot 3]⟩
def Ahh:List Tmp:=[0,1,2,6,8]
def Gi:Nat→Bz
 |0=>R 0 [x 0 (s 0),m f] [(2,0)] [0,3]
 |1=>R 1 [m (s 1),P 2 (s 2),C 274 [r (l 0),r (l 1)] [1,2],m (l 2),X (l 3) 0,X (l 3) 1,a 3 [N 1,N 2],W 2 (l 6) (l 4),m (l 5)] [(4,6),(5,8)] [1]
 |_=>R 2 [m (s 5),m (l 0),J 1 (P 2 (s 4)),J 1 (P 2 (s 2)),J 1 (C 340 [r (l 2),r (l 3)] []),k (l 1) (l 4) f,m (l 5)] [(3,6)] [2,4,5]
def KU:BD:=⟨6,4,[0,1],0,false,[],j (d (Gi 0)) (j (d (Gi 1)) (j (d (Gi 2)) (.ret))),[.slot 3]⟩
def Ww:List Tmp:=[0,1,2,4,5,6]
def FV:Nat→Bz
 |0=>R 0 [x 0 (s 0),a 1 [N 1,N 2],m f] [(2,0),(3,1)] [0,4]
 |1=>R 1 [m (s 1),F (s 2) 0,L (l 1),C 240 [r (l 0),r (l 2)] [2],m (l 3)] [(5,4)] []
 |_=>T 2 [D (P 2 (s 2)) [0] [],D (m (s 5)) [] [],D (m (s 1)) [] [],D (F (s 2) 0) [] [],D (L (l 3)) [0] [],D (m (s 5)) [] [],D (C 189 [r (l 4),r (l 5)] [3]) [2,3] [3],D (F (s 2) 1) [] [],D (L (l 7)) [0] [],D (C 341 [r (l 2),r (l 6),r (l 8)] [4]) [3,4] [4],D (C 342 [r (l 0),r (l 1),r (l 9)] [5,6]) [2,4,5,6] [5,6],D (X (l 10) 0) [] [],D (X (l 10) 1) [] [],D (W 2 (s 3) (l 11)) [1] [1],D (m (l 12)) [] []] [(4,14)] [1,2,5]
def I6:BD:=⟨6,7,[0,1],0,false,[],j (d (FV 0)) (j (d (FV 1)) (j (d (FV 2)) (.ret))),[.cell 3 (some 2),.slot 4]⟩
def Uq:List Tmp:=[0,1,2,4,5,6]
def En:Nat→Bz
 |0=>R 0 [m (z 1)] [] [1]
 |1=>Q 1 [M 0 1 0 [],m (l 0)] [(2,1)] [] [] [w 0 4]
 |2=>R 2 [m (s 0),e (l 0),m (i 0)] [(4,0),(5,1),(6,2)] [0]
 |3=>R 3 [y .lss (s 6) (s 5)] [(7,0)] []
 |4=>Q 4 [A 2 (s 4) (s 6),P 2 (l 0),a 1 [o,N 1],W 2 (l 2) (l 1)] [(3,2)] [] [1] []
 |5=>Q 5 [m (s 2),F (s 3) 0,L (l 1),M 2 1 1 [l 2],q 3 1 8 (l 0) (l 3),m (l 4)] [(2,5)] [3] [2,3] [w 3 4]
 |6=>R 6 [y .add (s 6) (i 1),m (l 0)] [(6,1)] []
 |_=>R 7 [m (s 2),m (l 0)] [(1,1)] [2,4,5,6]
def Tp:BD:=⟨8,5,[0],0,false,[],j (d (En 0)) (j (d (En 1)) (j (j (d (En 2)) (.block 0 (.loop (j (d (En 3)) (j (h 7 (.skip) (.exit 0)) (j (.block 1 (j (d (En 4)) (d (En 5)))) (d (En 6)))))))) (j (d (En 7)) (.ret)))),[.slot 1]⟩
def Aft:List Tmp:=[0,2,3,5,7,8,9,10]
def LA:Nat→Bz
 |0=>R 0 [m (i 0)] [] [1]
 |_=>R 1 [m (s 0),C 322 [r (l 0),r (i 0),r (i 16)] [],y .mul (i 16) (l 1),y .add (l 2) (i 10),m (l 3)] [(1,4)] [0]
def Nk:BD:=⟨2,0,[0],0,false,[],j (d (LA 0)) (j (d (LA 1)) (.ret)),[.slot 1]⟩
def Z9:List Tmp:=[0,2]
def HZ:Nat→Bz
 |0=>R 0 [m (i 0)] [] [3]
 |1=>R 1 [m (s 2),y .lss (l 0) (i 1)] [(4,1)] []
 |2=>R 2 [m (i 0)] [(3,0)] [0,1,2]
 |_=>R 3 [m (s 0),m (s 1),M 0 1 2 [l 0,l 1],C 353 [r (l 2)] [],m (s 2),C 354 [r (l 3),r (l 4)] [],m (l 5)] [(3,6)] [0,1,2]
def SK:BD:=⟨5,1,[0,1,2],0,false,[],j (d (HZ 0)) (j (j (d (HZ 1)) (h 4 (j (d (HZ 2)) (.ret)) (.skip))) (j (d (HZ 3)) (.ret))),[.slot 3]⟩
def Ahg:List Tmp:=[0,1,2,6,8]
def I9:Nat→Bz
 |0=>R 0 [x 0 (s 0),x 1 (s 1),m f] [(2,0),(3,1)] [0,1,4]
 |_=>R 1 [F (s 2) 0,L (l 0),F (s 3) 0,L (l 2),C 355 [r (l 1),r (l 3)] [],m (l 4),J 5 (F (s 2) 1),J 5 (L (l 6)),J 5 (F (s 3) 1),J 5 (L (l 8)),J 5 (C 356 [r (l 7),r (l 9)] []),k (l 5) (l 10) f,m (l 11)] [(4,12)] [2,3]
def KJ:BD:=⟨5,2,[0,1],0,false,[],j (d (I9 0)) (j (d (I9 1)) (.ret)),[.slot 4]⟩
def WA:List Tmp:=[0,1,2,3,4]
def AQ:Nat→Bz
 |0=>R 0 [x 0 (s 0),a 1 [N 1,N 2],m f] [(3,0),(4,1)] [0,5]
 |1=>R 1 [P 2 (s 3),C 285 [r (l 0)] [],n (l 1)] [(9,2)] []
 |2=>R 2 [b [N 1,N 2] [],W 2 (s 4) (l 0),m f] [(5,2)] [1,2,3]
 |3=>Q 3 [b [N 1,N 2] [],a 2 [N 1,N 2],W 2 (l 1) (l 0)] [(6,1)] [] [] [.ownc 2 0 9,.ownc 2 1 10]
 |4=>R 4 [m (i 0)] [(7,0)] []
 |5=>R 5 [m (s 7),F (s 3) 0,L (l 1),e (l 2),y .lss (l 0) (l 3)] [(10,4)] []
 |6=>R 7 [m (s 1),F (s 3) 0,L (l 1),m (s 7),A 1 (l 2) (l 3),L (l 4),C 166 [r (l 0),r (l 5)] [],n (l 6)] [(11,7)] []
 |7=>Y 8 [D (F (s 6) 0) [] [],D (L (l 0)) [2] [],D (F (s 3) 0) [] [],D (L (l 2)) [0] [],D (m (s 7)) [] [],D (A 1 (l 3) (l 4)) [] [],D (L (l 5)) [] [],D (M 3 1 1 [l 6]) [3] [3],D (q 4 1 8 (l 1) (l 7)) [3,4,9] [4,9],D (F (s 6) 0) [] [],D (W 1 (l 9) (l 8)) [2] [2]] [] [] [3,4] [w 4 9]
 |8=>R 6 [m (s 7),y .add (l 0) (i 1),m (l 1)] [(7,2)] []
 |9=>R 9 [m (i 0)] [(8,0)] [1,7]
 |10=>R 10 [m (s 8),F (s 3) 1,L (l 1),e (l 2),y .lss (l 0) (l 3)] [(12,4)] []
 |11=>R 12 [m (s 2),F (s 3) 1,L (l 1),m (s 8),A 2 (l 2) (l 3),F (l 4) 0,L (l 5),C 166 [r (l 0),r (l 6)] [],n (l 7)] [(13,8)] []
 |12=>Y 13 [D (F (s 6) 1) [] [],D (L (l 0)) [2] [],D (F (s 3) 1) [] [],D (L (l 2)) [0] [],D (m (s 8)) [] [],D (A 2 (l 3) (l 4)) [] [],D (F (l 5) 0) [] [],D (L (l 6)) [] [],D (M 5 1 0 []) [5] [5],D (F (s 3) 1) [] [],D (L (l 9)) [0] [],D (m (s 8)) [] [],D (A 2 (l 10) (l 11)) [] [],D (F (l 12) 1) [] [],D (L (l 13)) [] [],D (q 6 1 8 (l 8) (l 14)) [5,6] [5,6],D (b [o,N 1] [(0,1,l 7),(1,1,l 15)]) [] [],D (M 7 2 1 [l 16]) [6,7] [6,7],D (p 8 2 32 (l 1) (l 17)) [7,8,10] [7,8,10],D (F (s 6) 1) [] [],D (W 1 (l 19) (l 18)) [2] [2]] [] [] [5,6,7,8] [w 8 10]
 |13=>R 11 [m (s 8),y .add (l 0) (i 1),m (l 1)] [(8,2)] []
 |14=>R 14 [F (s 6) 0,L (l 0),e (l 1),y .eql (l 2) (i 0)] [(14,3)] [2,3,8]
 |15=>R 15 [b [N 1,N 2] [],W 2 (s 4) (l 0),m f] [(5,2)] [6]
 |_=>R 16 [P 2 (s 6),W 2 (s 4) (l 0),m t] [(5,2)] [6]
def Oa:BD:=⟨15,11,[0,1,2],0,false,[],j (d (AQ 0)) (j (j (d (AQ 1)) (h 9 (j (d (AQ 2)) (.ret)) (.skip))) (j (d (AQ 3)) (j (j (d (AQ 4)) (.block 0 (.loop (j (j (d (AQ 5)) (h 10 (.skip) (.exit 0))) (j (.block 1 (j (d (AQ 6)) (h 11 (d (AQ 7)) (.skip)))) (d (AQ 8))))))) (j (j (d (AQ 9)) (.block 2 (.loop (j (j (d (AQ 10)) (h 12 (.skip) (.exit 2))) (j (.block 3 (j (d (AQ 11)) (h 13 (d (AQ 12)) (.skip)))) (d (AQ 13))))))) (j (j (d (AQ 14)) (h 14 (j (d (AQ 15)) (.ret)) (.skip))) (j (d (AQ 16)) (.ret))))))),[.cell 4 (some 2),.slot 5]⟩
def ZB:List Tmp:=[0,1,2,3,6,7,8,9,10,13,20,30,45,56,80]
def Bt:Nat→Bz
 |0=>R 0 [m (z 1)] [] [3]
 |1=>Q 1 [M 0 1 0 [],m (l 0)] [(4,1)] [] [] [w 0 9]
 |2=>R 2 [m (s 2),C 312 [r (l 0)] [],n (l 1),m (l 2),G 3 (m (s 0)),G 3 (m (s 1)),G 3 (C 260 [r (l 4),r (l 5)] []),G 3 (n (l 6)),k (l 3) t (l 7)] [(9,8)] []
 |3=>R 3 [m (s 4),m (l 0)] [(3,1)] [0,1,2,4]
 |4=>R 4 [m (i 0)] [(5,0)] []
 |5=>R 5 [m (s 5),m (s 2),e (l 1),y .lss (l 0) (l 2)] [(10,3)] []
 |6=>Q 7 [m (s 1),Hw.slice 1 (l 0) none (some (i 1)),C 256 [r (l 1)] [1,2],a 3 [N 1,N 2],W 2 (l 3) (l 2)] [(6,3)] [] [1,2,3] []
 |7=>R 8 [m (s 2),m (s 5),m (s 5),y .add (l 2) (i 1),Hw.slice 2 (l 0) (some (l 1)) (some (l 3)),F (s 6) 1,W 1 (l 5) (l 4)] [] []
 |8=>Q 9 [m (s 0),P 2 (s 6),C 286 [r (l 0),r (l 1)] [4,5],m (l 2),X (l 3) 0,X (l 3) 1,a 6 [N 1,N 2],W 2 (l 6) (l 4),m (l 5)] [(7,6),(8,8)] [] [4,5,6] []
 |9=>R 10 [m (s 8),n (l 0),m (l 1),G 2 (F (s 7) 1),G 2 (L (l 3)),G 2 (F (s 6) 1),G 2 (L (l 5)),G 2 (C 356 [r (l 4),r (l 6)] []),G 2 (n (l 7)),k (l 2) t (l 8)] [(11,9)] [6,7,8]
 |10=>Q 11 [m (s 4),m (s 2),m (s 5),A 2 (l 1) (l 2),F (l 3) 0,L (l 4),M 7 1 1 [l 5],q 8 1 8 (l 0) (l 6),m (l 7)] [(4,8)] [] [7,8] [w 8 9]
 |11=>R 6 [m (s 5),y .add (l 0) (i 1),m (l 1)] [(5,2)] []
 |_=>R 12 [m (s 4),m (l 0)] [(3,1)] [0,1,2,4,5]
def O5:BD:=⟨12,10,[0,1,2],0,false,[],j (d (Bt 0)) (j (d (Bt 1)) (j (j (d (Bt 2)) (h 9 (j (d (Bt 3)) (.ret)) (.skip))) (j (j (d (Bt 4)) (.block 0 (.loop (j (j (d (Bt 5)) (h 10 (.skip) (.exit 0))) (j (.block 1 (j (d (Bt 6)) (j (d (Bt 7)) (j (d (Bt 8)) (j (d (Bt 9)) (h 11 (d (Bt 10)) (.skip))))))) (d (Bt 11))))))) (j (d (Bt 12)) (.ret))))),[.slot 3]⟩
def AbZ:List Tmp:=[0,1,2,6,7,8,9,10,11,21,26,53]
def Ci:Nat→Bz
 |0=>R 0 [m (z 2)] [] [1]
 |1=>Q 1 [M 0 2 0 [],m (l 0)] [(2,1)] [] [] [w 0 5]
 |2=>R 2 [m (i 0)] [(3,0)] []
 |3=>R 3 [m (s 3),m (s 0),e (l 1),y .lss (l 0) (l 2)] [(4,3)] []
 |4=>R 5 [m (s 0),m (s 3),A 2 (l 0) (l 1),F (l 2) 0,L (l 3),C 250 [r (l 4)] [],n (l 5)] [(5,6)] []
 |5=>Y 6 [D (m (s 2)) [] [],D (m (s 0)) [] [],D (m (s 3)) [] [],D (A 2 (l 1) (l 2)) [] [],D (F (l 3) 0) [] [],D (L (l 4)) [] [],D (M 1 1 0 []) [1] [1],D (m (s 0)) [] [],D (m (s 3)) [] [],D (A 2 (l 7) (l 8)) [] [],D (F (l 9) 1) [] [],D (L (l 10)) [] [],D (q 2 1 8 (l 6) (l 11)) [1,2] [1,2],D (b [o,N 1] [(0,1,l 5),(1,1,l 12)]) [] [],D (M 3 2 1 [l 13]) [2,3] [2,3],D (p 4 2 32 (l 0) (l 14)) [3,4,5] [3,4,5],D (m (l 15)) [] []] [(2,16)] [] [1,2,3,4] [w 4 5]
 |6=>R 4 [m (s 3),y .add (l 0) (i 1),m (l 1)] [(3,2)] []
 |_=>R 7 [m (s 2),m (l 0)] [(1,1)] [0,2,3]
def Ll:BD:=⟨6,6,[0],0,false,[],j (d (Ci 0)) (j (d (Ci 1)) (j (j (d (Ci 2)) (.block 0 (.loop (j (j (d (Ci 3)) (h 4 (.skip) (.exit 0))) (j (.block 1 (j (d (Ci 4)) (h 5 (d (Ci 5)) (.skip)))) (d (Ci 6))))))) (j (d (Ci 7)) (.ret)))),[.slot 1]⟩
def Wd:List Tmp:=[0,2,3,4,9,18]
def Mv:Nat→Bz
 |0=>R 0 [x 0 (s 0),m f] [(1,0)] [0,2]
 |_=>R 1 [F (s 1) 0,L (l 0),C 71 [r (l 1),r (i 1),r (i 9)] [],m (l 2),J 3 (F (s 1) 1),J 3 (L (l 4)),J 3 (C 312 [r (l 5)] []),k (l 3) (l 6) f,m (l 7)] [(2,8)] [1]
def O3:BD:=⟨3,1,[0],0,false,[],j (d (Mv 0)) (j (d (Mv 1)) (.ret)),[.slot 2]⟩
def Acu:List Tmp:=[0,1,2]
def Cw:Nat→Bz
 |0=>R 0 [m f] [] [1]
 |1=>R 1 [m (i 0)] [(2,0)] []
 |2=>R 2 [m (s 2),m (s 0),e (l 1),y .lss (l 0) (l 2)] [(3,3)] []
 |3=>R 4 [m (s 0),m (s 2),A 1 (l 0) (l 1),L (l 2),C 217 [r (l 3)] [],n (l 4)] [(4,5)] []
 |4=>R 5 [m f] [(1,0)] [0,2]
 |5=>R 3 [m (s 2),y .add (l 0) (i 1),m (l 1)] [(2,2)] []
 |_=>R 6 [m (s 0),e (l 0),y .leq (l 1) (i 12),m (l 2)] [(1,3)] [0,2]
def J2:BD:=⟨5,0,[0],0,false,[],j (d (Cw 0)) (j (j (d (Cw 1)) (.block 0 (.loop (j (j (d (Cw 2)) (h 3 (.skip) (.exit 0))) (j (.block 1 (j (d (Cw 3)) (h 4 (j (d (Cw 4)) (.ret)) (.skip)))) (d (Cw 5))))))) (j (d (Cw 6)) (.ret))),[.slot 1]⟩
def Uv:List Tmp:=[0,2,3,7,15]
def K6:Nat→Bz
 |0=>R 0 [m (i 0)] [] [2]
 |_=>R 1 [m (s 0),M 0 1 1 [l 0],m (s 1),q 1 1 8 (l 1) (l 2),m (s 0),M 2 1 1 [l 4],q 3 1 8 (l 3) (l 5),C 338 [r (l 6)] [],m (l 7)] [(2,8)] [0,1]
def Ns:BD:=⟨3,4,[0,1],0,false,[],j (d (K6 0)) (j (d (K6 1)) (.ret)),[.slot 2]⟩
def Aai:List Tmp:=[0,1,4]
def Bp:Nat→Bz
 |0=>R 0 [m (i 0)] [] [1]
 |1=>R 1 [m (i 1)] [(2,0)] []
 |2=>R 2 [m (s 0),C 334 [r (l 0)] [],n (l 1)] [(4,2)] []
 |3=>R 3 [m (i 0)] [(1,0)] [0,2]
 |4=>R 4 [m (i 0)] [(3,0)] []
 |5=>R 5 [m (s 3),m (s 0),e (l 1),y .lss (l 0) (l 2)] [(5,3)] []
 |6=>Y 7 [D (m (s 2)) [] [],D (m (s 0)) [] [],D (m (s 3)) [] [],D (A 1 (l 1) (l 2)) [] [],D (L (l 3)) [] [],D (e (l 4)) [] [],D (M 0 1 2 [l 0,l 5]) [0] [0],D (m (s 0)) [] [],D (m (s 3)) [] [],D (A 1 (l 7) (l 8)) [] [],D (L (l 9)) [] [],D (q 1 1 8 (l 6) (l 10)) [0,1] [0,1],D (C 338 [r (l 11)] []) [1] [],D (m (l 12)) [] []] [(2,13)] [] [0,1] []
 |7=>R 6 [m (s 3),y .add (l 0) (i 1),m (l 1)] [(3,2)] []
 |_=>R 8 [m (s 2),m (l 0)] [(1,1)] [0,2,3]
def Ib:BD:=⟨6,2,[0],0,false,[],j (d (Bp 0)) (j (d (Bp 1)) (j (j (d (Bp 2)) (h 4 (j (d (Bp 3)) (.ret)) (.skip))) (j (j (d (Bp 4)) (.block 0 (.loop (j (j (d (Bp 5)) (h 5 (.skip) (.exit 0))) (j (.block 1 (d (Bp 6))) (d (Bp 7))))))) (j (d (Bp 8)) (.ret))))),[.slot 1]⟩
def TU:List Tmp:=[0,2,3,4,7,11]
def BM:Nat→Bz
 |0=>R 0 [m (z 1),m f] [] [1,2]
 |1=>R 1 [m (s 0),C 312 [r (l 0)] [],n (l 1)] [(5,2)] []
 |2=>R 2 [M 0 1 0 [],m (l 0),m f] [(1,1),(2,2)] [0]
 |3=>Q 3 [m (s 0),e (l 0),M 1 1 1 [l 1],m (l 2)] [(3,3)] [] [] [w 1 5]
 |4=>R 4 [m (i 0)] [(4,0)] []
 |5=>R 5 [m (s 4),m (s 0),e (l 1),y .lss (l 0) (l 2)] [(6,3)] []
 |6=>Y 7 [D (m (s 3)) [] [],D (m (s 0)) [] [],D (m (s 4)) [] [],D (A 2 (l 1) (l 2)) [] [],D (F (l 3) 0) [] [],D (L (l 4)) [] [],D (m (s 0)) [] [],D (m (s 4)) [] [],D (A 2 (l 6) (l 7)) [] [],D (F (l 8) 1) [] [],D (L (l 9)) [] [],D (e (l 10)) [] [],D (M 2 1 2 [l 5,l 11]) [2] [2],D (q 3 1 8 (l 0) (l 12)) [2,3,5] [3,5],D (m (l 13)) [] []] [(3,14)] [] [2,3] [w 3 5]
 |7=>Q 8 [m (s 3),m (s 0),m (s 4),A 2 (l 1) (l 2),F (l 3) 1,L (l 4),q 4 1 8 (l 0) (l 5),m (l 6)] [(3,7)] [] [4] [w 4 5]
 |8=>R 6 [m (s 4),y .add (l 0) (i 1),m (l 1)] [(4,2)] []
 |_=>R 9 [m (s 3),m (l 0),m t] [(1,1),(2,2)] [0,3,4]
def LX:BD:=⟨7,6,[0],0,false,[],j (d (BM 0)) (j (j (d (BM 1)) (h 5 (j (d (BM 2)) (.ret)) (.skip))) (j (d (BM 3)) (j (j (d (BM 4)) (.block 0 (.loop (j (j (d (BM 5)) (h 6 (.skip) (.exit 0))) (j (.block 1 (j (d (BM 6)) (d (BM 7)))) (d (BM 8))))))) (j (d (BM 9)) (.ret))))),[.slot 1,.slot 2]⟩
def Xz:List Tmp:=[0,2,3,4,5,8,16]
def Nb:Nat→Bz
 |0=>R 0 [m (i 0)] [] [2]
 |1=>R 1 [m (s 1),C 71 [r (l 0),r (i 1),r (i 1000000000000)] [],n (l 1)] [(3,2)] []
 |2=>R 2 [m (i 0)] [(2,0)] [0,1]
 |_=>R 3 [m (s 0),m (s 1),y .rem (l 0) (l 1),m (s 1),y .add (l 2) (l 3),m (s 1),y .rem (l 4) (l 5),m (l 6)] [(2,7)] [0,1]
def Ab9:BD:=⟨4,0,[0,1],0,false,[],j (d (Nb 0)) (j (j (d (Nb 1)) (h 3 (j (d (Nb 2)) (.ret)) (.skip))) (j (d (Nb 3)) (.ret))),[.slot 2]⟩
def Ant:List Tmp:=[0,1,4,7]
def F5:Nat→Bz
 |0=>R 0 [m (i 0)] [] [1]
 |1=>R 1 [m (i 11)] [(2,0)] []
 |2=>R 2 [m (i 0)] [(3,0)] []
 |3=>R 3 [m (s 3),m (s 0),e (l 1),y .lss (l 0) (l 2)] [(4,3)] []
 |4=>R 5 [m (s 2),y .mul (l 0) (i 1000003),m (s 0),m (s 3),A 1 (l 2) (l 3),L (l 4),C 339 [r (l 5),r (i 2147483647)] [],y .add (l 1) (l 6),y .add (l 7) (i 13),y .rem (l 8) (i 2147483647),m (l 9)] [(2,10)] []
 |5=>R 4 [m (s 3),y .add (l 0) (i 1),m (l 1)] [(3,2)] []
 |_=>R 6 [m (s 2),m (l 0)] [(1,1)] [0,2,3]
def YA:BD:=⟨5,0,[0],0,false,[],j (d (F5 0)) (j (d (F5 1)) (j (j (d (F5 2)) (.block 0 (.loop (j (j (d (F5 3)) (h 4 (.skip) (.exit 0))) (j (.block 1 (d (F5 4))) (d (F5 5))))))) (j (d (F5 6)) (.ret)))),[.slot 1]⟩
def AkS:List Tmp:=[0,2,3,4,8]
def Ji:Nat→Bz
 |0=>R 0 [x 0 (s 0),x 1 (s 1),m f] [(2,0),(3,1)] [0,1,4]
 |_=>R 1 [F (s 2) 0,L (l 0),F (s 3) 0,L (l 2),C 357 [r (l 1),r (l 3)] [],m (l 4),J 5 (F (s 2) 1),J 5 (L (l 6)),J 5 (F (s 3) 1),J 5 (L (l 8)),J 5 (C 358 [r (l 7),r (l 9)] []),k (l 5) (l 10) f,m (l 11)] [(4,12)] [2,3]
def KH:BD:=⟨5,2,[0,1],0,false,[],j (d (Ji 0)) (j (d (Ji 1)) (.ret)),[.slot 4]⟩
def Wo:List Tmp:=[0,1,2,3,4]
def EY:Nat→Bz
 |0=>R 0 [x 0 (s 0),x 1 (s 2),a 2 [N 1,N 2],m f] [(3,0),(4,1),(5,2)] [0,2,6]
 |1=>R 1 [F (s 3) 0,L (l 0),m (s 1),C 189 [r (l 1),r (l 2)] [3],m (l 3)] [(7,4)] [1]
 |2=>R 2 [P 2 (s 3),C 292 [r (l 0)] [],n (l 1),m (l 2),G 3 (m (s 7)),G 3 (e (l 4)),G 3 (y .eql (l 5) (i 0)),k (l 3) t (l 6)] [(8,7)] []
 |3=>R 3 [b [N 1,N 2] [],W 2 (s 5) (l 0),m f] [(6,2)] [3,4,7]
 |_=>R 4 [m (s 7),F (s 3) 1,L (l 1),Hw.makeFunc 359 [s 4],C 298 [r (l 2),r (l 3)] [4],b [N 1,N 2] [(0,1,l 0),(1,1,l 4)],W 2 (s 5) (l 5),m t] [(6,7)] [3,4,7]
def Nt:BD:=⟨9,5,[0,1,2],0,false,[],j (d (EY 0)) (j (d (EY 1)) (j (j (d (EY 2)) (h 8 (j (d (EY 3)) (.ret)) (.skip))) (j (d (EY 4)) (.ret)))),[.cell 5 (some 2),.slot 6]⟩
def Zx:List Tmp:=[0,1,2,3,5,6,7,8,20]
def BV:Nat→Bz
 |0=>R 0 [m (z 1)] [] [3]
 |1=>Q 1 [M 0 1 0 [],m (l 0)] [(4,1)] [] [] [w 0 5]
 |2=>R 2 [m (s 0),m (s 1),C 360 [r (l 0),r (l 1)] [],n (l 2),m (l 3),G 4 (m (s 2)),G 4 (C 320 [r (l 5)] []),G 4 (n (l 6)),k (l 4) t (l 7)] [(6,8)] []
 |3=>R 3 [m (s 4),m (l 0)] [(3,1)] [0,1,2,4]
 |4=>R 4 [m (s 2),e (l 0),m (i 0)] [(7,0),(8,1),(9,2)] [2]
 |5=>R 5 [y .lss (s 9) (s 8)] [(10,0)] []
 |6=>Q 6 [A 2 (s 7) (s 9),P 2 (l 0),a 1 [o,N 1],W 2 (l 2) (l 1)] [(5,2)] [] [1] []
 |7=>Y 7 [D (m (s 1)) [] [],D (.slice 1 (l 0) none (some (i 1))) [] [],D (P 2 (s 5)) [1] [],D (M 2 2 1 [l 2]) [2] [2],D (b [N 1,N 2] [(0,1,l 1),(1,1,l 3)]) [] [],D (m (s 0)) [] [],D (C 314 [r (l 4),r (l 5)] []) [2] [],D (n (l 6)) [] []] [(11,7)] [] [2] []
 |8=>Q 8 [m (s 4),F (s 5) 0,L (l 1),M 3 1 1 [l 2],q 4 1 8 (l 0) (l 3),m (l 4)] [(4,5)] [5] [3,4] [w 4 5]
 |9=>R 9 [y .add (s 9) (i 1),m (l 0)] [(9,1)] []
 |_=>R 10 [m (s 4),m (l 0)] [(3,1)] [0,1,4,7,8,9]
def OU:BD:=⟨12,6,[0,1,2],0,false,[],j (d (BV 0)) (j (d (BV 1)) (j (j (d (BV 2)) (h 6 (j (d (BV 3)) (.ret)) (.skip))) (j (j (d (BV 4)) (.block 0 (.loop (j (d (BV 5)) (j (h 10 (.skip) (.exit 0)) (j (.block 1 (j (d (BV 6)) (j (d (BV 7)) (h 11 (d (BV 8)) (.skip))))) (d (BV 9)))))))) (j (d (BV 10)) (.ret))))),[.slot 3]⟩
def AaL:List Tmp:=[0,1,2,6,7,9,19,21,22,23,24,34]
def Ef:Nat→Bz
 |0=>R 0 [x 0 (s 2),a 1 [o,N 2],m f] [(3,0),(4,1)] [2,5]
 |1=>R 1 [m (s 0),F (s 3) 0,L (l 1),C 190 [r (l 0),r (l 2)] [],m (l 3)] [(6,4)] [0]
 |2=>R 2 [P 2 (s 3),C 292 [r (l 0)] [],n (l 1),m (l 2),G 3 (m (s 6)),G 3 (y .eql (l 4) (i 0)),k (l 3) t (l 5)] [(7,6)] []
 |3=>R 3 [b [o,N 2] [],W 2 (s 4) (l 0),m f] [(5,2)] [1,3,6]
 |_=>R 4 [m (s 6),F (s 3) 1,L (l 1),m (s 1),C 361 [r (l 2),r (l 3)] [2],C 362 [r (l 4)] [3],b [o,N 2] [(0,1,l 0),(1,1,l 5)],W 2 (s 4) (l 6),m t] [(5,8)] [1,3,6]
def JK:BD:=⟨8,4,[0,1,2],0,false,[],j (d (Ef 0)) (j (d (Ef 1)) (j (j (d (Ef 2)) (h 7 (j (d (Ef 3)) (.ret)) (.skip))) (j (d (Ef 4)) (.ret)))),[.cell 4 (some 2),.slot 5]⟩
def U9:List Tmp:=[0,1,2,5,6,7,8,19]
def Gv:Nat→Bz
 |0=>R 0 [m (i 0)] [] [3]
 |1=>R 1 [m (s 0),C 236 [r (l 0)] [],n (l 1),m (l 2),G 3 (m (s 1)),G 3 (C 364 [r (l 4)] []),G 3 (n (l 5)),k (l 3) t (l 6),m (l 7),G 8 (m (s 2)),G 8 (C 114 [r (l 9),r (i 0),r (i 1)] []),G 8 (n (l 10)),k (l 8) t (l 11)] [(4,12)] []
 |2=>R 2 [m (i 0)] [(3,0)] [0,1,2]
 |_=>R 3 [m (s 0),m (s 2),m (s 1),C 365 [r (l 2)] [],M 0 1 2 [l 1,l 3],C 366 [r (l 0),r (l 4)] [],m (l 5)] [(3,6)] [0,1,2]
def PV:BD:=⟨5,1,[0,1,2],0,false,[],j (d (Gv 0)) (j (j (d (Gv 1)) (h 4 (j (d (Gv 2)) (.ret)) (.skip))) (j (d (Gv 3)) (.ret))),[.slot 3]⟩
def Ab8:List Tmp:=[0,1,2,6,19]
def EI:Nat→Bz
 |0=>R 0 [x 0 (s 0),m (z 1)] [(1,0)] [0,2]
 |1=>R 1 [P 2 (s 1),C 292 [r (l 0)] [],n (l 1)] [(4,2)] []
 |2=>R 2 [m (z 1)] [(2,0)] [1]
 |3=>R 3 [F (s 1) 1,L (l 0),C 367 [r (l 1)] [1],m (l 2),X (l 3) 0,X (l 3) 1,m (l 4),m (l 5)] [(3,6)] []
 |_=>R 4 [F (s 1) 0,L (l 0),e (l 1),M 2 1 1 [l 2],F (s 1) 0,L (l 4),m (s 3),M 3 1 3 [l 3,l 5,l 6],C 368 [r (l 7)] [4],m (l 8)] [(2,9)] [1,3]
def ML:BD:=⟨5,5,[0],0,false,[],j (d (EI 0)) (j (j (d (EI 1)) (h 4 (j (d (EI 2)) (.ret)) (.skip))) (j (d (EI 3)) (j (d (EI 4)) (.ret)))),[.slot 2]⟩
def Xh:List Tmp:=[0,1,2,3,7]
def Er:Nat→Bz
 |0=>R 0 [x 0 (s 0),m (z 1)] [(1,0)] [0,2]
 |1=>R 1 [P 2 (s 1),C 369 [r (l 0)] [],n (l 1)] [(4,2)] []
 |2=>R 2 [m (z 1)] [(2,0)] [1]
 |3=>R 3 [F (s 1) 1,L (l 0),C 367 [r (l 1)] [1],m (l 2),X (l 3) 0,X (l 3) 1,m (l 4),m (l 5)] [(3,6)] []
 |_=>R 4 [F (s 1) 0,L (l 0),M 2 1 1 [l 1],m (s 3),q 3 1 8 (l 2) (l 3),m (l 4)] [(2,5)] [1,3]
def KS:BD:=⟨5,4,[0],0,false,[],j (d (Er 0)) (j (j (d (Er 1)) (h 4 (j (d (Er 2)) (.ret)) (.skip))) (j (d (Er 3)) (j (d (Er 4)) (.ret)))),[.slot 2]⟩
def V6:List Tmp:=[0,1,2,3,7]
def KR:Nat→Bz
 |0=>R 0 [x 0 (s 0),x 1 (s 1),m f] [(2,0),(3,1)] [0,1,4]
 |_=>T 1 (.append [D (P 2 (s 2)) [0] [],D (C 292 [r (l 0)] []) [] [],D (m (l 1)) [] [],K 2 (P 2 (s 3)) [1] [],K 2 (C 369 [r (l 3)] []) [] [],D (k (l 2) (l 4) f) [] [],D (m (l 5)) [] [],K 6 (F (s 2) 0) [] [],K 6 (L (l 7)) [0] [],K 6 (F (s 3) 0) [] [],K 6 (L (l 9)) [1] [],K 6 (C 188 [r (l 8),r (l 10)] []) [] [],D (k (l 6) (l 11) f) [] [],D (m (l 12)) [] [],K 13 (F (s 3) 1) [] [],K 13 (L (l 14)) [1] [],K 13 (C 317 [r (l 15)] [2]) [2] [2],K 13 (F (s 2) 1) [] [],K 13 (L (l 17)) [0] [],K 13 (C 317 [r (l 18)] [3]) [3] [3],K 13 (C 189 [r (l 16),r (l 19)] [4]) [2,3,4] [4],K 13 (e (l 20)) [4] [],K 13 (y .eql (l 21) (i 0)) [] [],D (k (l 13) (l 22) f) [] [],D (m (l 23)) [] [],K 24 (F (s 3) 1) [] [],K 24 (L (l 25)) [1] [],K 24 (C 370 [r (l 26)] []) [] [],K 24 (n (l 27)) [] [],D (k (l 24) (l 28) f) [] []] [D (m (l 29)) [] []]) [(4,30)] [2,3]
def NW:BD:=⟨5,5,[0,1],0,false,[],j (d (KR 0)) (j (d (KR 1)) (.ret)),[.slot 4]⟩
def ZP:List Tmp:=[0,1,2,3,4]
def KF:Nat→Bz
 |0=>R 0 [m f] [] [4]
 |_=>R 1 [m (s 3),y .neq (l 0) (i 0),m (l 1),J 2 (m (s 3)),J 2 (m (s 0)),J 2 (m (s 1)),J 2 (m (s 2)),J 2 (C 347 [r (l 4),r (l 5),r (l 6)] []),J 2 (y .eql (l 3) (l 7)),k (l 2) (l 8) f,m (l 9)] [(4,10)] [0,1,2,3]
def NQ:BD:=⟨5,0,[0,1,2,3],0,false,[],j (d (KF 0)) (j (d (KF 1)) (.ret)),[.slot 4]⟩
def Aad:List Tmp:=[0,1,2,3,8]
def Ni:Nat→Bz
 |0=>R 0 [m (i 0)] [] [2]
 |1=>R 1 [m (s 1),C 114 [r (l 0),r (i 1),r (i 1000000000000)] [],n (l 1)] [(3,2)] []
 |2=>R 2 [m (i 0)] [(2,0)] [0,1]
 |_=>R 3 [m (s 0),m (s 1),y .rem (l 0) (l 1),m (s 1),y .add (l 2) (l 3),m (s 1),y .rem (l 4) (l 5),m (l 6)] [(2,7)] [0,1]
def AaW:BD:=⟨4,0,[0,1],0,false,[],j (d (Ni 0)) (j (j (d (Ni 1)) (h 3 (j (d (Ni 2)) (.ret)) (.skip))) (j (d (Ni 3)) (.ret))),[.slot 2]⟩
def AnN:List Tmp:=[0,1,4,7]
def Fp:Nat→Bz
 |0=>R 0 [m (i 0)] [] [1]
 |1=>R 1 [m (i 11)] [(2,0)] []
 |2=>R 2 [m (s 0),e (l 0),m (i 0)] [(4,0),(5,1),(6,2)] [0]
 |3=>R 3 [y .lss (s 6) (s 5)] [(7,0)] []
 |4=>R 4 [A 1 (s 4) (s 6),L (l 0),m (l 1)] [(3,2)] []
 |5=>R 5 [m (s 2),y .mul (l 0) (i 1000003),m (s 3),C 354 [r (l 2),r (i 2147483647)] [],y .add (l 1) (l 3),y .add (l 4) (i 13),y .rem (l 5) (i 2147483647),m (l 6)] [(2,7)] [3]
 |6=>R 6 [y .add (s 6) (i 1),m (l 0)] [(6,1)] []
 |_=>R 7 [m (s 2),m (l 0)] [(1,1)] [2,4,5,6]
def Yo:BD:=⟨8,0,[0],0,false,[],j (d (Fp 0)) (j (d (Fp 1)) (j (j (d (Fp 2)) (.block 0 (.loop (j (d (Fp 3)) (j (h 7 (.skip) (.exit 0)) (j (.block 1 (j (d (Fp 4)) (d (Fp 5)))) (d (Fp 6)))))))) (j (d (Fp 7)) (.ret)))),[.slot 1]⟩
def Al0:List Tmp:=[0,2,3,5,6,7,8,9]
def Cn:Nat→Bz
 |0=>R 0 [m f] [] [2]
 |1=>R 1 [m (s 0),e (l 0),m (s 1),e (l 2),y .neq (l 1) (l 3)] [(4,4)] []
 |2=>R 2 [m f] [(2,0)] [0,1]
 |3=>R 3 [m (i 0)] [(3,0)] []
 |4=>R 4 [m (s 3),m (s 0),e (l 1),y .lss (l 0) (l 2)] [(5,3)] []
 |5=>T 6 [D (m (s 0)) [] [],D (m (s 3)) [] [],D (A 1 (l 0) (l 1)) [] [],D (L (l 2)) [] [],D (m (s 1)) [] [],D (m (s 3)) [] [],D (A 1 (l 4) (l 5)) [] [],D (L (l 6)) [] [],D (y .neq (l 3) (l 7)) [] []] [(6,8)] []
 |6=>R 7 [m f] [(2,0)] [0,1,3]
 |7=>R 5 [m (s 3),y .add (l 0) (i 1),m (l 1)] [(3,2)] []
 |_=>R 8 [m t] [(2,0)] [0,1,3]
def Nz:BD:=⟨7,0,[0,1],0,false,[],j (d (Cn 0)) (j (j (d (Cn 1)) (h 4 (j (d (Cn 2)) (.ret)) (.skip))) (j (j (d (Cn 3)) (.block 0 (.loop (j (j (d (Cn 4)) (h 5 (.skip) (.exit 0))) (j (.block 1 (j (d (Cn 5)) (h 6 (j (d (Cn 6)) (.ret)) (.skip)))) (d (Cn 7))))))) (j (d (Cn 8)) (.ret)))),[.slot 2]⟩
def Y8:List Tmp:=[0,1,4,5,10,14,25]
def Cm:Nat→Bz
 |0=>R 0 [m f] [] [2]
 |1=>R 1 [m (s 0),e (l 0),m (s 1),e (l 2),y .neq (l 1) (l 3)] [(4,4)] []
 |2=>R 2 [m f] [(2,0)] [0,1]
 |3=>R 3 [m (i 0)] [(3,0)] []
 |4=>R 4 [m (s 3),m (s 0),e (l 1),y .lss (l 0) (l 2)] [(5,3)] []
 |5=>T 6 [D (m (s 0)) [] [],D (m (s 3)) [] [],D (A 2 (l 0) (l 1)) [] [],D (F (l 2) 0) [] [],D (L (l 3)) [] [],D (m (s 1)) [] [],D (m (s 3)) [] [],D (A 2 (l 5) (l 6)) [] [],D (F (l 7) 0) [] [],D (L (l 8)) [] [],D (y .neq (l 4) (l 9)) [] [],D (m (l 10)) [] [],H 11 (m (s 0)) [] [],H 11 (m (s 3)) [] [],H 11 (A 2 (l 12) (l 13)) [] [],H 11 (F (l 14) 1) [] [],H 11 (L (l 15)) [] [],H 11 (m (s 1)) [] [],H 11 (m (s 3)) [] [],H 11 (A 2 (l 17) (l 18)) [] [],H 11 (F (l 19) 1) [] [],H 11 (L (l 20)) [] [],H 11 (C 355 [r (l 16),r (l 21)] []) [] [],H 11 (n (l 22)) [] [],D (k (l 11) t (l 23)) [] []] [(6,24)] []
 |6=>R 7 [m f] [(2,0)] [0,1,3]
 |7=>R 5 [m (s 3),y .add (l 0) (i 1),m (l 1)] [(3,2)] []
 |_=>R 8 [m t] [(2,0)] [0,1,3]
def ND:BD:=⟨7,0,[0,1],0,false,[],j (d (Cm 0)) (j (j (d (Cm 1)) (h 4 (j (d (Cm 2)) (.ret)) (.skip))) (j (j (d (Cm 3)) (.block 0 (.loop (j (j (d (Cm 4)) (h 5 (.skip) (.exit 0))) (j (.block 1 (j (d (Cm 5)) (h 6 (j (d (Cm 6)) (.ret)) (.skip)))) (d (Cm 7))))))) (j (d (Cm 8)) (.ret)))),[.slot 2]⟩
def AaI:List Tmp:=[0,1,4,5,10,14,41]
def AO:Nat→Bz
 |0=>R 0 [m f] [] [2]
 |1=>R 1 [m (s 0),e (l 0),m (s 1),e (l 2),y .neq (l 1) (l 3)] [(4,4)] []
 |2=>R 2 [m f] [(2,0)] [0,1]
 |3=>R 3 [m (s 0),e (l 0),m (i 0)] [(5,1),(6,2)] []
 |4=>R 4 [y .lss (s 6) (s 5)] [(7,0)] []
 |5=>R 5 [m (s 6),m (l 0)] [(3,1)] []
 |6=>T 6 [D (m (s 0)) [] [],D (m (s 3)) [] [],D (A 1 (l 0) (l 1)) [] [],D (L (l 2)) [] [],D (m (s 1)) [] [],D (m (s 3)) [] [],D (A 1 (l 4) (l 5)) [] [],D (L (l 6)) [] [],D (y .neq (l 3) (l 7)) [] []] [(8,8)] [3]
 |7=>R 7 [m f] [(2,0)] [0,1,5,6]
 |8=>R 8 [y .add (s 6) (i 1),m (l 0)] [(6,1)] []
 |_=>R 9 [m t] [(2,0)] [0,1,5,6]
def Gd:BD:=⟨9,0,[0,1],0,false,[],j (d (AO 0)) (j (j (d (AO 1)) (h 4 (j (d (AO 2)) (.ret)) (.skip))) (j (j (d (AO 3)) (.block 0 (.loop (j (d (AO 4)) (j (h 7 (.skip) (.exit 0)) (j (.block 1 (j (d (AO 5)) (j (d (AO 6)) (h 8 (j (d (AO 7)) (.ret)) (.skip))))) (d (AO 8)))))))) (j (d (AO 9)) (.ret)))),[.slot 2]⟩
def PI:List Tmp:=[0,1,4,5,10,12,13,14,24]
def Kz:Nat→Bz
 |0=>R 0 [m f] [] [2]
 |_=>R 1 [m (s 0),m (s 1),C 372 [r (l 0),r (l 1),r (g 371)] [],m (l 2)] [(2,3)] [0,1]
def NG:BD:=⟨3,0,[0,1],0,false,[],j (d (Kz 0)) (j (d (Kz 1)) (.ret)),[.slot 2]⟩
def Zo:List Tmp:=[0,1,4]
def I8:Nat→Bz
 |0=>R 0 [m f] [] [2]
 |_=>R 1 [L (s 1),m (s 0),C 188 [r (l 0),r (l 1)] [],n (l 2),m (l 3)] [(2,4)] [0,1]
def KT:BD:=⟨3,0,[0,1],0,false,[],j (d (I8 0)) (j (d (I8 1)) (.ret)),[.slot 2]⟩
def WH:List Tmp:=[0,1,3]
def ED:Nat→Bz
 |0=>R 0 [m f] [] [2]
 |1=>R 1 [m (s 1),C 232 [r (l 0)] [],n (l 1)] [(4,2)] []
 |2=>R 2 [m f] [(2,0)] [0,1]
 |3=>R 3 [m (s 0),m (s 1),Hw.slice 1 (l 1) none (some (i 1)),C 273 [r (l 2)] [0,1],C 274 [r (l 0),r (l 3)] [2,3],m (l 4),X (l 5) 0,X (l 5) 1,a 4 [N 1,N 2],W 2 (l 8) (l 6),m (l 7)] [(3,10)] [0,1]
 |_=>R 4 [m (s 3),m (l 0)] [(2,1)] [3]
def LK:BD:=⟨5,5,[0,1],0,false,[],j (d (ED 0)) (j (j (d (ED 1)) (h 4 (j (d (ED 2)) (.ret)) (.skip))) (j (d (ED 3)) (j (d (ED 4)) (.ret)))),[.slot 2]⟩
def XH:List Tmp:=[0,1,4,6,9]
def Jf:Nat→Bz
 |0=>R 0 [m (z 2)] [] [1]
 |_=>R 1 [m (s 0),C 298 [r (l 0),r (g 373)] [0],m (l 1)] [(1,2)] [0]
def La:BD:=⟨2,1,[0],0,false,[],j (d (Jf 0)) (j (d (Jf 1)) (.ret)),[.slot 1]⟩
def WC:List Tmp:=[0,2]
def NV:Nat→Bz
 |0=>R 0 [x 0 (s 1),m (z 2)] [(2,0)] [1,3]
 |_=>R 1 [m (s 0),Hw.makeFunc 374 [s 2],C 298 [r (l 0),r (l 1)] [1],m (l 2)] [(3,3)] [0,2]
def QS:BD:=⟨4,2,[0,1],0,false,[],j (d (NV 0)) (j (d (NV 1)) (.ret)),[.slot 3]⟩
def AdG:List Tmp:=[0,1,3,4]
def H9:Nat→Bz
 |0=>R 0 [m f] [] [1]
 |_=>R 1 [m (s 0),e (l 0),y .leq (l 1) (i 12),m (l 2),J 3 (m (s 0)),J 3 (C 269 [r (l 4),r (g 375)] []),J 3 (n (l 5)),k (l 3) (l 6) f,m (l 7)] [(1,8)] [0]
def JS:BD:=⟨2,0,[0],0,false,[],j (d (H9 0)) (j (d (H9 1)) (.ret)),[.slot 1]⟩
def U5:List Tmp:=[0,2]
def Lg:Nat→Bz
 |0=>R 0 [m (i 0)] [] [2]
 |_=>R 1 [m (s 0),M 0 1 1 [l 0],m (s 1),m (s 0),M 1 1 1 [l 3],M 2 1 3 [l 1,l 2,l 4],C 368 [r (l 5)] [3],C 353 [r (l 6)] [],m (l 7)] [(2,8)] [0,1]
def Nn:BD:=⟨3,4,[0,1],0,false,[],j (d (Lg 0)) (j (d (Lg 1)) (.ret)),[.slot 2]⟩
def Aae:List Tmp:=[0,1,4]
def Bb:Nat→Bz
 |0=>R 0 [m (i 0)] [] [1]
 |1=>R 1 [m (s 0),C 364 [r (l 0)] [],n (l 1)] [(4,2)] []
 |2=>R 2 [m (i 0)] [(1,0)] [0]
 |3=>R 3 [m (i 1)] [(2,0)] []
 |4=>R 4 [m (s 0),e (l 0),m (i 0)] [(5,0),(6,1),(7,2)] [0]
 |5=>R 5 [y .lss (s 7) (s 6)] [(8,0)] []
 |6=>R 6 [A 1 (s 5) (s 7),L (l 0),m (l 1)] [(3,2)] []
 |7=>Q 7 [m (s 2),m (s 3),e (l 1),M 0 1 2 [l 0,l 2],m (s 3),q 1 1 8 (l 3) (l 4),C 353 [r (l 5)] [],m (l 6)] [(2,7)] [3] [0,1] []
 |8=>R 8 [y .add (s 7) (i 1),m (l 0)] [(7,1)] []
 |_=>R 9 [m (s 2),m (l 0)] [(1,1)] [2,5,6,7]
def HY:BD:=⟨9,2,[0],0,false,[],j (d (Bb 0)) (j (j (d (Bb 1)) (h 4 (j (d (Bb 2)) (.ret)) (.skip))) (j (d (Bb 3)) (j (j (d (Bb 4)) (.block 0 (.loop (j (d (Bb 5)) (j (h 8 (.skip) (.exit 0)) (j (.block 1 (j (d (Bb 6)) (d (Bb 7)))) (d (Bb 8)))))))) (j (d (Bb 9)) (.ret))))),[.slot 1]⟩
def SG:List Tmp:=[0,2,3,5,8,9,10,11,12]
def BK:Nat→Bz
 |0=>R 0 [m (z 1),m f] [] [1,2]
 |1=>R 1 [m (s 0),C 320 [r (l 0)] [],n (l 1)] [(5,2)] []
 |2=>R 2 [m (z 1),m f] [(1,0),(2,1)] [0]
 |3=>Q 3 [m (s 0),e (l 0),M 0 1 1 [l 1],m (l 2)] [(3,3)] [] [] [w 0 5]
 |4=>R 4 [m (s 0),e (l 0),m (i 0)] [(6,0),(7,1),(8,2)] [0]
 |5=>R 5 [y .lss (s 8) (s 7)] [(9,0)] []
 |6=>Q 6 [A 2 (s 6) (s 8),P 2 (l 0),a 1 [o,N 1],W 2 (l 2) (l 1)] [(4,2)] [] [1] []
 |7=>Y 7 [D (m (s 3)) [] [],D (F (s 4) 0) [] [],D (L (l 1)) [1] [],D (F (s 4) 1) [] [],D (L (l 3)) [1] [],D (e (l 4)) [] [],D (M 2 1 2 [l 2,l 5]) [2] [2],D (q 3 1 8 (l 0) (l 6)) [2,3,5] [3,5],D (F (s 4) 1) [] [],D (L (l 8)) [1] [],D (q 4 1 8 (l 7) (l 9)) [3,4] [3,4],D (m (l 10)) [] []] [(3,11)] [4] [2,3,4] [w 4 5]
 |8=>R 8 [y .add (s 8) (i 1),m (l 0)] [(8,1)] []
 |_=>R 9 [m (s 3),m (l 0),m t] [(1,1),(2,2)] [3,6,7,8]
def Ml:BD:=⟨10,6,[0],0,false,[],j (d (BK 0)) (j (j (d (BK 1)) (h 5 (j (d (BK 2)) (.ret)) (.skip))) (j (d (BK 3)) (j (j (d (BK 4)) (.block 0 (.loop (j (d (BK 5)) (j (h 9 (.skip) (.exit 0)) (j (.block 1 (j (d (BK 6)) (d (BK 7)))) (d (BK 8)))))))) (j (d (BK 9)) (.ret))))),[.slot 1,.slot 2]⟩
def XA:List Tmp:=[0,2,3,4,6,9,13,14,15,16]
def LW:Nat→Bz
 |0=>R 0 [x 0 (s 0),m f] [(1,0)] [0,2]
 |_=>R 1 [F (s 1) 0,L (l 0),C 114 [r (l 1),r (i 1),r (i 9)] [],m (l 2),J 3 (F (s 1) 1),J 3 (L (l 4)),J 3 (C 320 [r (l 5)] []),k (l 3) (l 6) f,m (l 7)] [(2,8)] [1]
def OZ:BD:=⟨3,1,[0],0,false,[],j (d (LW 0)) (j (d (LW 1)) (.ret)),[.slot 2]⟩
def AaV:List Tmp:=[0,1,2]
def Lr:Nat→Bz
 |0=>R 0 [m f] [] [1]
 |_=>R 1 [m (s 0),C 317 [r (l 0)] [0],C 270 [r (l 1)] [],m (l 2)] [(1,3)] [0]
def NA:BD:=⟨2,1,[0],0,false,[],j (d (Lr 0)) (j (d (Lr 1)) (.ret)),[.slot 1]⟩
def ZN:List Tmp:=[0,2]
def Ab:Nat→Bz
 |0=>R 0 [m f] [] [3]
 |1=>R 1 [m (s 0),e (l 0),m (s 1),e (l 2),y .neq (l 1) (l 3)] [(7,4)] []
 |2=>R 2 [m f] [(3,0)] [0,1,2]
 |3=>R 3 [m (s 0),e (l 0),m (i 0)] [(8,0),(9,1),(10,2)] [0]
 |4=>R 4 [y .lss (s 10) (s 9)] [(11,0)] []
 |5=>Q 5 [m (s 10),A 2 (s 8) (s 10),P 2 (l 1),a 0 [o,N 1],m (l 0),W 2 (l 3) (l 2)] [(4,4),(5,3)] [] [0] []
 |6=>Q 6 [m (s 1),m (s 4),A 2 (l 0) (l 1),P 2 (l 2),a 1 [o,N 1],W 2 (l 4) (l 3)] [(6,4)] [4] [1] []
 |7=>R 7 [m (s 2),P 2 (s 5),P 2 (s 6),Hw.callv (l 0) [r (l 1),r (l 2)] [],n (l 3)] [(12,4)] [5,6]
 |8=>R 8 [m f] [(3,0)] [1,2,8,9,10]
 |9=>R 9 [y .add (s 10) (i 1),m (l 0)] [(10,1)] []
 |_=>R 10 [m t] [(3,0)] [1,2,8,9,10]
def Bj:BD:=⟨13,2,[0,1,2],0,false,[],j (d (Ab 0)) (j (j (d (Ab 1)) (h 7 (j (d (Ab 2)) (.ret)) (.skip))) (j (j (d (Ab 3)) (.block 0 (.loop (j (d (Ab 4)) (j (h 11 (.skip) (.exit 0)) (j (.block 1 (j (d (Ab 5)) (j (d (Ab 6)) (j (d (Ab 7)) (h 12 (j (d (Ab 8)) (.ret)) (.skip)))))) (d (Ab 9)))))))) (j (d (Ab 10)) (.ret)))),[.slot 3]⟩
def Eu:List Tmp:=[0,1,2,6,7,8,9,14,15,16,17,18,30]
def Me:Nat→Bz
 |0=>R 0 [x 0 (s 0),x 1 (s 1),m f] [(2,0),(3,1)] [0,1,4]
 |_=>R 1 [F (s 2) 0,L (l 0),F (s 3) 0,L (l 2),y .eql (l 1) (l 3),m (l 4),J 5 (F (s 2) 1),J 5 (L (l 6)),J 5 (F (s 3) 1),J 5 (L (l 8)),J 5 (C 357 [r (l 7),r (l 9)] []),k (l 5) (l 10) f,m (l 11)] [(4,12)] [2,3]
def OY:BD:=⟨5,2,[0,1],0,false,[],j (d (Me 0)) (j (d (Me 1)) (.ret)),[.slot 4]⟩
def AbQ:List Tmp:=[0,1,2,3,4]
def Ho:Nat→Bz
 |0=>R 0 [m f] [] [1]
 |_=>R 1 [m (s 0),C 279 [r (l 0)] [],n (l 1),m (l 2)] [(1,3)] [0]
def Jj:BD:=⟨2,0,[0],0,false,[],j (d (Ho 0)) (j (d (Ho 1)) (.ret)),[.slot 1]⟩
def Uh:List Tmp:=[0,2]
def Ls:Nat→Bz
 |0=>R 0 [m f] [] [2]
 |_=>R 1 [L (s 1),m (s 0),C 188 [r (l 0),r (l 1)] [],m (l 2)] [(2,3)] [0,1]
def N7:BD:=⟨3,0,[0,1],0,false,[],j (d (Ls 0)) (j (d (Ls 1)) (.ret)),[.slot 2]⟩
def ZI:List Tmp:=[0,1,3]
def GJ:Nat→Bz
 |0=>R 0 [m f] [] [1]
 |_=>R 1 [m (s 0),C 233 [r (l 0),r (i 0),r (i 255)] [],n (l 1),m (l 2)] [(1,3)] [0]
def H6:BD:=⟨2,0,[0],0,false,[],j (d (GJ 0)) (j (d (GJ 1)) (.ret)),[.slot 1]⟩
def SE:List Tmp:=[0,2]
attribute [simp] Dk Pv EF Po Dm O0 BP K4 Bf Jh Td Yx NU Ra Gn TY Gt Sj FT Tt EX SX El Tz DJ TV BO MK Ec Pk BU O4 Dp Pq Fs Vf EP Fq EL Ux FB Uz DR Vd DN TM A9 Gb AP Rl Bn Q6 Ap QE Bo Lp E5 N9 BJ NP BH NE CW Lx Dw NK Dt NH Du NY Ca NZ Cs N8 Cq Np Bv Mc FK Pn Dg LV Ed PD Cj O8 CJ SB EU SF CY Nu JI LP PY Tf Gm Lm AY KV Aq Kv JM LH Eh Et JZ MF JU LY AU Fa Im JN Ri Vs QD UB EO Ta JH Ma Bw QX GV Q0 NS Q7 Nv Rh Jp Vw CR PX K3 Nq CV KP Es QJ Ch KD D5 Q9 Ct CF NR QR FE UG QT Uu Al Df Ob Q8 EJ MG Dh Rm BN LQ Bg Ms JX Mg DY Q5 JW MJ JO Mx Dq PU CS P8 Dl DT Cu CB Ik JY Au Ei Am Dc DX QN BZ J5 AZ JL EC MC CU PW J3 LU BG PN KO NC MI PZ ME Px NM QI J4 Mq D6 QZ ER Tq Ij Tn Iq TH G5 QM Nl QG MX AbC GZ QH IK XU Di QK M9 AbT IB Xl CG QW CO PO BS Ps DV Rb CQ Py FJ P7 Dj QL Gj Lc Dz Jg Eb JP Dv NJ Gp PE EH LJ Ep KQ KG Nr Hy TJ Gi KU FV I6 En Tp LA Nk HZ SK I9 KJ AQ Oa Bt O5 Ci Ll Mv O3 Cw J2 K6 Ns Bp Ib BM LX Nb Ab9 F5 YA Ji KH EY Nt BV OU Ef JK Gv PV EI ML Er KS KR NW KF NQ Ni AaW Fp Yo Cn Nz Cm ND AO Gd Kz NG I8 KT ED LK Jf La NV QS H9 JS Lg Nn Bb HY BK Ml LW OZ Lr NA Ab Bj Me OY Ho Jj Ls N7 GJ H6
end Go.Eng.T
namespace Go.Eng.T
abbrev AjY:Nat:=0
abbrev AtX:Nat:=1
abbrev AsU:Nat:=2
abbrev Au0:Nat:=3
abbrev Ard:Nat:=4
abbrev Ars:Nat:=5
abbrev AiM:Nat:=6
abbrev AiD:Nat:=7
abbrev AiP:Nat:=8
abbrev Arh:Nat:=9
abbrev ArX:Nat:=10
abbrev Ah0:Nat:=11
abbrev Aec:Nat:=12
abbrev Auz:Nat:=13
abbrev Axq:Nat:=14
abbrev AwE:Nat:=15
abbrev AzI:Nat:=16
abbrev ArB:Nat:=17
abbrev Avb:Nat:=18
abbrev Au2:Nat:=19
abbrev AuK:Nat:=20
abbrev AwD:Nat:=21
abbrev Ax4:Nat:=22
abbrev Ax2:Nat:=23
abbrev AxB:Nat:=24
abbrev AzH:Nat:=25
abbrev Axf:Nat:=26
abbrev Atf:Nat:=27
abbrev AxX:Nat:=28
abbrev Ayn:Nat:=29
abbrev AyI:Nat:=30
abbrev Az1:Nat:=31
abbrev ArO:Nat:=32
abbrev AuO:Nat:=33
abbrev Au5:Nat:=34
abbrev Auw:Nat:=35
abbrev Ao8:Nat:=36
abbrev Xb:Nat:=37
abbrev AuA:Nat:=38
abbrev Avc:Nat:=39
abbrev Ax9:Nat:=40
abbrev Asr:Nat:=41
abbrev AAR:Nat:=42
abbrev Atu:Nat:=43
abbrev Azm:Nat:=44
abbrev Ave:Nat:=45
abbrev ABX:Nat:=46
abbrev Ayz:Nat:=47
abbrev Ari:Nat:=48
abbrev AuY:Nat:=49
abbrev Aum:Nat:=50
abbrev Avg:Nat:=51
abbrev ES:Nat:=52
abbrev Wn:Nat:=53
abbrev YP:Nat:=54
abbrev Zz:Nat:=55
abbrev ZG:Nat:=56
abbrev UH:Nat:=57
abbrev AoY:Nat:=58
abbrev Art:Nat:=59
abbrev Arm:Nat:=60
abbrev ArW:Nat:=61
abbrev Aud:Nat:=62
abbrev AvW:Nat:=63
abbrev Aw0:Nat:=64
abbrev AzK:Nat:=65
abbrev Ayo:Nat:=66
abbrev AuN:Nat:=67
abbrev AwJ:Nat:=68
abbrev ArY:Nat:=69
abbrev Av0:Nat:=70
abbrev EA:Nat:=71
abbrev AwU:Nat:=72
abbrev Auo:Nat:=73
abbrev AuW:Nat:=74
abbrev Ava:Nat:=75
abbrev AsV:Nat:=76
abbrev Atn:Nat:=77
abbrev Aye:Nat:=78
abbrev Aul:Nat:=79
abbrev Avx:Nat:=80
abbrev ApD:Nat:=81
abbrev AuR:Nat:=82
abbrev Atx:Nat:=83
abbrev Axy:Nat:=84
abbrev Auc:Nat:=85
abbrev AoQ:Nat:=86
abbrev AvG:Nat:=87
abbrev Ara:Nat:=88
abbrev Ayg:Nat:=89
abbrev AAm:Nat:=90
abbrev Auj:Nat:=91
abbrev AxF:Nat:=92
abbrev Au3:Nat:=93
abbrev AtI:Nat:=94
abbrev Ax8:Nat:=95
abbrev Avh:Nat:=96
abbrev AuG:Nat:=97
abbrev Auh:Nat:=98
abbrev Axz:Nat:=99
abbrev Avs:Nat:=100
abbrev ArU:Nat:=101
abbrev Aqp:Nat:=102
abbrev At0:Nat:=103
abbrev AvV:Nat:=104
abbrev AaU:Nat:=105
abbrev Aw5:Nat:=106
abbrev AuT:Nat:=107
abbrev Au1:Nat:=108
abbrev AsN:Nat:=109
abbrev Ass:Nat:=110
abbrev AxZ:Nat:=111
abbrev Auq:Nat:=112
abbrev AwT:Nat:=113
abbrev CP:Nat:=114
abbrev Ar6:Nat:=115
abbrev AwW:Nat:=116
abbrev AlN:Nat:=117
abbrev AuC:Nat:=118
abbrev Ayk:Nat:=119
abbrev AuD:Nat:=120
abbrev As0:Nat:=121
abbrev Asg:Nat:=122
abbrev AxE:Nat:=123
abbrev Av1:Nat:=124
abbrev Aus:Nat:=125
abbrev AqE:Nat:=126
abbrev AuJ:Nat:=127
abbrev As4:Nat:=128
abbrev Axt:Nat:=129
abbrev AoZ:Nat:=130
abbrev Avm:Nat:=131
abbrev ArG:Nat:=132
abbrev Ax0:Nat:=133
abbrev Atm:Nat:=134
abbrev Ahl:Nat:=135
abbrev AvJ:Nat:=136
abbrev Agk:Nat:=137
abbrev Awh:Nat:=138
abbrev AzL:Nat:=139
abbrev AyM:Nat:=140
abbrev Ax7:Nat:=141
abbrev Ali:Nat:=142
abbrev AxG:Nat:=143
abbrev AuV:Nat:=144
abbrev Aut:Nat:=145
abbrev Ati:Nat:=146
abbrev AuH:Nat:=147
abbrev AuB:Nat:=148
abbrev AqM:Nat:=149
abbrev AoT:Nat:=150
abbrev Atl:Nat:=151
abbrev AcK:Nat:=152
abbrev AsY:Nat:=153
abbrev Aya:Nat:=154
abbrev AwY:Nat:=155
abbrev Awb:Nat:=156
abbrev Ao6:Nat:=157
abbrev Az5:Nat:=158
abbrev AAf:Nat:=159
abbrev AoX:Nat:=160
abbrev Aui:Nat:=161
abbrev Atw:Nat:=162
abbrev Auv:Nat:=163
abbrev AxR:Nat:=164
abbrev AxW:Nat:=165
abbrev Kg:Nat:=166
abbrev As1:Nat:=167
abbrev AbL:Nat:=168
abbrev Auy:Nat:=169
abbrev Ayw:Nat:=170
abbrev Az0:Nat:=171
abbrev Axc:Nat:=172
abbrev AkG:Nat:=173
abbrev Ax3:Nat:=174
abbrev AuP:Nat:=175
abbrev Avf:Nat:=176
abbrev At6:Nat:=177
abbrev Auk:Nat:=178
abbrev AuU:Nat:=179
abbrev AqJ:Nat:=180
abbrev Ao5:Nat:=181
abbrev AsL:Nat:=182
abbrev AcC:Nat:=183
abbrev Ays:Nat:=184
abbrev AxM:Nat:=185
abbrev Ayr:Nat:=186
abbrev AzJ:Nat:=187
abbrev BB:Nat:=188
abbrev MN:Nat:=189
abbrev Abh:Nat:=190
abbrev AuM:Nat:=191
abbrev AsB:Nat:=192
abbrev AvI:Nat:=193
abbrev Axw:Nat:=194
abbrev Apa:Nat:=195
abbrev AyS:Nat:=196
abbrev AjB:Nat:=197
abbrev Ahb:Nat:=198
abbrev Ao2:Nat:=199
abbrev AuF:Nat:=200
abbrev AsA:Nat:=201
abbrev AuL:Nat:=202
abbrev AxP:Nat:=203
abbrev Ay0:Nat:=204
abbrev AyT:Nat:=205
abbrev AAv:Nat:=206
abbrev RV:Nat:=207
abbrev F3:Nat:=208
abbrev Ayq:Nat:=209
abbrev Abb:Nat:=210
abbrev AwI:Nat:=211
abbrev AhS:Nat:=212
abbrev Ais:Nat:=213
abbrev AAE:Nat:=214
abbrev AsI:Nat:=215
abbrev Au8:Nat:=216
abbrev TG:Nat:=217
abbrev AoW:Nat:=218
abbrev AwR:Nat:=219
abbrev ArM:Nat:=220
abbrev AsC:Nat:=221
abbrev Yw:Nat:=222
abbrev Xc:Nat:=223
abbrev Afu:Nat:=224
abbrev AuZ:Nat:=225
abbrev AAr:Nat:=226
abbrev Aje:Nat:=227
abbrev ABM:Nat:=228
abbrev AAn:Nat:=229
abbrev ArV:Nat:=230
abbrev Aup:Nat:=231
abbrev FZ:Nat:=232
abbrev IE:Nat:=233
abbrev Axi:Nat:=234
abbrev AhY:Nat:=235
abbrev AbD:Nat:=236
abbrev Au7:Nat:=237
abbrev OJ:Nat:=238
abbrev Rt:Nat:=239
abbrev Yz:Nat:=240
abbrev Ayd:Nat:=241
abbrev Aff:Nat:=242
abbrev Ax5:Nat:=243
abbrev Ao4:Nat:=244
abbrev AvS:Nat:=245
abbrev ArQ:Nat:=246
abbrev Avd:Nat:=247
abbrev Qz:Nat:=248
abbrev AAB:Nat:=249
abbrev L9:Nat:=250
abbrev AiI:Nat:=251
abbrev Aqq:Nat:=252
abbrev AtC:Nat:=253
abbrev Ayf:Nat:=254
abbrev AAA:Nat:=255
abbrev RN:Nat:=256
abbrev Az4:Nat:=257
abbrev Ail:Nat:=258
abbrev AxI:Nat:=259
abbrev RO:Nat:=260
abbrev Aid:Nat:=261
abbrev Aqg:Nat:=262
abbrev AxT:Nat:=263
abbrev AhP:Nat:=264
abbrev AAu:Nat:=265
abbrev Xj:Nat:=266
abbrev Gg:Nat:=267
abbrev At7:Nat:=268
abbrev Jt:Nat:=269
abbrev R5:Nat:=270
abbrev OW:Nat:=271
abbrev GX:Nat:=272
abbrev RZ:Nat:=273
abbrev KW:Nat:=274
abbrev Auu:Nat:=275
abbrev Aqt:Nat:=276
abbrev Ams:Nat:=277
abbrev AoR:Nat:=278
abbrev R8:Nat:=279
abbrev Af6:Nat:=280
abbrev Afn:Nat:=281
abbrev Aib:Nat:=282
abbrev Ad2:Nat:=283
abbrev Ayh:Nat:=284
abbrev Fy:Nat:=285
abbrev K8:Nat:=286
abbrev Ag9:Nat:=287
abbrev Agj:Nat:=288
abbrev Ai6:Nat:=289
abbrev Aeo:Nat:=290
abbrev Ayc:Nat:=291
abbrev Gc:Nat:=292
abbrev Uf:Nat:=293
abbrev AiR:Nat:=294
abbrev AmA:Nat:=295
abbrev Rk:Nat:=296
abbrev Ug:Nat:=297
abbrev Hz:Nat:=298
abbrev Ax1:Nat:=299
abbrev ZM:Nat:=300
abbrev UZ:Nat:=301
abbrev WB:Nat:=302
abbrev XW:Nat:=303
abbrev AdH:Nat:=304
abbrev AbV:Nat:=305
abbrev ZQ:Nat:=306
abbrev AfB:Nat:=307
abbrev AaD:Nat:=308
abbrev Qm:Nat:=309
abbrev AcZ:Nat:=310
abbrev WM:Nat:=311
abbrev Jz:Nat:=312
abbrev AaE:Nat:=313
abbrev Qh:Nat:=314
abbrev WJ:Nat:=315
abbrev AoD:Nat:=316
abbrev OD:Nat:=317
abbrev Vq:Nat:=318
abbrev AdM:Nat:=319
abbrev Jl:Nat:=320
abbrev AcV:Nat:=321
abbrev YR:Nat:=322
abbrev Qd:Nat:=323
abbrev Jy:Nat:=324
abbrev TR:Nat:=325
abbrev QY:Nat:=326
abbrev GU:Nat:=327
abbrev YX:Nat:=328
abbrev Afq:Nat:=329
abbrev AdX:Nat:=330
abbrev WO:Nat:=331
abbrev YQ:Nat:=332
abbrev UI:Nat:=333
abbrev Pe:Nat:=334
abbrev U0:Nat:=335
abbrev Aex:Nat:=336
abbrev Rq:Nat:=337
abbrev Xq:Nat:=338
abbrev AjS:Nat:=339
abbrev Aap:Nat:=340
abbrev Ahr:Nat:=341
abbrev Aer:Nat:=342
abbrev XT:Nat:=343
abbrev Aue:Nat:=344
abbrev Abl:Nat:=345
abbrev YH:Nat:=346
abbrev UF:Nat:=347
abbrev AdY:Nat:=348
abbrev AdQ:Nat:=349
abbrev RH:Nat:=350
abbrev AiQ:Nat:=351
abbrev EQ:Nat:=352
abbrev XD:Nat:=353
abbrev Akc:Nat:=354
abbrev Uc:Nat:=355
abbrev Ud:Nat:=356
abbrev Jw:Nat:=357
abbrev Aeu:Nat:=358
abbrev Qt:Nat:=359
abbrev Abo:Nat:=360
abbrev Aiz:Nat:=361
abbrev Ze:Nat:=362
abbrev Apx:Nat:=363
abbrev PG:Nat:=364
abbrev Vi:Nat:=365
abbrev AdF:Nat:=366
abbrev Ru:Nat:=367
abbrev IY:Nat:=368
abbrev UY:Nat:=369
abbrev AdE:Nat:=370
abbrev Afl:Nat:=371
abbrev EB:Nat:=372
abbrev Oc:Nat:=373
abbrev T9:Nat:=374
abbrev M7:Nat:=375
abbrev AkN:Nat:=376
abbrev AuX:Nat:=377
abbrev AkM:Nat:=378
abbrev Al9:Nat:=379
abbrev AvA:Nat:=380
abbrev Avt:Nat:=381
abbrev Aur:Nat:=382
abbrev AuI:Nat:=383
abbrev Awd:Nat:=384
abbrev Aji:Nat:=385
abbrev Ayj:Nat:=386
abbrev Ax6:Nat:=387
abbrev AxC:Nat:=388
abbrev Ah1:Nat:=389
abbrev Xe:Nat:=390
abbrev AvC:Nat:=391
abbrev AeK:Nat:=392
abbrev Qb:Nat:=393
abbrev YC:Nat:=394
abbrev Ac2:Nat:=395
abbrev YD:Nat:=396
abbrev AaJ:Nat:=397
abbrev Za:Nat:=398
abbrev Uo:Nat:=399
abbrev Axm:Nat:=400
abbrev Yh:Nat:=401
abbrev Acx:Nat:=402
abbrev R6:Nat:=403
abbrev NF:Nat:=404
abbrev KZ:Nat:=405
abbrev Iu:Nat:=406
abbrev Aed:Nat:=407
abbrev AkK:Nat:=408
abbrev Ajb:Nat:=409
abbrev Ya:Nat:=410
abbrev Ahv:Nat:=411
abbrev Ajk:Nat:=412
abbrev AjD:Nat:=413
abbrev Afo:Nat:=414
abbrev AfD:Nat:=415
abbrev AcF:Nat:=416
abbrev AdJ:Nat:=417
abbrev Wp:Nat:=418
abbrev RG:Nat:=419
abbrev AoE:Nat:=420
abbrev Ayt:Nat:=421
abbrev Ayp:Nat:=422
abbrev AmV:Nat:=423
abbrev AxV:Nat:=424
abbrev AxH:Nat:=425
abbrev Ana:Nat:=426
abbrev Ayl:Nat:=427
abbrev AxU:Nat:=428
abbrev AoP:Nat:=429
abbrev Akw:Nat:=430
abbrev Amy:Nat:=431
abbrev Ajs:Nat:=432
abbrev Auf:Nat:=433
abbrev AsM:Nat:=434
abbrev AlK:Nat:=435
abbrev AjO:Nat:=436
abbrev Amq:Nat:=437
abbrev Amn:Nat:=438
abbrev AkT:Nat:=439
abbrev Anl:Nat:=440
abbrev Ayb:Nat:=441
abbrev Amt:Nat:=442
abbrev AhM:Nat:=443
abbrev Ajv:Nat:=444
abbrev An2:Nat:=445
abbrev Afb:Nat:=446
abbrev Ak8:Nat:=447
abbrev Ake:Nat:=448
abbrev AhL:Nat:=449
abbrev AkH:Nat:=450
abbrev Ah2:Nat:=451
abbrev AjM:Nat:=452
abbrev AgY:Nat:=453
abbrev Aj8:Nat:=454
abbrev Amu:Nat:=455
abbrev Aml:Nat:=456
abbrev Alo:Nat:=457
abbrev Ajr:Nat:=458
abbrev Awc:Nat:=459
abbrev ACk:Nat:=460
abbrev Am2:Nat:=461
abbrev ABh:Nat:=462
abbrev AzG:Nat:=463
abbrev AtZ:Nat:=464
abbrev Ar0:Nat:=465
abbrev AAy:Nat:=466
abbrev Aly:Nat:=467
abbrev Aux:Nat:=468
abbrev AsF:Nat:=469
abbrev Aq9:Nat:=470
abbrev AvO:Nat:=471
abbrev AoV:Nat:=472
abbrev AAx:Nat:=473
abbrev AzX:Nat:=474
abbrev AzV:Nat:=475
abbrev Aww:Nat:=476
abbrev Awg:Nat:=477
abbrev AxD:Nat:=478
abbrev Awt:Nat:=479
abbrev Ayu:Nat:=480
abbrev AAz:Nat:=481
abbrev Ay3:Nat:=482
abbrev Azu:Nat:=483
abbrev Aun:Nat:=484
abbrev Au4:Nat:=485
abbrev Azn:Nat:=486
abbrev AxN:Nat:=487
abbrev AxO:Nat:=488
abbrev AxL:Nat:=489
abbrev AxY:Nat:=490
abbrev AyC:Nat:=491
abbrev AxA:Nat:=492
abbrev AxS:Nat:=493
abbrev Aym:Nat:=494
abbrev Aw1:Nat:=495
abbrev Apl:Nat:=496
abbrev Amm:Nat:=497
abbrev Au9:Nat:=498
abbrev Amo:Nat:=499
abbrev Ar3:Nat:=500
abbrev Hg:Nat:=501
abbrev AnU:Nat:=502
abbrev Asp:Nat:=503
abbrev LM:Nat:=504
abbrev Ao7:Nat:=505
abbrev Ja:Nat:=506
abbrev ArZ:Nat:=507
abbrev Ate:Nat:=508
abbrev Je:Nat:=509
abbrev ArL:Nat:=510
end Go.Eng.T
namespace Go.Eng.T
abbrev I (a:Int):V:= .sc (.int .i64 a)
abbrev B (a:Bool):V:= .sc (.bool a)
abbrev S (a:ByteArray):V:= .sc (.string a)
abbrev Rel:=List V→List O→V→List O→Prop
def ints (xs:List Int):List V:=xs.map fun x=> .sc (.int .i64 x)
@[simp] theorem ACG (xs:List Int):(ints xs).length=xs.length:=by simp[ints]
@[simp] theorem ACT:ints []=[]:=rfl
@[simp] theorem ints_at {xs:List Int} {j:Nat} (h:j<xs.length):(ints xs)[j]? =some (V.sc (.int .i64 xs[j])):=by simp[ints,h]
@[simp] theorem ABT {xs:List Int} {j:Nat} (h:j<(ints xs).length):(ints xs)[j]=V.sc (.int .i64 (xs[j]'(by simpa using h))):=by simp[ints]
@[simp] theorem AC9 (xs:List Int) (k:Nat):(ints xs).map (Be k)=ints xs:=by simp[ints,Function.comp_def,Be]
theorem AwC (xs ys:List Int):ints xs++ints ys=ints (xs++ys):=by simp[ints]
@[simp] theorem ABU (xs:List Int) (y:Int):ints xs++ [V.sc (.int .i64 y)]=ints (xs++ [y]):=by simp[ints]
@[simp] theorem ints_set (xs:List Int) (j:Nat) (y:Int):(ints xs).set j (V.sc (.int .i64 y))=ints (xs.set j y):=by simp[ints]
@[simp] theorem ACM (n:Nat):(List.replicate n [V.sc (.int .i64 0)]).flatten=ints (List.replicate n 0):=by
 induction n with
 | zero=>rfl
 | succ n ih=>simp[List.replicate_succ,ints]at *
@[simp] theorem ACY (xs:List Int):(ints xs).all Pf=true:=by simp[ints,Pf]
@[simp] theorem AB1 (xs:List Int) (o n:Nat):part (ints xs) 1 o n=ints ((xs.drop o).take n):=by simp[part,ints]
@[simp] theorem ACn:∀xs:List Int,(∀x,x∈ints xs→Pf x=true)=True:=by simp[ints,Pf]
@[simp] theorem AB2 (a:V) (cs:List V) (off n:Nat):Fw (a::cs) off n=if off+n≤cs.length+1 then some (((a::cs).drop off).take n)else none:=by simp[Fw]
structure Uy where
 ok:Bool
 version:Int
 tags:List Int
 deriving DecidableEq
structure Fx where
 limit:Int
 drops:List Int
 strips:List Int
 lists:Bool
 deriving DecidableEq
structure BA where
 deal:Uy
 tries:Int
 up:List Int
 deriving DecidableEq
structure Fj where
 version:Int
 stages:List Int
 pos:Int
 off:Bool
 deriving DecidableEq
structure AJ where
 versions:List Int
 tags:List Int
 path:List Fx
 cls:Int
 deriving DecidableEq
structure BX where
 fin:Int
 tick:Int
 on:Bool
 dialed:BA
 deriving DecidableEq
structure World where
 server:List Int
 tags:List Int
 key:Int
 ends:List AJ
 rollout:Fj
 least:Int
 percent:Int
 stage:List BA
 log:List BX
 now:Int
 hurt:Int
 reached:Int
 deriving DecidableEq
structure Event where
 kind:Int
 n:Int
 box:Fx
 deriving DecidableEq
abbrev sl (fl e n:Nat) (cs:List V):V:= .sl fl e n cs
def Ue (d:Uy):List V:=[.sc (.bool d.ok),.sc (.int .i64 d.version),.sl 0 1 d.tags.length (ints d.tags)]
def Ck (d:Fx):List V:=[.sc (.int .i64 d.limit),.sl 0 1 d.drops.length (ints d.drops),.sl 0 1 d.strips.length (ints d.strips),.sc (.bool d.lists)]
def Az (d:BA):List V:=[.sc (.bool d.deal.ok),.sc (.int .i64 d.deal.version),.sl 0 1 d.deal.tags.length (ints d.deal.tags),.sc (.int .i64 d.tries),.sl 0 1 d.up.length (ints d.up)]
def Pd (d:Fj):List V:=[.sc (.int .i64 d.version),.sl 0 1 d.stages.length (ints d.stages),.sc (.int .i64 d.pos),.sc (.bool d.off)]
def Ak (d:AJ):List V:=[.sl 0 1 d.versions.length (ints d.versions),.sl 0 1 d.tags.length (ints d.tags),.sl 0 4 d.path.length (d.path.flatMap Ck),.sc (.int .i64 d.cls)]
def Ar (d:BX):List V:=[.sc (.int .i64 d.fin),.sc (.int .i64 d.tick),.sc (.bool d.on),.sc (.bool d.dialed.deal.ok),.sc (.int .i64 d.dialed.deal.version),.sl 0 1 d.dialed.deal.tags.length (ints d.dialed.deal.tags),.sc (.int .i64 d.dialed.tries),.sl 0 1 d.dialed.up.length (ints d.dialed.up)]
def P5 (d:World):List V:=[.sl 0 1 d.server.length (ints d.server),.sl 0 1 d.tags.length (ints d.tags),.sc (.int .i64 d.key),.sl 0 4 d.ends.length (d.ends.flatMap Ak),.sc (.int .i64 d.rollout.version),.sl 0 1 d.rollout.stages.length (ints d.rollout.stages),.sc (.int .i64 d.rollout.pos),.sc (.bool d.rollout.off),.sc (.int .i64 d.least),.sc (.int .i64 d.percent),.sl 0 5 d.stage.length (d.stage.flatMap Az),.sl 0 8 d.log.length (d.log.flatMap Ar),.sc (.int .i64 d.now),.sc (.int .i64 d.hurt),.sc (.int .i64 d.reached)]
def Cy (d:Event):List V:=[.sc (.int .i64 d.kind),.sc (.int .i64 d.n),.sc (.int .i64 d.box.limit),.sl 0 1 d.box.drops.length (ints d.box.drops),.sl 0 1 d.box.strips.length (ints d.box.strips),.sc (.bool d.box.lists)]
abbrev arg (cs:List V):V:= .agg (cs.map (Be 1))
section
variable {α:Type} {f:α→List V} {e:Nat}
theorem VJ (hf:∀x,(f x).map (Be 0)=f x) (xs:List α):(xs.flatMap f).map (Be 0)=xs.flatMap f:=by
 induction xs with
 | nil=>rfl
 | cons x xs ih=>simp[hf,ih]
theorem VT (cs ds:List V) (o:Nat):∀(azs:List V),o+azs.length≤ds.length→putAt (cs++ds) (cs.length+o) azs=cs++putAt ds o azs:=by
 intro azs
 induction azs generalizing ds o with
 | nil=>intro _;simp[putAt]
 | cons a azs ih=>
  intro h
  simp only[putAt,List.length_cons]at *
  rw[List.set_append_right _ _ (by omega),show cs.length+o-cs.length=o by omega,show cs.length+o+1=cs.length+(o+1)by omega]
  exact ih _ _ (by simp;omega)
theorem Ap1:∀(ds azs:List V),azs.length≤ds.length→putAt ds 0 azs=azs++ds.drop azs.length:=by
 have key:∀(azs pre ds:List V),azs.length≤ds.length→putAt (pre++ds) pre.length azs=pre++azs++ds.drop azs.length:=by
  intro azs
  induction azs with
  | nil=>intro pre ds _;simp[putAt]
  | cons a azs ih=>
   intro pre ds h
   cases ds with
   | nil=>simp at h
   | cons d ds=>
    have:=ih (pre++ [a]) ds (by simpa using h)
    simp only[putAt]
    rw[List.set_append_right _ _ (Nat.le_refl _),Nat.sub_self,List.set_cons_zero]
    simpa using this
 intro ds azs h
 simpa using key azs [] ds h
theorem OX (hf:∀x,(f x).length=e) {xs:List α} {i:Nat} (hi:i<xs.length) (x:α):putAt (xs.flatMap f) (i*e) (f x)=(xs.set i x).flatMap f:=by
 induction xs generalizing i with
 | nil=>simp at hi
 | cons y ys ih=>
  cases i with
  | zero=>
   rw[Nat.zero_mul,Ap1 _ _ (by simp[hf])]
   simp[hf]
  | succ i=>
   simp only[List.flatMap_cons,List.set_cons_succ]
   rw[show(i+1)*e=(f y).length+i*e by rw[hf,Nat.add_mul];omega,VT]
   ·rw[ih (by simpa using hi)]
   ·rw[Lu hf,hf]
    have:=Nat.mul_le_mul_right e (show i+1≤ys.length by simp at hi;omega)
    rw[Nat.add_mul]at this;omega
theorem Zu (z:α) (n:Nat):(List.replicate n (f z)).flatten=(List.replicate n z).flatMap f:=by
 induction n with
 | zero=>rfl
 | succ n ih=>simp[List.replicate_succ,ih]
end
def fd (o:O):Prop:=o= .free∨o= .dead
@[simp] theorem AeA:fd .free:= .inl rfl
@[simp] theorem AeQ:fd .dead:= .inr rfl
def mix {α:Type} (z:α) (xs:List α) (j:Nat):List α:=xs.take j++List.replicate (xs.length-j) z
section
variable {α:Type} {z:α} {xs:List α} {j:Nat}
@[simp] theorem ACW (h:j≤xs.length):(mix z xs j).length=xs.length:=by simp[mix];omega
theorem U3:mix z xs 0=List.replicate xs.length z:=by simp[mix]
theorem Aab (h:xs.length≤j):mix z xs j=xs:=by simp[mix,Nat.sub_eq_zero_of_le h,List.take_of_length_le h]
theorem Aar (h:j<xs.length):(mix z xs j).set j xs[j]=mix z xs (j+1):=by
 unfold mix
 have hl:(xs.take j).length=j:=by simp;omega
 rw[List.set_append_right _ _ (by omega),hl,Nat.sub_self]
 obtain⟨k,hk⟩:∃k,xs.length-j=k+1:=⟨xs.length-j-1,by omega⟩
 have hk':xs.length-(j+1)=k:=by omega
 have ht:xs.take (j+1)=xs.take j++ [xs[j]]:=by simp
 rw[hk,hk',List.replicate_succ,List.set_cons_zero,ht,List.append_assoc]
 rfl
end
theorem Ae {n:Int} (h1:-9223372036854775808≤n) (h2:n≤9223372036854775807):IntKind.i64.wrap n=n:=by
 show(if(true&&decide (n % (2 ^ 64:Int)≥(2 ^ 63:Int)))=true then n % (2 ^ 64:Int)-(2 ^ 64:Int)else n % (2 ^ 64:Int))=n
 by_cases h:n % (2 ^ 64:Int)≥(2 ^ 63:Int)
 ·rw[if_pos (by simp only[h];rfl)];omega
 ·rw[if_neg (by simp only[h];simp)];omega
section
variable {α:Type} {xs ys:List α} {j:Nat}
theorem IJ (hx:j<xs.length) (hy:j<ys.length) (h:xs.take j=ys.take j) (he:xs[j]=ys[j]):xs.take (j+1)=ys.take (j+1):=by
 rw[List.take_add_one,List.take_add_one,h,List.getElem?_eq_getElem hx,List.getElem?_eq_getElem hy,he]
theorem KX (hx:xs.length≤j) (hl:xs.length=ys.length) (h:xs.take j=ys.take j):xs=ys:=by
 rwa [List.take_of_length_le hx,List.take_of_length_le (by omega)]at h
end
def Bq {α:Type} (f:α→Nat) (xs:List α):Nat:=xs.length+(xs.map f).sum
def D7 (d:Uy):Nat:=d.tags.length
def Cc (d:Fx):Nat:=d.drops.length+d.strips.length
def Ai (d:BA):Nat:=D7 d.deal+d.up.length
def Bh (d:Fj):Nat:=d.stages.length
def Ad (d:AJ):Nat:=d.versions.length+d.tags.length+Bq Cc d.path
def Aw (d:BX):Nat:=Ai d.dialed
def Br (d:World):Nat:=d.server.length+d.tags.length+Bq Ad d.ends+Bh d.rollout+Bq Ai d.stage+Bq Aw d.log
def AeL (d:Event):Nat:=Cc d.box
def szl (n:Nat) (l:Int):Int:=if l<n then -1 else l-n
section
variable {α:Type} {f:α→Nat} {xs:List α} {j:Nat}
theorem Rs (h:j<xs.length):((xs.take (j+1)).map f).sum=((xs.take j).map f).sum+f xs[j]:=by
 rw[List.take_add_one,List.getElem?_eq_getElem h,List.map_append,List.sum_append,Option.toList_some,List.map_cons,List.map_nil,List.sum_cons,List.sum_nil,Nat.add_zero]
theorem Km:((xs.take j).map f).sum≤(xs.map f).sum:=by
 conv=>rhs;rw[←List.take_append_drop j xs,List.map_append,List.sum_append]
 omega
theorem ZJ (h:xs.length≤j):((xs.take j).map f).sum=(xs.map f).sum:=by rw[List.take_of_length_le h]
theorem size_at (h:j<xs.length):f xs[j]≤Bq f xs:=by
 have h1:=Rs (f:=f) h
 have h2:=Km (f:=f) (xs:=xs) (j:=j+1)
 unfold Bq;omega
theorem H7:xs.length≤Bq f xs:=by unfold Bq;omega
end
def Iz (xs:List Int):Prop:=xs.length≤maxLen
def lnS {α:Type} (f:α→Prop) (xs:List α):Prop:=xs.length≤maxLen∧∀(j:Nat) (h:j<xs.length),f xs[j]
def AkU (d:Uy):Prop:=Iz d.tags
def GY (d:Fx):Prop:=Iz d.drops∧Iz d.strips
def MV (d:BA):Prop:=AkU d.deal∧Iz d.up
def VW (d:Fj):Prop:=Iz d.stages
def GD (d:AJ):Prop:=Iz d.versions∧Iz d.tags∧lnS GY d.path
def Pj (d:BX):Prop:=MV d.dialed
def Zk (d:World):Prop:=Iz d.server∧Iz d.tags∧lnS GD d.ends∧VW d.rollout∧lnS MV d.stage∧lnS Pj d.log
def Ay1 (d:Event):Prop:=GY d.box
theorem Iw (x:Fx):(Ck x).length=4:=rfl
theorem Dx (x:BA):(Az x).length=5:=rfl
theorem DK (x:AJ):(Ak x).length=4:=rfl
theorem BF (x:BX):(Ar x).length=8:=rfl
theorem Dr (x:Event):(Cy x).length=6:=rfl
@[simp] theorem AC4 (xs:List Fx):(xs.flatMap Ck).map (Be 0)=xs.flatMap Ck:=VJ (fun _=>rfl) xs
@[simp] theorem ABD (xs:List BA):(xs.flatMap Az).map (Be 0)=xs.flatMap Az:=VJ (fun _=>rfl) xs
@[simp] theorem Aza (xs:List AJ):(xs.flatMap Ak).map (Be 0)=xs.flatMap Ak:=VJ (fun _=>rfl) xs
@[simp] theorem AAM (xs:List BX):(xs.flatMap Ar).map (Be 0)=xs.flatMap Ar:=VJ (fun _=>rfl) xs
@[simp] theorem AB0 (xs:List Event):(xs.flatMap Cy).map (Be 0)=xs.flatMap Cy:=VJ (fun _=>rfl) xs
@[simp high] theorem AC3 {xs:List Fx} {j:Nat} (h:j<xs.length):Fw (xs.flatMap Ck) (j*4) 4=some (Ck xs[j]):=Mf Iw h
@[simp high] theorem ABo {xs:List BA} {j:Nat} (h:j<xs.length):Fw (xs.flatMap Az) (j*5) 5=some (Az xs[j]):=Mf Dx h
@[simp high] theorem Aze {xs:List AJ} {j:Nat} (h:j<xs.length):Fw (xs.flatMap Ak) (j*4) 4=some (Ak xs[j]):=Mf DK h
@[simp high] theorem ABr {xs:List BX} {j:Nat} (h:j<xs.length):Fw (xs.flatMap Ar) (j*8) 8=some (Ar xs[j]):=Mf BF h
@[simp high] theorem AB7 {xs:List Event} {j:Nat} (h:j<xs.length):Fw (xs.flatMap Cy) (j*6) 6=some (Cy xs[j]):=Mf Dr h
@[simp high] theorem AB9 (xs:List Fx):(xs.flatMap Ck).length=xs.length*4:=Lu Iw xs
@[simp high] theorem ACs {xs:List Fx} {j:Nat} (h:j<xs.length) (a:Int) (b c:List Int) (d:Bool) {nb:Nat} (hb:nb=b.length) {nc:Nat} (hc:nc=c.length):putAt (xs.flatMap Ck) (j*4) [.sc (.int .i64 a),.sl 0 1 nb (ints b),.sl 0 1 nc (ints c),.sc (.bool d)]=(xs.set j ⟨a,b,c,d⟩).flatMap Ck:=by subst hb;subst hc;exact OX Iw h ⟨a,b,c,d⟩
@[simp high] theorem Ay7 (xs:List BA):(xs.flatMap Az).length=xs.length*5:=Lu Dx xs
@[simp high] theorem AAc {xs:List BA} {j:Nat} (h:j<xs.length) (a:Bool) (b:Int) (c:List Int) (d:Int) (u:List Int) {nc:Nat} (hc:nc=c.length) {nu:Nat} (hu:nu=u.length):putAt (xs.flatMap Az) (j*5) [.sc (.bool a),.sc (.int .i64 b),.sl 0 1 nc (ints c),.sc (.int .i64 d),.sl 0 1 nu (ints u)]=(xs.set j ⟨⟨a,b,c⟩,d,u⟩).flatMap Az:=by subst hc;subst hu;exact OX Dx h ⟨⟨a,b,c⟩,d,u⟩
@[simp high] theorem Av8 (xs:List AJ):(xs.flatMap Ak).length=xs.length*4:=Lu DK xs
@[simp high] theorem Ayi {xs:List AJ} {j:Nat} (h:j<xs.length) (a b:List Int) (c:List Fx) (d:Int) {na:Nat} (ha:na=a.length) {nb:Nat} (hb:nb=b.length) {nc:Nat} (hc:nc=c.length):putAt (xs.flatMap Ak) (j*4) [.sl 0 1 na (ints a),.sl 0 1 nb (ints b),.sl 0 4 nc (c.flatMap Ck),.sc (.int .i64 d)]=(xs.set j ⟨a,b,c,d⟩).flatMap Ak:=by subst ha;subst hb;subst hc;exact OX DK h ⟨a,b,c,d⟩
@[simp high] theorem AyW (xs:List BX):(xs.flatMap Ar).length=xs.length*8:=Lu BF xs
@[simp high] theorem AAD {xs:List BX} {j:Nat} (h:j<xs.length) (m n:Int) (o a:Bool) (b:Int) (c:List Int) (d:Int) (u:List Int) {nc:Nat} (hc:nc=c.length) {nu:Nat} (hu:nu=u.length):putAt (xs.flatMap Ar) (j*8) [.sc (.int .i64 m),.sc (.int .i64 n),.sc (.bool o),.sc (.bool a),.sc (.int .i64 b),.sl 0 1 nc (ints c),.sc (.int .i64 d),.sl 0 1 nu (ints u)]=(xs.set j ⟨m,n,o,⟨⟨a,b,c⟩,d,u⟩⟩).flatMap Ar:=by subst hc;subst hu;exact OX BF h ⟨m,n,o,⟨⟨a,b,c⟩,d,u⟩⟩
@[simp high] theorem AAg (xs:List Event):(xs.flatMap Cy).length=xs.length*6:=Lu Dr xs
@[simp high] theorem ABq {xs:List Event} {j:Nat} (h:j<xs.length) (m n:Int) (a:Int) (b c:List Int) (d:Bool) {nb:Nat} (hb:nb=b.length) {nc:Nat} (hc:nc=c.length):putAt (xs.flatMap Cy) (j*6) [.sc (.int .i64 m),.sc (.int .i64 n),.sc (.int .i64 a),.sl 0 1 nb (ints b),.sl 0 1 nc (ints c),.sc (.bool d)]=(xs.set j ⟨m,n,⟨a,b,c,d⟩⟩).flatMap Cy:=by subst hb;subst hc;exact OX Dr h ⟨m,n,⟨a,b,c,d⟩⟩
@[simp high] theorem ADh {xs:List Fx} {j:Nat} (h:j<xs.length):(xs.flatMap Ck)[j*4]? =some (.sc (.int .i64 xs[j].limit)):=by
 have:=AA (o:=0) Iw h (by omega)
 simpa[Ck]using this
@[simp high] theorem ADd {xs:List Fx} {j:Nat} (h:j<xs.length):(xs.flatMap Ck)[j*4+1]? =some (.sl 0 1 xs[j].drops.length (ints xs[j].drops)):=by
 have:=AA (o:=1) Iw h (by omega)
 simpa[Ck]using this
@[simp high] theorem ACZ {xs:List Fx} {j:Nat} (h:j<xs.length):(xs.flatMap Ck)[j*4+2]? =some (.sl 0 1 xs[j].strips.length (ints xs[j].strips)):=by
 have:=AA (o:=2) Iw h (by omega)
 simpa[Ck]using this
@[simp high] theorem ADb {xs:List Fx} {j:Nat} (h:j<xs.length):(xs.flatMap Ck)[j*4+3]? =some (.sc (.bool xs[j].lists)):=by
 have:=AA (o:=3) Iw h (by omega)
 simpa[Ck]using this
@[simp high] theorem AA2 {xs:List BA} {j:Nat} (h:j<xs.length):(xs.flatMap Az)[j*5]? =some (.sc (.bool xs[j].deal.ok)):=by
 have:=AA (o:=0) Dx h (by omega)
 simpa[Az]using this
@[simp high] theorem AA4 {xs:List BA} {j:Nat} (h:j<xs.length):(xs.flatMap Az)[j*5+1]? =some (.sc (.int .i64 xs[j].deal.version)):=by
 have:=AA (o:=1) Dx h (by omega)
 simpa[Az]using this
@[simp high] theorem AA9 {xs:List BA} {j:Nat} (h:j<xs.length):(xs.flatMap Az)[j*5+2]? =some (.sl 0 1 xs[j].deal.tags.length (ints xs[j].deal.tags)):=by
 have:=AA (o:=2) Dx h (by omega)
 simpa[Az]using this
@[simp high] theorem ABy {xs:List BA} {j:Nat} (h:j<xs.length):(xs.flatMap Az)[j*5+3]? =some (.sc (.int .i64 xs[j].tries)):=by
 have:=AA (o:=3) Dx h (by omega)
 simpa[Az]using this
@[simp high] theorem AA6 {xs:List BA} {j:Nat} (h:j<xs.length):(xs.flatMap Az)[j*5+4]? =some (.sl 0 1 xs[j].up.length (ints xs[j].up)):=by
 have:=AA (o:=4) Dx h (by omega)
 simpa[Az]using this
@[simp high] theorem AzZ {xs:List AJ} {j:Nat} (h:j<xs.length):(xs.flatMap Ak)[j*4]? =some (.sl 0 1 xs[j].versions.length (ints xs[j].versions)):=by
 have:=AA (o:=0) DK h (by omega)
 simpa[Ak]using this
@[simp high] theorem AzY {xs:List AJ} {j:Nat} (h:j<xs.length):(xs.flatMap Ak)[j*4+1]? =some (.sl 0 1 xs[j].tags.length (ints xs[j].tags)):=by
 have:=AA (o:=1) DK h (by omega)
 simpa[Ak]using this
@[simp high] theorem Ay5 {xs:List AJ} {j:Nat} (h:j<xs.length):(xs.flatMap Ak)[j*4+2]? =some (.sl 0 4 xs[j].path.length (xs[j].path.flatMap Ck)):=by
 have:=AA (o:=2) DK h (by omega)
 simpa[Ak]using this
@[simp high] theorem AyJ {xs:List AJ} {j:Nat} (h:j<xs.length):(xs.flatMap Ak)[j*4+3]? =some (.sc (.int .i64 xs[j].cls)):=by
 have:=AA (o:=3) DK h (by omega)
 simpa[Ak]using this
@[simp high] theorem AAX {xs:List BX} {j:Nat} (h:j<xs.length):(xs.flatMap Ar)[j*8]? =some (.sc (.int .i64 xs[j].fin)):=by
 have:=AA (o:=0) BF h (by omega)
 simpa[Ar]using this
@[simp high] theorem ABb {xs:List BX} {j:Nat} (h:j<xs.length):(xs.flatMap Ar)[j*8+1]? =some (.sc (.int .i64 xs[j].tick)):=by
 have:=AA (o:=1) BF h (by omega)
 simpa[Ar]using this
@[simp high] theorem ABa {xs:List BX} {j:Nat} (h:j<xs.length):(xs.flatMap Ar)[j*8+2]? =some (.sc (.bool xs[j].on)):=by
 have:=AA (o:=2) BF h (by omega)
 simpa[Ar]using this
@[simp high] theorem ABL {xs:List BX} {j:Nat} (h:j<xs.length):(xs.flatMap Ar)[j*8+3]? =some (.sc (.bool xs[j].dialed.deal.ok)):=by
 have:=AA (o:=3) BF h (by omega)
 simpa[Ar]using this
@[simp high] theorem ABB {xs:List BX} {j:Nat} (h:j<xs.length):(xs.flatMap Ar)[j*8+4]? =some (.sc (.int .i64 xs[j].dialed.deal.version)):=by
 have:=AA (o:=4) BF h (by omega)
 simpa[Ar]using this
@[simp high] theorem AAI {xs:List BX} {j:Nat} (h:j<xs.length):(xs.flatMap Ar)[j*8+5]? =some (.sl 0 1 xs[j].dialed.deal.tags.length (ints xs[j].dialed.deal.tags)):=by
 have:=AA (o:=5) BF h (by omega)
 simpa[Ar]using this
@[simp high] theorem ABE {xs:List BX} {j:Nat} (h:j<xs.length):(xs.flatMap Ar)[j*8+6]? =some (.sc (.int .i64 xs[j].dialed.tries)):=by
 have:=AA (o:=6) BF h (by omega)
 simpa[Ar]using this
@[simp high] theorem ABF {xs:List BX} {j:Nat} (h:j<xs.length):(xs.flatMap Ar)[j*8+7]? =some (.sl 0 1 xs[j].dialed.up.length (ints xs[j].dialed.up)):=by
 have:=AA (o:=7) BF h (by omega)
 simpa[Ar]using this
@[simp high] theorem AB8 {xs:List Event} {j:Nat} (h:j<xs.length):(xs.flatMap Cy)[j*6]? =some (.sc (.int .i64 xs[j].kind)):=by
 have:=AA (o:=0) Dr h (by omega)
 simpa[Cy]using this
@[simp high] theorem ACi {xs:List Event} {j:Nat} (h:j<xs.length):(xs.flatMap Cy)[j*6+1]? =some (.sc (.int .i64 xs[j].n)):=by
 have:=AA (o:=1) Dr h (by omega)
 simpa[Cy]using this
@[simp high] theorem ACl {xs:List Event} {j:Nat} (h:j<xs.length):(xs.flatMap Cy)[j*6+2]? =some (.sc (.int .i64 xs[j].box.limit)):=by
 have:=AA (o:=2) Dr h (by omega)
 simpa[Cy]using this
@[simp high] theorem ABV {xs:List Event} {j:Nat} (h:j<xs.length):(xs.flatMap Cy)[j*6+3]? =some (.sl 0 1 xs[j].box.drops.length (ints xs[j].box.drops)):=by
 have:=AA (o:=3) Dr h (by omega)
 simpa[Cy]using this
@[simp high] theorem ACf {xs:List Event} {j:Nat} (h:j<xs.length):(xs.flatMap Cy)[j*6+4]? =some (.sl 0 1 xs[j].box.strips.length (ints xs[j].box.strips)):=by
 have:=AA (o:=4) Dr h (by omega)
 simpa[Cy]using this
@[simp high] theorem ACe {xs:List Event} {j:Nat} (h:j<xs.length):(xs.flatMap Cy)[j*6+5]? =some (.sc (.bool xs[j].box.lists)):=by
 have:=AA (o:=5) Dr h (by omega)
 simpa[Cy]using this
theorem Oy {α:Type} {f:α→List V} {e:Nat} (hf:∀x,(f x).length=e) {xs:List α} {j o n:Nat} (h:j<xs.length) (ho:o+n≤e):Fw (xs.flatMap f) (j*e+o) n=some (((f xs[j]).drop o).take n):=by
 unfold Fw
 have hl:=Lu hf xs
 have h2:j*e+e≤xs.length*e:=by
  have:=Nat.mul_le_mul_right e (show j+1≤xs.length by omega)
  rw[Nat.add_mul]at this;omega
 rw[hl,if_pos (by omega),←List.drop_drop,VG hf,List.drop_eq_getElem_cons h,List.flatMap_cons,List.drop_append,List.take_append]
 have h3:=hf xs[j]
 rw[List.length_drop,h3]
 have:n-(e-o)=0:=by omega
 rw[this,List.take_zero,List.append_nil]
@[simp high] theorem AAL {xs:List BX} {j:Nat} (h:j<xs.length):Fw (xs.flatMap Ar) (j*8+3) 5=some (Az xs[j].dialed):=Oy BF h (by omega)
@[simp high] theorem ABP {xs:List BX} {j:Nat} (h:j<xs.length):Fw (xs.flatMap Ar) (j*8+3) 3=some (Ue xs[j].dialed.deal):=Oy BF h (by omega)
@[simp high] theorem AA3 {xs:List BA} {j:Nat} (h:j<xs.length):Fw (xs.flatMap Az) (j*5) 3=some (Ue xs[j].deal):=Oy (o:=0) Dx h (by omega)
@[simp high] theorem ABZ {xs:List Event} {j:Nat} (h:j<xs.length):Fw (xs.flatMap Cy) (j*6+2) 4=some (Ck xs[j].box):=Oy Dr h (by omega)
attribute [simp] Nat.add_one_le_iff Ue Ck Az Pd Ak Ar P5 Cy
end Go.Eng.T
namespace Go.Eng.T
abbrev WS (R:Rel):Prop:=∀a b c:Int,R [I a,I b,I c] [] (B (decide (b≤a∧a≤c))) []
theorem AAU (D:Dn):WS (Body D Yx):=by
 intro a b c
 by_cases h1:b≤a<;>by_cases h2:a≤c<;>simp -implicitDefEqProofs [h1,h2]
theorem AsO (D:Dn):WS (Body D Ra):=by
 intro a b c
 by_cases h1:b≤a<;>by_cases h2:a≤c<;>simp -implicitDefEqProofs [h1,h2]
end Go.Eng.T
namespace Go.Eng.T
abbrev Oo (R:Rel):Prop:=∀(xs:List Int) (l:Int),0≤l→l≤4194304→Iz xs→R [.sl 1 1 xs.length (ints xs),I l] [] (I (szl xs.length l)) []
theorem Aw8 (D:Dn):Oo (Body D Sj):=by
 intro xs l h1 h2 h3
 have hw:IntKind.i64.wrap (l-(xs.length:Int))=l-xs.length:=by unfold Iz maxLen at h3;exact Ae (by omega) (by omega)
 by_cases h:l<xs.length
 ·have h':l-(xs.length:Int)<0:=by omega
  simp -implicitDefEqProofs [hw,h,h',szl]
 ·have h':¬l-(xs.length:Int)<0:=by omega
  simp -implicitDefEqProofs [hw,h,h',szl]
abbrev OB (R:Rel):Prop:=∀(xs:List Int),xs.length*8≤2 ^ 40→R [.sl 1 1 xs.length (ints xs)] [] (.sl 0 1 xs.length (ints xs)) []
theorem AwO (D:Dn):OB (Body D SX):=by
 intro xs hl
 have h1:((xs.length:Nat):Int)*8≤1099511627776:=by omega
 simp -implicitDefEqProofs [h1]
 refine Ah (fun k s=>∃j,j+k=xs.length∧s=⟨[.sl 1 1 xs.length (ints xs),.undef,.arr 0,.sc (.int .i64 j),.undef],[.arr 1 0 xs.length (ints (mix 0 xs j))]⟩) ?_ xs.length _ ⟨0,by simp,by simp[U3,ints]⟩
 intro k s ⟨j,hj,hs⟩
 subst hs
 by_cases hjn:j<xs.length
 ·have hw:IntKind.i64.wrap ((j:Int)+1)=(j+1:Nat):=by rw[Ae (by omega) (by omega)];simp
  simp -implicitDefEqProofs [hjn,Nat.le_of_lt hjn,Aar]
  exact⟨k-1,by omega,j+1,by omega,by simp[hw],rfl⟩
 ·have hje:mix 0 xs j=xs:=Aab (by omega)
  simp -implicitDefEqProofs [hjn,hje]
abbrev Fg (R:Rel):Prop:=∀(xs ys:List Int),xs.length≤maxLen→ys.length≤maxLen→R [.sl 1 1 xs.length (ints xs),.sl 1 1 ys.length (ints ys)] [] (B (decide (xs=ys))) []
theorem Avw (D:Dn):Fg (Body D TV):=by
 intro xs ys h1 h2
 unfold maxLen at h1 h2
 by_cases hl:xs.length=ys.length
 ·have hl':(xs.length:Int)=ys.length:=by omega
  simp -implicitDefEqProofs [hl']
  refine Ah (fun k s=>∃j,j+k=xs.length∧xs.take j=ys.take j∧s=⟨[.sl 1 1 xs.length (ints xs),.sl 1 1 ys.length (ints ys),.undef,.sc (.int .i64 j),.undef,.undef,.undef],[]⟩) ?_ xs.length _ ⟨0,by simp,by simp,by simp⟩
  intro k s ⟨j,hj,hp,hs⟩
  subst hs
  by_cases hjn:j<xs.length
  ·have hw:IntKind.i64.wrap ((j:Int)+1)=(j+1:Nat):=by rw[Ae (by omega) (by omega)];simp
   have hy:j<ys.length:=by omega
   by_cases he:xs[j]=ys[j]
   ·simp -implicitDefEqProofs [hjn,hy,he]
    exact⟨k-1,by omega,j+1,by omega,IJ hjn hy hp he,by simp[hw]⟩
   ·have hne:xs≠ys:=fun h=>he (by simp[h])
    simp -implicitDefEqProofs [hjn,hy,he,hne]
  ·obtain rfl:xs=ys:=KX (by omega) hl hp
   simp -implicitDefEqProofs [hjn]
 ·have hl':¬(xs.length:Int)=ys.length:=by omega
  have:xs≠ys:=fun h=>hl (by rw[h])
  simp -implicitDefEqProofs [hl',this]
end Go.Eng.T
namespace Go.Eng.T
abbrev Alj (R:Rel):Prop:=∀(x:Fx) (l:Int),0≤l→l≤4194304→GY x→R [arg (Ck x),I l] [] (I (szl (Cc x) l)) []
theorem Azd (D:Dn) (hszIntS:Oo (D 16)):Alj (Body D Ux):=by
 intro x l hl1 hl2 hln
 simp only[GY]at hln
 simp -implicitDefEqProofs
 refine Aa (hszIntS x.drops (l) (by omega) (by omega) hln.1) ?_
 by_cases g0:l<((x.drops.length:Nat):Int)
 ·have gg:l<((Cc x:Nat):Int):=by simp only[Cc];omega
  have e1:szl (x.drops.length) (l)= -1:=by unfold szl;rw[if_pos g0]
  have e2:szl (Cc x) l= -1:=by unfold szl;rw[if_pos gg]
  simp -implicitDefEqProofs [e1,e2]
 have e3:szl (x.drops.length) (l)=l-((x.drops.length:Nat):Int):=by unfold szl;rw[if_neg g0]
 have p0:¬l-((x.drops.length:Nat):Int)<0:=by omega
 simp -implicitDefEqProofs [e3,p0]
 refine Aa (hszIntS x.strips (l-((x.drops.length:Nat):Int)) (by omega) (by omega) hln.2) ?_
 by_cases g1:l-((x.drops.length:Nat):Int)<((x.strips.length:Nat):Int)
 ·have gg:l<((Cc x:Nat):Int):=by simp only[Cc];omega
  have e1:szl (x.strips.length) (l-((x.drops.length:Nat):Int))= -1:=by unfold szl;rw[if_pos g1]
  have e2:szl (Cc x) l= -1:=by unfold szl;rw[if_pos gg]
  simp -implicitDefEqProofs [e1,e2]
 have e4:szl (x.strips.length) (l-((x.drops.length:Nat):Int))=l-((x.drops.length:Nat):Int)-((x.strips.length:Nat):Int):=by unfold szl;rw[if_neg g1]
 have p1:¬l-((x.drops.length:Nat):Int)-((x.strips.length:Nat):Int)<0:=by omega
 simp -implicitDefEqProofs [e4,p1]
 have gg:¬l<((Cc x:Nat):Int):=by simp only[Cc];omega
 unfold szl;rw[if_neg gg];simp only[Cc]<;>omega
abbrev Ak1 (R:Rel):Prop:=∀x:Fx,Cc x≤4194304→R [arg (Ck x)] [] (.agg (Ck x)) []
theorem AyY (D:Dn) (htoIntS:OB (D 31)):Ak1 (Body D Uz):=by
 intro x h
 simp only[Cc]at h
 simp -implicitDefEqProofs
 refine Aa (htoIntS x.drops (by omega)) ?_
 simp -implicitDefEqProofs
 refine Aa (htoIntS x.strips (by omega)) ?_
 simp -implicitDefEqProofs
abbrev Alw (R:Rel):Prop:=∀x y:Fx,Cc x≤2 ^ 40→Cc y≤2 ^ 40→R [arg (Ck x),arg (Ck y)] [] (B (decide (x=y))) []
theorem AyE (D:Dn) (heqIntS:Fg (D 47)):Alw (Body D Vd):=by
 intro x y h1 h2
 simp only[Cc]at h1 h2
 by_cases g_limit:x.limit=y.limit
 rotate_left
 ·have hne:x≠y:=fun h=>g_limit (by rw[h])
  simp -implicitDefEqProofs [g_limit,hne]
 simp -implicitDefEqProofs [g_limit]
 refine Aa (heqIntS x.drops y.drops (by unfold maxLen;omega) (by unfold maxLen;omega)) ?_
 by_cases g_drops:x.drops=y.drops
 rotate_left
 ·have hne:x≠y:=fun h=>g_drops (by rw[h])
  simp -implicitDefEqProofs [g_drops,hne]
 simp -implicitDefEqProofs [g_drops]
 refine Aa (heqIntS x.strips y.strips (by unfold maxLen;omega) (by unfold maxLen;omega)) ?_
 by_cases g_strips:x.strips=y.strips
 rotate_left
 ·have hne:x≠y:=fun h=>g_strips (by rw[h])
  simp -implicitDefEqProofs [g_strips,hne]
 simp -implicitDefEqProofs [g_strips]
 by_cases g_lists:x.lists=y.lists
 rotate_left
 ·have hne:x≠y:=fun h=>g_lists (by rw[h])
  simp -implicitDefEqProofs [g_lists,hne]
 simp -implicitDefEqProofs [g_lists]
 have hxy:x=y:=by cases x;cases y;simp_all
 simp -implicitDefEqProofs [hxy]
abbrev ACE (R:Rel):Prop:=∀(x:Event) (l:Int),0≤l→l≤4194304→Ay1 x→R [arg (Cy x),I l] [] (I (szl (AeL x) l)) []
abbrev ACO (R:Rel):Prop:=∀x:Event,AeL x≤4194304→R [arg (Cy x)] [] (.agg (Cy x)) []
abbrev ACS (R:Rel):Prop:=∀x y:Event,AeL x≤2 ^ 40→AeL y≤2 ^ 40→R [arg (Cy x),arg (Cy y)] [] (B (decide (x=y))) []
end Go.Eng.T
namespace Go.Eng.T
abbrev AeU (R:Rel):Prop:=∀xs ys:List Fx,Bq Cc xs≤2 ^ 40→Bq Cc ys≤2 ^ 40→R [.sl 1 4 xs.length (xs.flatMap Ck),.sl 1 4 ys.length (ys.flatMap Ck)] [] (B (decide (xs=ys))) []
theorem Axp (D:Dn) (heq:Alw (D 249)):AeU (Body D TM):=by
 intro xs ys h1 h2
 have hlen:=H7 (f:=Cc) (xs:=xs)
 by_cases hl:xs.length=ys.length
 ·have hl':(xs.length:Int)=ys.length:=by omega
  simp -implicitDefEqProofs [hl']
  refine Ah (fun k s=>∃j,j+k=xs.length∧xs.take j=ys.take j∧s=⟨[.sl 1 4 xs.length (xs.flatMap Ck),.sl 1 4 ys.length (ys.flatMap Ck),.undef,.sc (.int .i64 j),.undef,.undef,.undef],[]⟩) ?_ xs.length _ ⟨0,by simp,by simp,by simp⟩
  intro k s ⟨j,hj,hp,hs⟩
  subst hs
  by_cases hjn:j<xs.length
  ·have hw:IntKind.i64.wrap ((j:Int)+1)=(j+1:Nat):=by rw[Ae (by omega) (by omega)];simp
   have hy:j<ys.length:=by omega
   have hsx:=size_at (f:=Cc) hjn
   have hsy:=size_at (f:=Cc) hy
   simp -implicitDefEqProofs [hjn,hy]
   refine Aa (heq xs[j] ys[j] (by omega) (by omega)) ?_
   by_cases he:xs[j]=ys[j]
   ·simp -implicitDefEqProofs [he]
    exact⟨k-1,by omega,j+1,by omega,IJ hjn hy hp he,by simp[hw]⟩
   ·have hne:xs≠ys:=fun h=>he (by simp[h])
    simp -implicitDefEqProofs [he,hne]
  ·obtain rfl:xs=ys:=KX (by omega) hl hp
   simp -implicitDefEqProofs [hjn]
 ·have hl':¬(xs.length:Int)=ys.length:=by omega
  have:xs≠ys:=fun h=>hl (by rw[h])
  simp -implicitDefEqProofs [hl',this]
abbrev Qn (R:Rel):Prop:=∀x y:AJ,Ad x≤2 ^ 40→Ad y≤2 ^ 40→R [arg (Ak x),arg (Ak y)] [] (B (decide (x=y))) []
theorem Akt (D:Dn) (heqIntS:Fg (D 47)) (heqBoxS:AeU (D 204)):Qn (Body D MK):=by
 intro x y h1 h2
 simp only[Ad]at h1 h2
 simp -implicitDefEqProofs
 refine Aa (heqIntS x.versions y.versions (by unfold maxLen;omega) (by unfold maxLen;omega)) ?_
 by_cases g_versions:x.versions=y.versions
 rotate_left
 ·have hne:x≠y:=fun h=>g_versions (by rw[h])
  simp -implicitDefEqProofs [g_versions,hne]
 simp -implicitDefEqProofs [g_versions]
 refine Aa (heqIntS x.tags y.tags (by unfold maxLen;omega) (by unfold maxLen;omega)) ?_
 by_cases g_tags:x.tags=y.tags
 rotate_left
 ·have hne:x≠y:=fun h=>g_tags (by rw[h])
  simp -implicitDefEqProofs [g_tags,hne]
 simp -implicitDefEqProofs [g_tags]
 refine Aa (heqBoxS x.path y.path (by omega) (by omega)) ?_
 by_cases g_path:x.path=y.path
 rotate_left
 ·have hne:x≠y:=fun h=>g_path (by rw[h])
  simp -implicitDefEqProofs [g_path,hne]
 simp -implicitDefEqProofs [g_path]
 by_cases g_cls:x.cls=y.cls
 rotate_left
 ·have hne:x≠y:=fun h=>g_cls (by rw[h])
  simp -implicitDefEqProofs [g_cls,hne]
 simp -implicitDefEqProofs [g_cls]
 have hxy:x=y:=by cases x;cases y;simp_all
 simp -implicitDefEqProofs [hxy]
abbrev Om (R:Rel):Prop:=∀xs ys:List AJ,Bq Ad xs≤2 ^ 40→Bq Ad ys≤2 ^ 40→R [.sl 1 4 xs.length (xs.flatMap Ak),.sl 1 4 ys.length (ys.flatMap Ak)] [] (B (decide (xs=ys))) []
theorem Ai0 (D:Dn) (heq:Qn (D 134)):Om (Body D K4):=by
 intro xs ys h1 h2
 have hlen:=H7 (f:=Ad) (xs:=xs)
 by_cases hl:xs.length=ys.length
 ·have hl':(xs.length:Int)=ys.length:=by omega
  simp -implicitDefEqProofs [hl']
  refine Ah (fun k s=>∃j,j+k=xs.length∧xs.take j=ys.take j∧s=⟨[.sl 1 4 xs.length (xs.flatMap Ak),.sl 1 4 ys.length (ys.flatMap Ak),.undef,.sc (.int .i64 j),.undef,.undef,.undef],[]⟩) ?_ xs.length _ ⟨0,by simp,by simp,by simp⟩
  intro k s ⟨j,hj,hp,hs⟩
  subst hs
  by_cases hjn:j<xs.length
  ·have hw:IntKind.i64.wrap ((j:Int)+1)=(j+1:Nat):=by rw[Ae (by omega) (by omega)];simp
   have hy:j<ys.length:=by omega
   have hsx:=size_at (f:=Ad) hjn
   have hsy:=size_at (f:=Ad) hy
   simp -implicitDefEqProofs [hjn,hy]
   refine Aa (heq xs[j] ys[j] (by omega) (by omega)) ?_
   by_cases he:xs[j]=ys[j]
   ·simp -implicitDefEqProofs [he]
    exact⟨k-1,by omega,j+1,by omega,IJ hjn hy hp he,by simp[hw]⟩
   ·have hne:xs≠ys:=fun h=>he (by simp[h])
    simp -implicitDefEqProofs [he,hne]
  ·obtain rfl:xs=ys:=KX (by omega) hl hp
   simp -implicitDefEqProofs [hjn]
 ·have hl':¬(xs.length:Int)=ys.length:=by omega
  have:xs≠ys:=fun h=>hl (by rw[h])
  simp -implicitDefEqProofs [hl',this]
end Go.Eng.T
