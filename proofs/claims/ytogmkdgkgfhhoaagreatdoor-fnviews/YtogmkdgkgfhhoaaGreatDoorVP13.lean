/- Own work: part 13 of the proof of FnViews. -/
import Derived.Test.YtogmkdgkgfhhoaaGreatDoorVEngAL
import Derived.Test.YtogmkdgkgfhhoaaGreatDoorVP11
import Derived.Test.YtogmkdgkgfhhoaaGreatDoorVP12
import Derived.Lib.SlicesCompact
set_option linter.unusedSimpArgs false
set_option linter.unusedVariables false
namespace Go.Eng.T
open Go.Eng.X
def EN:Nat->Ce
 |0=>R 0 [m u] [] [1]
 |1=>R 1 [m s0,e l0,y .add (i 193017) l1,m l2] [(2,3)] []
 |2=>R 2 [m i0] [(3,0)] []
 |3=>R 3 [m s3,m s0,e l1,y .lss l0 l2,m l3,J 4 (m s3),J 4 (y .lss l5 (i 4000)),k l4 l6 f] [(4,7)] []
 |4=>R 5 [m s2,y .mul l0 (i 137),m s0,m s3,A 1 l2 l3,L l4,LG.conv .i64 l5,y .add l1 l6,y .add l7 (i 11),y .and l8 (i 1073741823),m l9] [(2,10)] []
 |5=>R 4 [m s3,y .add l0 i1,m l1] [(3,2)] []
 |_=>R 6 [m s0,m s2,b [N 1,o,o] [(0,1,l0),(2,1,l1)],x 0 l2,m l3] [(1,4)] [0,2,3]
def Ko:Cm:=⟨5,1,[0],0,false,[],U (EN 0) (U (EN 1) (j (U (EN 2) (.block 0 (.loop (j (U (EN 3) (h 4 sk (.exit 0))) (j (.block 1 (d (EN 4))) (d (EN 5))))))) (ur (EN 6)))),[.slot 1]⟩
def Ack:List Tmp:=[0,2,3,4,15]
def D9:Nat->Ce
 |0=>R 0 [m (z 1)] [] [1]
 |1=>Q 1 [m s0,C 478 [v l0,r (i 4)] [],y .add i1 l1,M 1 1 1 [l2],m l3] [(2,4)] [] [] [w 1 3]
 |2=>R 2 [m s0,C 478 [v l0,r (i 4)] [],m l1] [(3,2)] []
 |3=>R 3 [m s3,y .gtr l0 i0] [(4,1)] []
 |4=>Q 5 [m s2,m s0,C 478 [v l1,r (i 6)] [],y .add i1 l2,C 159 [r l0,r l3] [2],m l4] [(2,5)] [] [2] [w 2 3]
 |5=>R 4 [m s3,y .sub l0 i1,m l1] [(3,2)] []
 |_=>R 6 [m s2,m l0] [(1,1)] [0,2,3]
def JJ:Cm:=⟨5,4,[0],1,false,[],U (D9 0) (U (D9 1) (j (U (D9 2) (.block 0 (.loop (j (U (D9 3) (h 4 sk (.exit 0))) (j (.block 1 (d (D9 4))) (d (D9 5))))))) (ur (D9 6)))),[.slot 1]⟩
def Y5:List Tmp:=[0,2,3,4,12]
def CK:Nat->Ce
 |0=>R 0 [m i0] [] [2]
 |1=>R 1 [m s1,y .leq l0 i0] [(6,1)] []
 |2=>R 2 [m i0] [(2,0)] [0,1]
 |3=>R 3 [m s1,y .leq l0 (i 256)] [(7,1)] []
 |4=>R 4 [m s0,C 486 [v l0] [],m s1,y .rem l1 l2,m l3] [(2,4)] [0,1]
 |5=>R 5 [m s0,C 486 [v l0] [],m l1] [(3,2)] []
 |6=>R 6 [m s0,C 486 [v l0] [],m l1] [(4,2)] []
 |7=>R 7 [m s0,C 486 [v l0] [],m l1] [(5,2)] [0]
 |_=>R 8 [m s3,y .mul l0 (i 65536),m s4,y .mul l2 (i 256),y .add l1 l3,m s5,y .add l4 l5,m s1,y .rem l6 l7,m l8] [(2,9)] [1,3,4,5]
def JS:Cm:=⟨8,1,[0,1],1,false,[],U (CK 0) (j (U (CK 1) (hs 6 (ur (CK 2)))) (j (U (CK 3) (hs 7 (ur (CK 4)))) (U (CK 5) (U (CK 6) (U (CK 7) (ur (CK 8))))))),[.slot 2]⟩
def Yu:List Tmp:=[0,1,4,5,6,7,9,11]
def D7:Nat->Ce
 |0=>R 0 [a 1 zE] [(1,0)] []
 |1=>Q 1 [m s0,C 490 [v l0] [2],m s0,C 493 [v l2] [3],m s0,C 478 [v l4,r (i 6)] [],b zE [(0,1,l1),(2,1,l3),(3,1,l5)],a 4 zE,W 4 l7 l6] [(2,7)] [] [] [.ownc 4 1 7]
 |2=>R 2 [m s0,C 478 [v l0,r (i 4)] [],m l1] [(3,2)] []
 |3=>R 3 [m s3,y .gtr l0 i0] [(4,1)] []
 |4=>Y 5 [D (F s2 1) [] [],D (L l0) [4] [],D (m s0) [] [],D (M 5 1 5 [i1,i2,i 3,i 40,i 200]) [5] [5],D (C 481 [v l2,r l3] []) [0,5] [0],D (C 159 [r l1,r l4] [6]) [6,7] [6],D (F s2 1) [] [],D (W 1 l6 l5) [4] [4]] [] [] [5,6] [w 6 7]
 |5=>R 4 [m s3,y .sub l0 i1,m l1] [(3,2)] []
 |_=>R 6 [P 4 s2,W 4 s1 l0] [] [0,2,3]
def JU:Cm:=⟨5,8,[0],1,false,[],U (D7 0) (U (D7 1) (j (U (D7 2) (.block 0 (.loop (j (U (D7 3) (h 4 sk (.exit 0))) (j (.block 1 (d (D7 4))) (d (D7 5))))))) (ur (D7 6)))),[.cell 1 (some 4)]⟩
def Yi:List Tmp:=[0,2,3,4,15]
def LX:Nat->Ce
 |0=>R 0 [m f] [] [2]
 |_=>R 1 [m s0,m s1,C 478 [v l0,r l1] [],y .eql l2 i0,m l3] [(2,4)] [0,1]
def Lm:Cm:=⟨3,1,[0,1],1,false,[],U (LX 0) (ur (LX 1)),[.slot 2]⟩
def Aan:List Tmp:=[0,1,4]
def Bv:Nat->Ce
 |0=>R 0 [a 1 zE] [(1,0)] []
 |1=>Q 1 [m s0,C 488 [v l0] [2,3,4],a 5 zE,W 4 l2 l1] [(2,2)] [] [] [w 2 17,w 3 16,w 4 15]
 |2=>R 2 [m s0,C 478 [v l0,r (i 10)] []] [(3,1)] []
 |3=>R 3 [y .eql s3 i0,m l0] [(4,1)] []
 |4=>Q 4 [m s0,C 480 [v l0] [6],F s2 0,W 1 l2 l1] [] [0,3] [] [w 6 17]
 |5=>R 5 [y .eql s3 i1,m l0] [(5,1)] []
 |6=>Q 6 [m s0,M 7 1 4 [i (-1),i 10,i 255,i 256],C 481 [v l0,r l1] [],M 8 1 1 [l2],F s2 1,W 1 l4 l3] [] [0,3] [] [w 8 16]
 |7=>R 7 [y .eql s3 i2,m l0] [(6,1)] []
 |8=>Q 8 [M 9 1 6 [i1,i2,i 3,i 4,i 5,i 6],F s2 1,W 1 l1 l0] [] [0,3] [] [w 9 16]
 |9=>R 9 [y .eql s3 (i 3),m l0] [(7,1)] []
 |10=>R 10 [m s0,M 10 1 3 [i (-1),i 5,i 6],C 481 [v l0,r l1] [],F s2 3,W 1 l3 l2] [] [0,3]
 |11=>R 11 [y .eql s3 (i 4),m l0] [(8,1)] [3]
 |12=>Y 12 [D (F s2 2) [] [],D (L l0) [5] [],D (m s0) [] [],D (C 491 [v l2] [11,12]) [0,11,12] [0,11,12],D (b [o,N 1,N 1,c] []) [] [],D (M 13 4 2 [l3,l4]) [11,12,13] [11,12,13],D (p 14 4 64 l1 l5) [13,14,15] [13,14,15],D (F s2 2) [] [],D (W 1 l7 l6) [5] [5]] [] [0] [] [w 14 15]
 |_=>R 13 [P 4 s2,W 4 s1 l0] [] [2]
def Lc:Cm:=⟨9,18,[0],1,false,[],U (Bv 0) (U (Bv 1) (j (U (Bv 2) (.block 0 (U (Bv 3) (h 4 (d (Bv 4)) (U (Bv 5) (h 5 (d (Bv 6)) (U (Bv 7) (h 6 (d (Bv 8)) (U (Bv 9) (h 7 (d (Bv 10)) (U (Bv 11) (hs 8 (d (Bv 12)))))))))))))) (ur (Bv 13)))),[.cell 1 (some 4)]⟩
def Aa5:List Tmp:=[0,2,3,7,8,13,20,24,30]
def CJ:Nat->Ce
 |0=>R 0 [a 1 zR] [(1,0)] []
 |1=>Q 1 [m s0,C 478 [v l0,r (i 6)] [],y .add i1 l1,b zR [(0,1,l2)],a 2 zR,W 4 l4 l3] [(2,4)] [] [] [.ownc 2 1 6]
 |2=>R 2 [m s0,C 478 [v l0,r (i 3)] [],m l1] [(3,2)] []
 |3=>R 3 [m s3,y .gtr l0 i0] [(4,1)] []
 |4=>Y 5 [D (F s2 1) [] [],D (L l0) [2] [],D (m s0) [] [],D (C 478 [v l2,r (i 90)] []) [0] [0],D (y .add i1 l3) [] [],D (C 159 [r l1,r l4] [3]) [3,6] [3],D (F s2 1) [] [],D (W 1 l6 l5) [2] [2]] [] [] [3] [w 3 6]
 |5=>R 4 [m s3,y .sub l0 i1,m l1] [(3,2)] []
 |6=>Q 6 [F s2 1,L l0,M 4 1 1 [i 100],q 5 1 8 l1 l2,F s2 1,W 1 l4 l3] [] [3] [] [w 5 6]
 |7=>R 7 [m s0,F s2 1,L l1,e l2,C 478 [v l0,r l3] [],F s2 2,W 1 l5 l4] [] [0]
 |_=>R 8 [P 4 s2,W 4 s1 l0] [] [2]
def Ga:Cm:=⟨5,7,[0],1,false,[],U (CJ 0) (U (CJ 1) (j (U (CJ 2) (.block 0 (.loop (j (U (CJ 3) (h 4 sk (.exit 0))) (j (.block 1 (d (CJ 4))) (d (CJ 5))))))) (U (CJ 6) (U (CJ 7) (ur (CJ 8)))))),[.cell 1 (some 4)]⟩
def YF:List Tmp:=[0,2,3,4,12]
def Bt:Nat->Ce
 |0=>R 0 [a 1 zR] [(1,0)] []
 |1=>Q 1 [m s0,C 487 [v l0] [2],a 3 zR,W 4 l2 l1] [(2,2)] [] [] [w 2 7]
 |2=>R 2 [m s0,C 478 [v l0,r (i 10)] []] [(3,1)] []
 |3=>R 3 [y .eql s3 i0,m l0] [(4,1)] []
 |4=>R 4 [m s0,M 4 1 3 [i0,i 9,i 10],C 481 [v l0,r l1] [],F s2 0,W 1 l3 l2] [] [0,3]
 |5=>R 5 [y .eql s3 i1,m l0] [(5,1)] []
 |6=>T 6 [D (F s2 1) [] [],D (L l0) [3] [],D (m s0) [] [],D (M 5 1 3 [i0,i 101,i 100]) [5] [5],D (C 481 [v l2,r l3] []) [0,5] [0],D (A 1 l1 i0) [7] [],D (W 1 l5 l4) [7] [7]] [] [0,3]
 |7=>R 7 [y .eql s3 i2,m l0] [(6,1)] []
 |8=>R 8 [m s0,F s2 1,L l1,e l2,M 6 1 3 [i (-1),l3,i 9223372036854775807],C 481 [v l0,r l4] [],F s2 2,W 1 l6 l5] [] [0,3]
 |9=>R 9 [y .eql s3 (i 3),m l0] [(7,1)] [0]
 |10=>R 10 [F s2 3,W 1 l0 t] [] [3]
 |11=>R 11 [y .eql s3 (i 4),m l0] [(8,1)] [3]
 |12=>Q 12 [F s2 1,W 1 l0 (z 1)] [] [] [7] [.ownc 3 1 7]
 |_=>R 13 [P 4 s2,W 4 s1 l0] [] [2]
def Lg:Cm:=⟨9,8,[0],1,false,[],U (Bt 0) (U (Bt 1) (j (U (Bt 2) (.block 0 (U (Bt 3) (h 4 (d (Bt 4)) (U (Bt 5) (h 5 (d (Bt 6)) (U (Bt 7) (h 6 (d (Bt 8)) (U (Bt 9) (h 7 (d (Bt 10)) (U (Bt 11) (hs 8 (d (Bt 12)))))))))))))) (ur (Bt 13)))),[.cell 1 (some 4)]⟩
def Z0:List Tmp:=[0,2,3,7,8,14,22,31,34]
def D6:Nat->Ce
 |0=>R 0 [m (z 1)] [] [1]
 |1=>Q 1 [M 1 1 0 [],m l0] [(2,1)] [] [] [w 1 4]
 |2=>R 2 [m s0,C 478 [v l0,r (i 5)] [],m l1] [(3,2)] []
 |3=>R 3 [m s3,y .gtr l0 i0] [(4,1)] []
 |4=>Q 5 [m s2,m s0,M 2 1 6 [i1,i2,i 3,i 10,i 40,i 200],C 481 [v l1,r l2] [],C 159 [r l0,r l3] [3],m l4] [(2,5)] [] [2,3] [w 3 4]
 |5=>R 4 [m s3,y .sub l0 i1,m l1] [(3,2)] []
 |_=>R 6 [m s2,m l0] [(1,1)] [0,2,3]
def JK:Cm:=⟨5,5,[0],1,false,[],U (D6 0) (U (D6 1) (j (U (D6 2) (.block 0 (.loop (j (U (D6 3) (h 4 sk (.exit 0))) (j (.block 1 (d (D6 4))) (d (D6 5))))))) (ur (D6 6)))),[.slot 1]⟩
def Zp:List Tmp:=[0,2,3,4,9]
def Ep:Nat->Ce
 |0=>R 0 [m i0] [] [1]
 |1=>R 1 [m s0,m s0,F l1 0,F l2 2,L l3,y .mul l4 (i 6364136223846793005),y .add l5 (i 1442695040888963407),F l0 0,F l7 2,W 1 l8 l6] [] []
 |2=>T 2 [D (m s0) [] [],D (F l0 0) [] [],D (F l1 2) [] [],D (L l2) [0] [],D (y .shr l3 (.con (.sc (.int .u64 33)))) [] [],D (m s0) [] [],D (F l5 0) [] [],D (F l6 2) [] [],D (L l7) [0] [],D (y .shr l8 (.con (.sc (.int .u64 47)))) [] [],D (y .xor l4 l9) [] [],D (y .and l10 (i 255)) [] [],D (m Iz) [] []] [(2,12)] []
 |3=>T 3 [D (m s0) [] [],D (F l0 0) [] [],D (F l1 1) [] [],D (L l2) [0] [],D (m s0) [] [],D (F l4 0) [] [],D (F l5 0) [] [],D (L l6) [0] [],D (e l7) [] [],D (y .lss l3 l8) [] []] [(3,9)] []
 |4=>T 4 [D (m s2) [] [],D (m s0) [] [],D (F l1 0) [] [],D (F l2 0) [] [],D (L l3) [0] [],D (m s0) [] [],D (F l5 0) [] [],D (F l6 1) [] [],D (L l7) [0] [],D (A 1 l4 l8) [] [],D (L l9) [] [],D (.conv .i64 l10) [] [],D (y .add l0 Iz) [] [],D (y .and K6 (i 255)) [] [],D (m ME) [] []] [(2,14)] []
 |5=>R 5 [m s0,m s0,F l1 0,F l2 1,L l3,y .add l4 i1,F l0 0,F l6 1,W 1 l7 l5] [] [0]
 |_=>R 6 [m s2,m l0] [(1,1)] [2]
def Lr:Cm:=⟨4,1,[0],1,false,[],U (Ep 0) (U (Ep 1) (U (Ep 2) (j (U (Ep 3) (hs 3 (U (Ep 4) (d (Ep 5))))) (ur (Ep 6))))),[.slot 1]⟩
def Abc:List Tmp:=[0,2,3,34]
def Eb:Nat->Ce
 |0=>R 0 [m (z 4)] [] [1]
 |1=>Q 1 [M 1 4 0 [],m l0] [(2,1)] [] [] [w 1 6]
 |2=>R 2 [m s0,C 478 [v l0,r (i 4)] [],m l1] [(3,2)] []
 |3=>R 3 [m s3,y .gtr l0 i0] [(4,1)] []
 |4=>Q 5 [m s2,m s0,C 494 [v l1] [2,3],M 4 4 1 [l2],p 5 4 64 l0 l3,m l4] [(2,5)] [] [2,3,4,5] [w 5 6]
 |5=>R 4 [m s3,y .sub l0 i1,m l1] [(3,2)] []
 |_=>R 6 [m s2,m l0] [(1,1)] [0,2,3]
def JO:Cm:=⟨5,7,[0],1,false,[],U (Eb 0) (U (Eb 1) (j (U (Eb 2) (.block 0 (.loop (j (U (Eb 3) (h 4 sk (.exit 0))) (j (.block 1 (d (Eb 4))) (d (Eb 5))))))) (ur (Eb 6)))),[.slot 1]⟩
def Yz:List Tmp:=[0,2,3,4,9]
def Nl:Nat->Ce
 |0=>R 0 [m i0] [] [2]
 |_=>R 1 [m s1,m s0,m s1,e l2,C 478 [v l1,r l3] [],A 1 l0 l4,L l5,m l6] [(2,7)] [0,1]
def MP:Cm:=⟨3,1,[0,1],1,false,[],U (Nl 0) (ur (Nl 1)),[.slot 2]⟩
def AcT:List Tmp:=[0,1,4]
def Cx:Nat->Ce
 |0=>R 0 [m (z 1)] [] [1]
 |1=>Q 1 [m s0,C 490 [v l0] [1],m l1] [(2,2)] [] [] [w 1 6]
 |2=>R 2 [m s0,C 478 [v l0,r (i 9)] []] [(3,1)] []
 |3=>R 3 [y .eql s3 i0,m l0] [(4,1)] []
 |4=>R 4 [m s2,m s0,M 2 1 4 [i0,i (-1),i 9,i 10],C 481 [v l1,r l2] [],A 1 l0 i0,W 1 l4 l3] [] [0,3]
 |5=>R 5 [y .eql s3 i1,m l0] [(5,1)] [0]
 |6=>Q 6 [m s2,m s2,A 1 l1 i0,L l2,M 3 1 1 [l3],q 4 1 8 l0 l4,m l5] [(2,6)] [3] [] [w 4 6]
 |7=>R 7 [y .eql s3 i2,m l0] [(6,1)] [3]
 |8=>Q 8 [M 5 1 0 [],m l0] [(2,1)] [] [] [w 5 6]
 |_=>R 9 [m s2,m l0] [(1,1)] [2]
def GD:Cm:=⟨7,7,[0],1,false,[],U (Cx 0) (U (Cx 1) (j (U (Cx 2) (.block 0 (U (Cx 3) (h 4 (d (Cx 4)) (U (Cx 5) (h 5 (d (Cx 6)) (U (Cx 7) (hs 6 (d (Cx 8)))))))))) (ur (Cx 9)))),[.slot 1]⟩
def Abn:List Tmp:=[0,2,3,7,8,15,23]
def Cy:Nat->Ce
 |0=>R 0 [a 1 [o,N 1,N 1,c]] [(1,0)] []
 |1=>Q 1 [m s0,C 494 [v l0] [2,3],a 4 [o,N 1,N 1,c],W 4 l2 l1] [(2,2)] [] [] [w 2 10,w 3 9]
 |2=>R 2 [m s0,C 478 [v l0,r (i 12)] []] [(3,1)] []
 |3=>R 3 [y .eql s3 i0,m l0] [(4,1)] []
 |4=>R 4 [m s0,M 5 1 3 [i (-1),i 9,i 10],C 481 [v l0,r l1] [],F s2 0,W 1 l3 l2] [] [0,3]
 |5=>R 5 [y .eql s3 i1,m l0] [(5,1)] []
 |6=>Q 6 [m s0,M 6 1 3 [i (-1),i 255,i 256],C 481 [v l0,r l1] [],M 7 1 1 [l2],F s2 1,W 1 l4 l3] [] [0,3] [] [w 7 10]
 |7=>R 7 [y .eql s3 i2,m l0] [(6,1)] [0,3]
 |8=>Q 8 [M 8 1 7 [i1,i2,i 3,i 4,i 5,i 6,i 7],F s2 2,W 1 l1 l0] [] [] [] [w 8 9]
 |_=>R 9 [P 4 s2,W 4 s1 l0] [] [2]
def Ll:Cm:=⟨7,11,[0],1,false,[],U (Cy 0) (U (Cy 1) (j (U (Cy 2) (.block 0 (U (Cy 3) (h 4 (d (Cy 4)) (U (Cy 5) (h 5 (d (Cy 6)) (U (Cy 7) (hs 6 (d (Cy 8)))))))))) (ur (Cy 9)))),[.cell 1 (some 4)]⟩
def AaL:List Tmp:=[0,2,3,7,8,14,21]
def AY:Nat->Ce
 |0=>R 0 [a 1 zW] [(1,0)] []
 |1=>R 1 [M 2 1 1 [i1],m s0,C 478 [v l1,r i2] [],y .add i2 l2,C 159 [r l0,r l3] [3],m s0,C 478 [v l5,r i2] [],y .add (i 4) l6,C 159 [r l4,r l7] [4],m l8] [(2,9)] []
 |2=>R 2 [m s0,C 487 [v l0] [5],a 6 zR,W 4 l2 l1] [(3,2)] []
 |3=>R 3 [m s2,m s2,e l1,y .sub l2 i1,A 1 l0 l3,L l4,F s3 0,W 1 l6 l5] [] []
 |4=>R 4 [F s3 2,W 1 l0 i0] [] []
 |5=>Q 5 [M 7 4 0 [],m l0] [(4,1)] [] [] [w 7 24]
 |6=>R 6 [m s0,C 478 [v l0,r (i 4)] [],y .add i2 l1,m l2] [(5,3)] []
 |7=>R 7 [m s5,y .gtr l0 i0] [(8,1)] []
 |8=>Q 9 [m s0,C 488 [v l0] [8,9,10],a 11 zE,W 4 l2 l1] [(6,2)] [] [8,9,10,11] []
 |9=>Q 10 [M 12 1 1 [i1],m s0,C 478 [v l1,r i2] [],y .add i2 l2,C 159 [r l0,r l3] [13],F s6 0,W 1 l5 l4] [] [] [12,13] []
 |10=>Q 11 [m s4,P 4 s6,M 14 4 1 [l1],p 15 4 80 l0 l2,m l3] [(4,4)] [6] [14,15] [w 15 24]
 |11=>R 8 [m s5,y .sub l0 i1,m l1] [(5,2)] []
 |12=>T 12 [D (m s2) [] [],D (m s0) [] [],D (C 489 [v l1] [16]) [0,16] [0,16],D (m s4) [] [],D (P 4 s3) [6] [],D (C 70 [r l0,r l2,r l3,r l4] [17,18,19,20,21,22]) [4,5,16,17,18,19,20,21,22,24] [17,18,19,20,21,22],D (m l5) [] [],D (X l6 0) [] [],D (X l6 1) [] [],D (a 23 zW) [23] [23],D (W 15 l9 l7) [23] [23],D (m l8) [] []] [(7,9)] [0,2,3,4,5]
 |_=>R 13 [P 15 s7,W 15 s1 l0] [] [7]
def I5:Cm:=⟨9,25,[0],1,false,[],U (AY 0) (U (AY 1) (U (AY 2) (U (AY 3) (U (AY 4) (U (AY 5) (j (U (AY 6) (.block 0 (.loop (j (U (AY 7) (h 8 sk (.exit 0))) (j (.block 1 (U (AY 8) (U (AY 9) (d (AY 10))))) (d (AY 11))))))) (U (AY 12) (ur (AY 13))))))))),[.cell 1 (some 15)]⟩
def WW:List Tmp:=[0,2,3,4,5,6,7,8,34]
def BD:Nat->Ce
 |0=>R 0 [a 1 [o,N 1,N 1,c]] [(1,0)] []
 |1=>Q 1 [b [o,N 1,N 1,c] [],a 2 [o,N 1,N 1,c],W 4 l1 l0] [(2,1)] [] [] [.ownc 2 1 6,.ownc 2 2 5]
 |2=>R 2 [m s0,C 478 [v l0,r (i 7)] []] [(3,1)] []
 |3=>R 3 [y .eql s3 i0,m l0] [(4,1)] []
 |4=>R 4 [m s0,C 478 [v l0,r (i 6)] [],y .add i1 l1,F s2 0,W 1 l3 l2] [] [0,3]
 |5=>R 5 [y .eql s3 i1,m l0] [(5,1)] []
 |6=>Q 6 [m s0,C 489 [v l0] [3],F s2 1,W 1 l2 l1] [] [0,3] [] [w 3 6]
 |7=>R 7 [y .eql s3 i2,m l0] [(6,1)] []
 |8=>Q 8 [m s0,C 489 [v l0] [4],F s2 2,W 1 l2 l1] [] [0,3] [] [w 4 5]
 |9=>R 9 [y .eql s3 (i 3),m l0] [(7,1)] [0,3]
 |10=>R 10 [F s2 3,W 1 l0 t] [] []
 |_=>R 11 [P 4 s2,W 4 s1 l0] [] [2]
def JQ:Cm:=⟨8,7,[0],1,false,[],U (BD 0) (U (BD 1) (j (U (BD 2) (.block 0 (U (BD 3) (h 4 (d (BD 4)) (U (BD 5) (h 5 (d (BD 6)) (U (BD 7) (h 6 (d (BD 8)) (U (BD 9) (hs 7 (d (BD 10)))))))))))) (ur (BD 11)))),[.cell 1 (some 4)]⟩
def Yh:List Tmp:=[0,2,3,6,7,13,18,23]
def GA:Nat->Ce
 |0=>R 0 [a 1 zW] [(1,0)] []
 |1=>R 1 [m s0,C 479 [v l0] [2,3,4,5,6,7],a 8 zW,W 15 l2 l1] [(2,2)] []
 |_=>T 2 [D (P 15 s2) [8] [],D (m s0) [] [],D (C 484 [v l1,r (i 16)] [9]) [0,9] [0,9],D (C 485 [r l0,r l2] [10,11,12,13,14,15]) [2,3,4,5,6,7,9,10,11,12,13,14,15] [10,11,12,13,14,15],D (W 15 s1 l3) [1] [1]] [] [0,2]
def IK:Cm:=⟨3,16,[0],1,false,[],U (GA 0) (U (GA 1) (ur (GA 2))),[.cell 1 (some 15)]⟩
def Wm:List Tmp:=[0,2,3]
def CZ:Nat->Ce
 |0=>R 0 [m (z 6)] [] [2]
 |1=>Q 1 [b [o,o,o,N 1,N 1,c] [(0,1,i2)],M 1 6 1 [l0],m l1] [(3,2)] [] [] [w 1 6]
 |2=>R 2 [m s0,m s1,C 478 [v l0,r l1] [],m l2] [(4,3)] [1]
 |3=>R 3 [m s4,y .gtr l0 i0] [(5,1)] []
 |4=>Q 5 [m s3,m s0,C 492 [v l1] [2,3],M 4 6 1 [l2],p 5 6 80 l0 l3,m l4] [(3,5)] [] [2,3,4,5] [w 5 6]
 |5=>R 4 [m s4,y .sub l0 i1,m l1] [(4,2)] []
 |_=>R 6 [m s3,m l0] [(2,1)] [0,3,4]
def Hq:Cm:=⟨6,7,[0,1],1,false,[],U (CZ 0) (U (CZ 1) (j (U (CZ 2) (.block 0 (.loop (j (U (CZ 3) (h 5 sk (.exit 0))) (j (.block 1 (d (CZ 4))) (d (CZ 5))))))) (ur (CZ 6)))),[.slot 2]⟩
def VT:List Tmp:=[0,1,4,5,6,13]
def Ay:Nat->Ce
 |0=>R 0 [a 1 [o,o,o,N 1,N 1,c]] [(1,0)] []
 |1=>R 1 [m s0,C 478 [v l0,r (i 12)] []] [(2,1)] []
 |2=>R 2 [y .eql s2 i0,m l0] [(3,1)] []
 |3=>R 3 [b [o,o,o,N 1,N 1,c] [(0,1,i2)],W 6 s1 l0] [] [0,2]
 |4=>R 4 [y .eql s2 i1,m l0] [(4,1),(10,1)] []
 |5=>R 5 [y .eql s2 i2,m l0] [(4,1),(10,1)] []
 |6=>R 6 [b [o,o,o,N 1,N 1,c] [(0,1,i 3)],W 6 s1 l0] [] [0,2]
 |7=>R 7 [y .eql s2 (i 3),m l0] [(5,1)] []
 |8=>R 8 [m s0,C 478 [v l0,r (i 5)] [],y .add i1 l1,b [o,o,o,N 1,N 1,c] [(0,1,i 4),(1,1,l2)],W 6 s1 l3] [] [0,2]
 |9=>R 9 [y .eql s2 (i 4),m l0] [(6,1)] []
 |10=>R 10 [m s0,C 478 [v l0,r (i 6)] [],y .add i1 l1,b [o,o,o,N 1,N 1,c] [(0,1,i 5),(1,1,l2)],W 6 s1 l3] [] [0,2]
 |11=>R 11 [y .eql s2 (i 5),m l0] [(7,1)] []
 |12=>R 12 [m s0,C 478 [v l0,r (i 5)] [],m s0,C 494 [v l2] [2,3],b [o,o,o,N 1,N 1,c] [(0,1,i 6),(1,1,l1),(2,4,l3)],W 6 s1 l4] [] [0,2]
 |13=>R 13 [y .eql s2 (i 6),m l0] [(8,1)] []
 |14=>R 14 [m s0,C 478 [v l0,r (i 5)] [],b [o,o,o,N 1,N 1,c] [(0,1,i 7),(1,1,l1)],W 6 s1 l2] [] [0,2]
 |15=>R 15 [y .eql s2 (i 7),m l0] [(9,1)] [2]
 |16=>R 16 [m s0,C 478 [v l0,r (i 3)] [],y .add i1 l1,b [o,o,o,N 1,N 1,c] [(0,1,i 8),(1,1,l2)],W 6 s1 l3] [] [0]
 |_=>R 17 [m s0,C 478 [v l0,r (i 5)] [],b [o,o,o,N 1,N 1,c] [(0,1,i1),(1,1,l1)],W 6 s1 l2] [] [0]
def Il:Cm:=⟨11,4,[0],1,false,[],U (Ay 0) (j (U (Ay 1) (.block 0 (U (Ay 2) (h 3 (ur (Ay 3)) (j (U (Ay 4) (h 4 sk (d (Ay 5)))) (h 10 (ur (Ay 6)) (U (Ay 7) (h 5 (ur (Ay 8)) (U (Ay 9) (h 6 (ur (Ay 10)) (U (Ay 11) (h 7 (ur (Ay 12)) (U (Ay 13) (h 8 (ur (Ay 14)) (U (Ay 15) (hs 9 (ur (Ay 16)))))))))))))))))) (ur (Ay 17))),[.cell 1 (some 6)]⟩
def Xe:List Tmp:=[0,2,4,5,8,12,18,24,31,36,8]
def Be:Nat->Ce
 |0=>R 0 [m (z 2)] [] [2]
 |1=>R 1 [m s1,C 310 [r l0] [],m l1] [(3,2)] []
 |2=>R 2 [m s0,C 311 [r l0] [0],m l1] [(4,2)] []
 |3=>R 3 [m s0,C 312 [r l0] [],n l1,m l2,G 3 (m s0),G 3 (e l4),G 3 (y .geq l5 (i 6)),k l3 t l6,m l7,G 8 (m s0),G 8 (m s3),G 8 (C 309 [r l9,r l10] []),G 8 (y .geq Iz i0),k l8 t K6] [(8,13)] []
 |4=>R 4 [m s4,m l0] [(2,1)] [0,1,3,4]
 |5=>Q 5 [m s3,b [o,N 1] [(0,1,l0)],a 1 [o,N 1],W 2 l2 l1] [(5,2)] [3] [] [.ownc 1 1 9]
 |6=>R 6 [m s1,C 313 [r l0,r i2,r (i 3)] [],m l1] [(6,2)] []
 |7=>R 7 [m s6,y .gtr l0 i0] [(9,1)] []
 |8=>Y 9 [D (F s5 1) [] [],D (L l0) [1] [],D (m s1) [] [],D (C 313 [r l2,r (i 3),r (i 256)] []) [] [],D (M 2 1 1 [l3]) [2] [2],D (q 3 1 8 l1 l4) [2,3,9] [3,9],D (F s5 1) [] [],D (W 1 l6 l5) [1] [1]] [] [] [2,3] [w 3 9]
 |9=>R 8 [m s6,y .sub l0 i1,m l1] [(6,2)] []
 |10=>R 10 [m s1,m s0,e l1,y .add l2 i1,C 313 [r l0,r i1,r l3] [],m l4] [(7,5)] [0,1,6]
 |_=>T 11 [D (M 4 2 0 []) [4] [4],D (m s4) [] [],D (m s7) [] [],D (.slice 2 l1 none (some l2)) [0] [],D (p 5 2 32 l0 l3) [0,4,5,100000] [0,4,5,100000],D (P 2 s5) [1] [],D (M 6 2 1 [l5]) [6,9] [6,9],D (p 7 2 32 l4 l6) [5,6,7] [5,6,7],D (m s4) [] [],D (m s7) [] [],D (.slice 2 l8 (some l9) none) [0] [],D (p 8 2 32 l7 l10) [0,7,8,100000] [0,7,8,100000],D (m Iz) [] []] [(2,12)] [4,5,7]
def KR:Cm:=⟨10,10,[0,1],0,false,[],U (Be 0) (U (Be 1) (U (Be 2) (j (U (Be 3) (hs 8 (ur (Be 4)))) (U (Be 5) (j (U (Be 6) (.block 0 (.loop (j (U (Be 7) (h 9 sk (.exit 0))) (j (.block 1 (d (Be 8))) (d (Be 9))))))) (U (Be 10) (ur (Be 11)))))))),[.slot 2]⟩
def UO:List Tmp:=[0,1,4,5,6,7,8,9,27,34]
attribute [simp] EN Ko D9 JJ CK JS D7 JU LX Lm Bv Lc CJ Ga Bt Lg D6 JK Ep Lr Eb JO Nl MP Cx GD Cy Ll AY I5 BD JQ GA IK CZ Hq Ay Il Be KR
end Go.Eng.T
namespace Go.Eng.T
set_option maxRecDepth 20000
set_option maxHeartbeats 1000000
variable (D:Dn)
theorem Aer:Uu (Body D KL):=by
 intro xs ys h1 h2
 unfold maxLen at h1 h2
 by_cases hl:xs.length=ys.length
 rotate_left
 ·have hl':¬(xs.length:Int)=ys.length:=by omega
  have:xs≠ys:=fun h=>hl (by rw[h])
  simp -implicitDefEqProofs [hl',this]
 have hl':(xs.length:Int)=ys.length:=by omega
 simp -implicitDefEqProofs [hl']
 refine Ag (fun k s=>∃j,j+k=xs.length/\xs.take j=ys.take j/\s=⟨[.sl 1 1 xs.length (ints xs),.sl 1 1 ys.length (ints ys),.undef,I j,.undef,.undef,.undef],[]⟩) ?_ (xs.length) _ ⟨0,by simp,by simp,by simp⟩
 intro k s ⟨j,hj,hp,hs⟩
 subst hs
 by_cases hjn:j<xs.length
 ·have hw:=Cv (j:=j) (by omega)
  have hy:j<ys.length:=by omega
  by_cases he:xs[j]=ys[j]
  ·simp -implicitDefEqProofs [hjn,hy,he]
   exact⟨k-1,by omega,j+1,by omega,Adh hjn hy hp he,by simp[hw]⟩
  ·have hne:xs≠ys:=fun h=>he (by simp[h])
   simp -implicitDefEqProofs [hjn,hy,he,hne]
 ·obtain rfl:xs=ys:=Agx (by omega) hl hp
  simp -implicitDefEqProofs [hjn]
variable (R:Rel)
abbrev VY:Prop:=∀a b:List Ext,OD a->OD b->R [.sl 1 2 a.length (a.flatMap Cc),.sl 1 2 b.length (b.flatMap Cc)] [] (B (decide (a=b))) []
theorem ext_eq {a b:Ext} (h1:a.tag=b.tag) (h2:a.body=b.body):a=b:=by cases a;cases b;simp_all
theorem Ad1 (hE:Uu (D 355)):VY (Body D KM):=by
 intro a b ha hb
 have h1:=ha.1
 have h2:=hb.1
 by_cases hl:a.length=b.length
 rotate_left
 ·have hl':¬(a.length:Int)=b.length:=by omega
  have:a≠b:=fun h=>hl (by rw[h])
  simp -implicitDefEqProofs [hl',this]
 have hl':(a.length:Int)=b.length:=by omega
 simp -implicitDefEqProofs [hl']
 refine Ag (fun k s=>∃j,j+k=a.length/\a.take j=b.take j/\s=⟨[.sl 1 2 a.length (a.flatMap Cc),.sl 1 2 b.length (b.flatMap Cc),.undef,I j,.undef,.undef,.undef],[]⟩) ?_ (a.length) _ ⟨0,by simp,by simp,by simp⟩
 intro k s ⟨j,hj,hp,hs⟩
 subst hs
 by_cases hjn:j<a.length
 ·have hw:=Cv (j:=j) (by omega)
  have hy:j<b.length:=by omega
  by_cases g1:a[j].tag=b[j].tag
  rotate_left
  ·have hne:a≠b:=fun h=>g1 (by simp[h])
   simp -implicitDefEqProofs [hjn,hy,g1,hne]
  simp -implicitDefEqProofs [hjn,hy,g1]
  refine Aa (hE a[j].body b[j].body (by have:=P5 ha hjn;unfold maxLen;omega) (by have:=P5 hb hy;unfold maxLen;omega)) ?_
  by_cases g2:a[j].body=b[j].body
  ·simp -implicitDefEqProofs [g2]
   exact⟨k-1,by omega,j+1,by omega,Adh hjn hy hp (ext_eq g1 g2),by simp[hw]⟩
  ·have hne:a≠b:=fun h=>g2 (by simp[h])
   simp -implicitDefEqProofs [g2,hne]
 ·obtain rfl:a=b:=Agx (by omega) hl hp
  simp -implicitDefEqProofs [hjn]
abbrev R7:Prop:=∀a b:Hello,hB a->hB b->R [arg (Ck a),arg (Ck b)] [] (B (decide (a=b))) []
theorem AfH {a b:Hello} (h1:a.versions=b.versions) (h2:a.exts=b.exts):a=b:=by cases a;cases b;simp_all
theorem Aby (hE:Uu (D 355)) (hX:VY (D 356)):R7 (Body D IW):=by
 intro a b ha hb
 simp -implicitDefEqProofs
 refine Aa (hE a.versions b.versions (by have:=ha.1;unfold maxLen;omega) (by have:=hb.1;unfold maxLen;omega)) ?_
 by_cases g1:a.versions=b.versions
 rotate_left
 ·have hne:a≠b:=fun h=>g1 (by simp[h])
  simp -implicitDefEqProofs [g1,hne]
 simp -implicitDefEqProofs [g1]
 refine Aa (hX a.exts b.exts ha.2 hb.2) ?_
 by_cases g2:a.exts=b.exts
 ·have e:=AfH g1 g2
  simp -implicitDefEqProofs [g2,e]
 ·have hne:a≠b:=fun h=>g2 (by simp[h])
  simp -implicitDefEqProofs [g2,hne]
theorem Ads:∀ {path:List EG} {h:Hello},hB h->hB (Gd path h).1
 | [],h,hh=>hh
 | b::r,h,hh=>by
  unfold Gd
  split
  ·exact Ads (Ajy hh)
  ·exact Aba
theorem QY {path:List EG} {h:Hello} (hh:hB h):hB (Bd path h).1:=by
 unfold Bd
 split
 ·exact Ads hh
 ·exact Aba
theorem XO:∀ {path:List EG} {h:Hello},(Gd path h).2=true->(Gd path h).1.versions=h.versions
 | [],h,_=>rfl
 | b::r,h,hk=>by
  unfold Gd at hk⊢
  split at hk
  ·rename_i hb
   rw[if_pos hb,XO hk]
   unfold BV at hb⊢
   split at hb
   ·rename_i hc;rw[if_pos hc]
   ·cases hb
  ·cases hk
theorem Ab9 {path:List EG} {h:Hello} (hk:(Bd path h).2=true):(Bd path h).1.versions=h.versions:=by
 unfold Bd at hk⊢
 split at hk
 ·rename_i hc;rw[if_pos hc];exact XO hk
 ·cases hk
def FB (h:Hello) (path:List EG):Bool:=(Bd path h).2&&decide ((Bd path h).1=h)
abbrev Ld:Prop:=∀(h:Hello) (path:List EG),hB h->lnS Kh path->R [arg (Ck h),.sl 1 4 path.length (path.flatMap DT)] [] (B (FB h path)) []
theorem ZX (hP:Jj (D 286)) (hQ:R7 (D 328)):Ld (Body D IU):=by
 intro h path hh hb
 simp -implicitDefEqProofs
 refine Aa (hP path h hb hh) ?_
 have hr:=QY (path:=path) hh
 have e:FB h path=((Bd path h).2&&decide ((Bd path h).1=h)):=rfl
 generalize Bd path h=r at hr e
 by_cases g1:r.2=true
 rotate_left
 ·simp -implicitDefEqProofs [g1,e]
 simp -implicitDefEqProofs [g1]
 refine Aa (hQ r.1 h hr hh) ?_
 simp -implicitDefEqProofs [e,g1]
set_option maxHeartbeats 1000000
def M4 (path:List EG) (vs:List Int) (x:Ext):Bool:= !FB ⟨vs.take 1,[x]⟩ path
def FZ (path:List EG) (vs:List Int) (l:List Ext):List Int:=if Ej l&&isOpen path vs then Ba (l.filter (M4 path vs))else []
abbrev R6:Prop:=∀(path:List EG) (vs:List Int) (l:List Ext),lnS Kh path->vs.length<=4194304->OD l->R [.sl 1 4 path.length (path.flatMap DT),.sl 1 1 vs.length (ints vs),.sl 1 2 l.length (l.flatMap Cc)] [] (.sl 0 1 (FZ path vs l).length (ints (FZ path vs l))) []
theorem AnB {path:List EG} {vs:List Int} (h:isOpen path vs=true):0<vs.length:=by
 unfold isOpen at h
 simp only[Bool.and_eq_true]at h
 exact ZT h.1
theorem Ajd {p:Ext->Bool} {l:List Ext} {j:Nat} (h:j<l.length):Ba ((l.take (j+1)).filter p)=Ba ((l.take j).filter p)++(if p l[j]then [l[j].tag]else []):=by
 rw[AaH h]
 unfold Ba
 rw[List.map_append]
 split<;>simp
theorem AlJ {p:Ext->Bool} {l:List Ext} {j:Nat}:(Ba ((l.take j).filter p)).length<=j:=by
 unfold Ba
 rw[List.length_map]
 exact Adw
theorem AhU {path:List EG} {vs:List Int} {x:Ext}:M4 path vs x= !((Bd path ⟨vs.take 1,[x]⟩).2&&decide ((Bd path ⟨vs.take 1,[x]⟩).1.exts=[x])):=by
 unfold M4 FB
 by_cases h:(Bd path ⟨vs.take 1,[x]⟩).2=true
 ·have hv:=Ab9 h
  have e:decide ((Bd path ⟨vs.take 1,[x]⟩).1=⟨vs.take 1,[x]⟩)=decide ((Bd path ⟨vs.take 1,[x]⟩).1.exts=[x]):=by
   rw[decide_eq_decide]
   constructor
   ·intro h1;rw[h1]
   ·intro h1;exact AfH hv h1
  rw[e]
 ·simp[h]
theorem Ago (hA:JX (D 312)) (hO:J4 (D 260)) (hH:JZ (D 256)) (hP:Jj (D 286)) (hX:VY (D 356)):R6 (Body D Mv):=by
 intro path vs l hb hv hl
 have hll:=hl.1
 simp -implicitDefEqProofs
 refine Aa (hA l hl) ?_
 by_cases h1:Ej l=true
 rotate_left
 ·simp -implicitDefEqProofs [h1,FZ]
 simp -implicitDefEqProofs [h1]
 refine Aa (hO path vs hb hv) ?_
 by_cases h2:isOpen path vs=true
 rotate_left
 ·simp -implicitDefEqProofs [h2,h1,FZ]
 have e:FZ path vs l=Ba (l.filter (M4 path vs)):=by unfold FZ;rw[h1,h2];rfl
 have hpos:=AnB h2
 have h1l:(1:Int)<=vs.length:=by omega
 have h1n:1<=vs.length:=by omega
 have hlen:(vs.take 1).length=1:=by simp;omega
 have hmin:min 1 vs.length=1:=by omega
 rw[e]
 simp -implicitDefEqProofs [h2]
 refine Ag (fun k s=>∃j o1 o2 o3 o4 o5 o6 o7 o8,j+k=l.length/\s=⟨[.sl 1 4 path.length (path.flatMap DT),.sl 1 1 vs.length (ints vs),.sl 1 2 l.length (l.flatMap Cc),.undef,.arr 9,I j,.undef,.undef,.undef,.undef,.undef,.undef],[.free,o1,o2,o3,o4,o5,o6,o7,o8,.arr 1 0 (Ba ((l.take j).filter (M4 path vs))).length (ints (Ba ((l.take j).filter (M4 path vs))))]⟩) ?_ (l.length) _ ⟨0,.free,.free,.free,.free,.free,.free,.free,.free,by simp,by simp[Ba,ints]⟩
 intro k s ⟨j,o1,o2,o3,o4,o5,o6,o7,o8,hj,hs⟩
 subst hs
 by_cases hjn:j<l.length
 ·have hw:=Cv (j:=j) (by omega)
  have hst:=Ajd (p:=M4 path vs) hjn
  have hfl:=AlJ (p:=M4 path vs) (l:=l) (j:=j)
  have hb1:((Ba ((l.take j).filter (M4 path vs))).length+1)*8<=1099511627776:=by omega
  have hw1:IntKind.i64.wrap ((j:Int)+1)=(j:Int)+1:=Ad (by omega) (by omega)
  have hj1:j+1<=l.length:=by omega
  have hj2:(j:Int)+1<=l.length:=by omega
  have hjj:(j:Int)<=(j:Int)+1:=by omega
  have h11:j+1-j=1:=by omega
  simp -implicitDefEqProofs [hjn,h1l,h1n]
  have hh:=hH (vs.take 1) (by omega)
  rw[hlen]at hh
  refine Aa (hh) ?_
  have hdt:(l.drop j).take 1=[l[j]]:=by rw[List.drop_eq_getElem_cons hjn];rfl
  simp -implicitDefEqProofs [hmin,hw1,hj1,hj2,hjj,h11,hdt]
  have hhB:hB ⟨vs.take 1,[l[j]]⟩:=⟨by simp;omega,by simp,by intro x hx;simp at hx;subst hx;exact P5 hl hjn⟩
  have hp:=hP path ⟨vs.take 1,[l[j]]⟩ hb hhB
  have hr:=QY (path:=path) hhB
  have hq:=AhU (path:=path) (vs:=vs) (x:=l[j])
  simp -implicitDefEqProofs [hmin,arg]at hp
  refine Aa (hp) ?_
  generalize Bd path ⟨vs.take 1,[l[j]]⟩=r at hr hq
  by_cases g1:r.2=true
  rotate_left
  ·have h3:M4 path vs l[j]=true:=by rw[hq];simp[g1]
   rw[if_pos h3]at hst
   simp -implicitDefEqProofs [g1,hjn,hb1]
   exact⟨k-1,by omega,j+1,by omega,by simp[hw],by rw[hst];simp,by rw[hst]⟩
  simp -implicitDefEqProofs [g1]
  have hx:=hX r.1.exts [l[j]] hr.2 hhB.2
  simp -implicitDefEqProofs [arg]at hx
  refine Aa (hx) ?_
  by_cases g2:r.1.exts=[l[j]]
  ·have h3:¬M4 path vs l[j]=true:=by rw[hq];simp[g1,g2]
   rw[if_neg h3,List.append_nil]at hst
   simp -implicitDefEqProofs [g2]
   exact⟨k-1,by omega,j+1,by omega,by simp[hw],by rw[hst],by rw[hst]⟩
  ·have h3:M4 path vs l[j]=true:=by rw[hq];simp[g2]
   rw[if_pos h3]at hst
   simp -implicitDefEqProofs [g2,hjn,hb1]
   exact⟨k-1,by omega,j+1,by omega,by simp[hw],by rw[hst];simp,by rw[hst]⟩
 ·have e2:(l.take j).filter (M4 path vs)=l.filter (M4 path vs):=AdG (by omega)
  simp -implicitDefEqProofs [hjn,e2]
set_option maxHeartbeats 1000000
theorem PE (a b:List Int):(leftOf a b).length<=a.length:=List.length_filter_le _ _
def ET (h:Hello) (lv lt:List Int):Hello×Bool:=if Dt h&& !decide (leftOf h.versions lv=[])then(⟨leftOf h.versions lv,kept (fun t=> !decide (t∈lt)) h.exts⟩,true)else(AU,false)
abbrev Po:Prop:=∀(h:Hello) (lv lt:List Int),hB h->lv.length<=4194304->lt.length<=4194304->R [arg (Ck h),.sl 1 1 lv.length (ints lv),.sl 1 1 lt.length (ints lt)] [] (.tup [.agg (Ck (ET h lv lt).1),B (ET h lv lt).2]) []
theorem Aeu (hI:Gr (D 285)) (hH:UQ (D 166)):Po (Body D Ku):=by
 intro h lv lt hh hv ht
 have hvl:=hh.1
 have hxl:=hh.2.1
 simp -implicitDefEqProofs
 refine Aa (hI h hh) ?_
 by_cases h1:Dt h=true
 rotate_left
 ·simp -implicitDefEqProofs [h1,ET,AU]
 have e1:leftOf h.versions lv=h.versions.filter (fun v=> !decide (v∈lv)):=rfl
 unfold ET
 rw[h1,e1]
 generalize hp:(fun v=> !decide (v∈lv))=p
 generalize hq:(fun t=> !decide (t∈lt))=q
 obtain⟨vs,hvs⟩:∃vs,vs=h.versions.filter p:=⟨_,rfl⟩
 rw[<-hvs]
 simp -implicitDefEqProofs [h1]
 refine Ag (fun k s=>∃j o3 o4,j+k=h.versions.length/\s=⟨[.undef,.sl 1 1 lv.length (ints lv),.sl 1 1 lt.length (ints lt),.ptr 0 0,.ptr 1 0,.undef,.ptr 2 0,I j,.undef,.undef,.undef,.undef,.undef,.undef,.undef],[.var ((Ck h).map (AO 1)),.var [.nil 1,.nil 2],.var [.arr 9,.arr 10],o3,o4,.free,.free,.free,.free,.arr 1 0 ((h.versions.take j).filter p).length (ints ((h.versions.take j).filter p)),.arr 2 0 0 []]⟩) ?_ (h.versions.length) _ ⟨0,.free,.free,by simp,by simp⟩
 intro k s ⟨j,o3,o4,hj,hs⟩
 subst hs
 by_cases hjn:j<h.versions.length
 ·have hw:=Cv (j:=j) (by omega)
  have hst:=LD (p:=p) hjn
  have hfl:=Oa (p:=p) (xs:=h.versions) (j:=j)
  have hb1:(((h.versions.take j).filter p).length+1)*8<=1099511627776:=by omega
  have hpv:p h.versions[j]= !decide (h.versions[j]∈lv):=by rw[<-hp]
  simp -implicitDefEqProofs [hjn]
  refine Aa (hH lv h.versions[j] (by unfold maxLen;omega)) ?_
  by_cases h2:h.versions[j]∈lv
  ·have h3:¬p h.versions[j]=true:=by rw[hpv];simpa using h2
   rw[if_neg h3,List.append_nil]at hst
   simp -implicitDefEqProofs [h2]
   exact⟨k-1,by omega,j+1,by omega,by simp[hw],by rw[hst],by rw[hst]⟩
  ·have h3:p h.versions[j]=true:=by rw[hpv];simpa using h2
   rw[if_pos h3]at hst
   simp -implicitDefEqProofs [h2,hjn,hb1]
   exact⟨k-1,by omega,j+1,by omega,by simp[hw],by rw[hst];simp,by rw[hst]⟩
 have e2:=N7 (p:=p) (xs:=h.versions) (j:=j) (by omega)
 rw[<-hvs]at e2
 simp -implicitDefEqProofs [hjn,e2]
 refine Ag (fun k s=>∃j o3 o4 o5 o6 o7 o8,j+k=h.exts.length/\s=⟨[.undef,.undef,.sl 1 1 lt.length (ints lt),.ptr 0 0,.ptr 1 0,.undef,.ptr 2 0,.undef,I j,.undef,.undef,.undef,.undef,.undef,.undef],[.var ((Ck h).map (AO 1)),.var [.nil 1,.nil 2],.var [.arr 9,.arr 10],o3,o4,o5,o6,o7,o8,.arr 1 0 vs.length (ints vs),.arr 2 0 (kept q (h.exts.take j)).length ((kept q (h.exts.take j)).flatMap Cc)]⟩) ?_ (h.exts.length) _ ⟨0,o3,o4,.free,.free,.free,.free,by simp,by simp[kept]⟩
 intro k s ⟨j,o3,o4,o5,o6,o7,o8,hj,hs⟩
 subst hs
 by_cases hjn:j<h.exts.length
 ·have hw:=Cv (j:=j) (by omega)
  have hb:=P5 hh.2 hjn
  have hb1:h.exts[j].body.length*8<=1099511627776:=by omega
  have hkl:=Rl (p:=q) (l:=h.exts) (j:=j)
  have hb2:((kept q (h.exts.take j)).length+1)*32<=1099511627776:=by omega
  have hpv:q h.exts[j].tag= !decide (h.exts[j].tag∈lt):=by rw[<-hq]
  simp -implicitDefEqProofs [hjn]
  refine Aa (hH lt h.exts[j].tag (by unfold maxLen;omega)) ?_
  by_cases h2:h.exts[j].tag∈lt
  ·have h3:¬q h.exts[j].tag=true:=by rw[hpv];simpa using h2
   have hst:=R9 (p:=q) hjn
   rw[if_neg h3,List.append_nil]at hst
   simp -implicitDefEqProofs [h2]
   exact⟨k-1,by omega,j+1,by omega,by simp[hw],by rw[hst],by rw[hst]⟩
  ·have h3:q h.exts[j].tag=true:=by rw[hpv];simpa using h2
   have hst:=NZ hjn h3
   have hsl:=G7 hjn h3
   simp -implicitDefEqProofs [h2,hjn,hb1,hb2]
   exact⟨k-1,by omega,j+1,by omega,by simp[hw],by rw[<-hsl],by rw[<-hst]⟩
 have e3:=Rq (p:=q) (l:=h.exts) (j:=j) (by omega)
 by_cases g:vs=[]
 ·simp -implicitDefEqProofs [hjn,e3,g,AU]
 ·have g':¬(vs.length:Int)=0:=by
   intro h0
   exact g (List.eq_nil_of_length_eq_zero (by omega))
  simp -implicitDefEqProofs [hjn,e3,g',g]
def fallback (h:Hello) (path:List EG):Hello×Bool:=ET h (BZ path h.versions) (FZ path (leftOf h.versions (BZ path h.versions)) h.exts)
abbrev RQ:Prop:=∀(h:Hello) (path:List EG),hB h->lnS Kh path->R [arg (Ck h),.sl 1 4 path.length (path.flatMap DT)] [] (.tup [.agg (Ck (fallback h path).1),B (fallback h path).2]) []
theorem Ad5 (path:List EG) (vs:List Int) (l:List Ext):(FZ path vs l).length<=l.length:=by
 unfold FZ Ba
 split
 ·rw[List.length_map];exact List.length_filter_le _ _
 ·simp
theorem Agl (hI:Gr (D 285)) (hLV:JH (D 222)) (hL:AfF (D 223)) (hT:R6 (D 329)) (hP:Po (D 330)):RQ (Body D GU):=by
 intro h path hh hb
 simp -implicitDefEqProofs
 refine Aa (hI h hh) ?_
 by_cases g1:Dt h=true
 rotate_left
 ·have e:fallback h path=(AU,false):=by unfold fallback ET;simp[g1]
  simp -implicitDefEqProofs [g1,e,AU]
 have hvl:=hh.1
 have hxl:=hh.2.1
 simp -implicitDefEqProofs [g1]
 refine Aa (hLV path h.versions hb hh.1) ?_
 have hll:=Am3 path h.versions
 have e:fallback h path=ET h (BZ path h.versions) (FZ path (leftOf h.versions (BZ path h.versions)) h.exts):=rfl
 rw[e]
 generalize BZ path h.versions=lv at hll
 simp -implicitDefEqProofs
 refine Aa (hL h.versions lv hh.1 (by omega)) ?_
 have hl2:=PE h.versions lv
 generalize leftOf h.versions lv=vs at hl2
 simp -implicitDefEqProofs
 refine Aa (hT path vs h.exts hb (by omega) hh.2) ?_
 have hl3:=Ad5 path vs h.exts
 generalize FZ path vs h.exts=lt at hl3
 simp -implicitDefEqProofs
 refine Aa (hP h lv lt hh (by omega) (by omega)) ?_
 generalize ET h lv lt=r
 simp -implicitDefEqProofs
theorem Ao0 {h:Hello} {lv lt:List Int} (hh:hB h):hB (ET h lv lt).1:=by
 unfold ET
 split
 ·exact⟨Nat.le_trans (PE _ _) hh.1,QV hh.2 (fun t=> !decide (t∈lt))⟩
 ·exact Aba
theorem Ajz {h:Hello} {path:List EG} (hh:hB h):hB (fallback h path).1:=Ao0 hh
def Bg (h:Hello) (path:List EG):Hello×Int×Bool:=
 if Dt h=true then(if FB h path=true then(h,1,true)else if(fallback h path).2&&FB (fallback h path).1 path then((fallback h path).1,2,true)else(AU,2,false))else(AU,0,false)
abbrev Rs:Prop:=∀(h:Hello) (path:List EG),hB h->lnS Kh path->R [arg (Ck h),.sl 1 4 path.length (path.flatMap DT)] [] (.tup [.agg (Ck (Bg h path).1),I (Bg h path).2.1,B (Bg h path).2.2]) []
theorem Agh (hI:Gr (D 285)) (hW:Ld (D 300)) (hC:Q9 (D 301)) (hF:RQ (D 302)):Rs (Body D L9):=by
 intro h path hh hb
 simp -implicitDefEqProofs
 refine Aa (hI h hh) ?_
 by_cases g1:Dt h=true
 rotate_left
 ·simp -implicitDefEqProofs [g1,Bg,AU]
 simp -implicitDefEqProofs [g1]
 refine Aa (hW h path hh hb) ?_
 by_cases g2:FB h path=true
 ·simp -implicitDefEqProofs [g2]
  refine Aa (hC h hh) ?_
  simp -implicitDefEqProofs [Bg,g1,g2]
 simp -implicitDefEqProofs [g2]
 refine Aa (hF h path hh hb) ?_
 have hr:=Ajz (path:=path) hh
 have e:Bg h path=(if(fallback h path).2&&FB (fallback h path).1 path then((fallback h path).1,2,true)else(AU,2,false)):=by unfold Bg;rw[if_pos g1,if_neg g2]
 rw[e]
 generalize fallback h path=r at hr
 by_cases g3:r.2=true
 rotate_left
 ·simp -implicitDefEqProofs [g3,AU]
 simp -implicitDefEqProofs [g3]
 refine Aa (hW r.1 path hr hb) ?_
 by_cases g4:FB r.1 path=true
 ·simp -implicitDefEqProofs [g3,g4]
 ·simp -implicitDefEqProofs [g3,g4,AU]
theorem An3 {h:Hello} {path:List EG} (hh:hB h):hB (Bg h path).1:=by
 unfold Bg
 split
 ·split
  ·exact hh
  ·split
   ·exact Ajz hh
   ·exact Aba
 ·exact Aba
set_option maxHeartbeats 1000000
def Ei:List Int->Int->Nat
 | [],_=>0
 | x::r,v=>if x<v then Ei r v+1 else 0
theorem AeQ:∀(l:List Int) (v:Int),Ei l v<=l.length
 | [],_=>Nat.le_refl 0
 | x::r,v=>by
  have:=AeQ r v
  simp only[Ei,List.length_cons]
  split<;>omega
theorem Aj8 {l:List Int} {v:Int} {j:Nat} (h:j<l.length) (hv:l[j]<v):Ei (l.drop j) v=Ei (l.drop (j+1)) v+1:=by
 rw[List.drop_eq_getElem_cons h]
 simp only[Ei,if_pos hv]
theorem Ade {l:List Int} {v:Int} {j:Nat} (h:j<l.length) (hv:¬l[j]<v):Ei (l.drop j) v=0:=by
 rw[List.drop_eq_getElem_cons h]
 simp only[Ei,if_neg hv]
theorem Amr {l:List Int} {v:Int} {j:Nat} (h:l.length<=j):Ei (l.drop j) v=0:=by rw[List.drop_eq_nil_of_le h];rfl
def Ua (l:List Int) (i:Nat) (v:Int):List Int:=l.take i++v::l.drop i
theorem AgY {l:List Int} {i:Nat} {v:Int} (h:i<=l.length):(Ua l i v).length=l.length+1:=by simp[Ua];omega
def El (l:List Int) (v:Int):List Int:=if l[Ei l v]? =some v then l else Ua l (Ei l v) v
theorem Rm (l:List Int) (v:Int):(El l v).length<=l.length+1:=by
 unfold El
 split
 ·omega
 ·rw[AgY (AeQ l v)];omega
abbrev Mf:Prop:=∀(l:List Int) (v:Int),l.length<=4194304->R [.sl 1 1 l.length (ints l),I v] [] (.sl 0 1 (El l v).length (ints (El l v))) []
theorem Ao5:Mf (Body D QC):=by
 intro l v hl
 simp -implicitDefEqProofs
 refine Ag (fun k s=>∃j,j+k=l.length/\Ei l v=j+Ei (l.drop j) v/\s=⟨[.sl 1 1 l.length (ints l),I v,.undef,I j,.undef,.undef],[.free,.free,.free,.free,.free,.free,.free]⟩) ?_ (l.length) _ ⟨0,by simp,by simp,by simp⟩
 intro k s ⟨j,hj,hp,hs⟩
 subst hs
 by_cases hjn:j<l.length
 ·have hw:=Cv (j:=j) (by omega)
  by_cases hv:l[j]<v
  ·have hst:=Aj8 hjn hv
   simp -implicitDefEqProofs [hjn,hv]
   exact⟨k-1,by omega,j+1,by omega,by omega,by simp[hw]⟩
  ·have hst:=Ade hjn hv
   have hpe:Ei l v=j:=by omega
   have b1:l.length*8<=1099511627776:=by omega
   have b2:j*8<=1099511627776:=by omega
   have b3:(j+1)*8<=1099511627776:=by omega
   have b4:(j+1+(l.length-j))*8<=1099511627776:=by omega
   have hjl:j<=l.length:=by omega
   have hjl':(j:Int)<=l.length:=by omega
   have hmin:min j l.length=j:=by omega
   have htk:List.take (l.length-j) (List.drop j l)=List.drop j l:=List.take_of_length_le (by simp)
   by_cases he:l[j]=v
   ·have e:El l v=l:=by unfold El;rw[hpe,List.getElem?_eq_getElem hjn,he,if_pos rfl]
    rw[e]
    simp -implicitDefEqProofs [hjn,hv,he,b1]
   ·have e:El l v=l.take j++v::l.drop j:=by unfold El Ua;rw[hpe,List.getElem?_eq_getElem hjn,if_neg (by simpa using he)]
    have el:(El l v).length=j+1+(l.length-j):=by rw[e];simp;omega
    simp -implicitDefEqProofs [hjn,hv,he,hjl,hjl',hmin,b2,b3,b4]
    rw[el,e]
    simp[htk,Ab4]
 ·have hst:=Amr (v:=v) (l:=l) (j:=j) (by omega)
  have hpe:Ei l v=j:=by omega
  have b1:l.length*8<=1099511627776:=by omega
  have b2:j*8<=1099511627776:=by omega
  have b3:(j+1)*8<=1099511627776:=by omega
  have b4:(j+1+(l.length-j))*8<=1099511627776:=by omega
  have hjl:j<=l.length:=by omega
  have hjl':(j:Int)<=l.length:=by omega
  have hmin:min j l.length=j:=by omega
  have htk:List.take (l.length-j) (List.drop j l)=List.drop j l:=List.take_of_length_le (by simp)
  have e:El l v=l.take j++v::l.drop j:=by unfold El Ua;rw[hpe,List.getElem?_eq_none (by omega),if_neg (by simp)]
  have el:(El l v).length=j+1+(l.length-j):=by rw[e];simp;omega
  simp -implicitDefEqProofs [hjn,hjl,hjl',hmin,b2,b3,b4]
  rw[el,e]
  simp[htk,Ab4]
set_option maxHeartbeats 1000000
def UB {α:Type} (f:α->α) (xs:List α) (j:Nat):List α:=(xs.take j).map f++xs.drop j
section
variable {α:Type} {f:α->α} {xs:List α} {j:Nat}
theorem AkF:UB f xs 0=xs:=by simp[UB]
theorem AmF (h:xs.length<=j):UB f xs j=xs.map f:=by simp[UB,List.take_of_length_le h,List.drop_eq_nil_of_le h]
@[simp] theorem Al6 (h:j<=xs.length):(UB f xs j).length=xs.length:=by simp[UB];omega
theorem AgH (h:j<xs.length):(UB f xs j)[j]'(by rw[Al6 (by omega)];exact h)=xs[j]:=by
 unfold UB
 have hl:((xs.take j).map f).length=j:=by simp;omega
 have hm:min j xs.length=j:=by omega
 rw[List.getElem_append_right (by omega)]
 simp[hm]
theorem AgD (h:j<xs.length):(UB f xs j).set j (f xs[j])=UB f xs (j+1):=by
 unfold UB
 have hl:((xs.take j).map f).length=j:=by simp;omega
 have ht:xs.take (j+1)=xs.take j++ [xs[j]]:=by simp
 rw[List.set_append_right _ _ (by omega),hl,Nat.sub_self,ht,List.map_append,List.drop_eq_getElem_cons h,List.set_cons_zero,List.append_assoc]
 rfl
theorem Alv (h:j<xs.length) (hf:f xs[j]=xs[j]):UB f xs (j+1)=UB f xs j:=by
 rw[<-AgD h,hf]
 have:=AgH (f:=f) h
 conv=>lhs;rw[<-this]
 simp
end
def Ev (w:World) (e:Ai):Ai:=if 0<AJ w.server (Co e.versions w.rollout.version)then⟨Co e.versions w.rollout.version,e.tags,e.path,e.cls⟩else e
def leave (w:World):World:={w with ends:=w.ends.map (Ev w),stage:=[]}
abbrev JG:Prop:=∀w:World,Af w<=4194304->R [arg (Bu w)] [] (.agg (Bu (leave w))) []
theorem ApX (a:List Int) (v:Int):(Co a v).length<=a.length:=List.length_filter_le _ _
theorem AgL {w:World} (h:Af w<=4194304) {j:Nat} (hj:j<w.ends.length):w.ends[j].versions.length<=4194304:=by
 have:=size_at (f:=Am) hj
 have e:Am w.ends[j]=w.ends[j].versions.length+w.ends[j].tags.length+Cr Gm w.ends[j].path:=rfl
 unfold Af at h
 omega
theorem Ail {w:World} (h:Af w<=4194304):w.server.length<=4194304:=by unfold Af at h;omega
theorem YG (hC:EF (D 22)) (hW:Ic (D 167)) (hB:FQ (D 168)):JG (Body D Ia):=by
 intro w h
 have hl:=FE h
 simp -implicitDefEqProofs
 refine Aa (hC w h) ?_
 simp -implicitDefEqProofs
 refine Ag (fun k s=>∃j v5 o9,j+k=w.ends.length/\s=⟨[.undef,.ptr 0 0,.ptr 1 0,.ptr 8 0,.sc (.int .i64 j),v5,.undef,.undef],[.var ((Bu w).map (AO 1)),.var [.nil 1,.nil 1,.sc (.int .i64 0),.nil 4,.sc (.int .i64 0),.nil 1,.sc (.int .i64 0),.sc (.bool false),.sc (.int .i64 0),.sc (.int .i64 0),.nil 5,.nil 8,.sc (.int .i64 0),.sc (.int .i64 0),.sc (.int .i64 0)],.arr 1 0 w.server.length (ints w.server),.arr 1 0 w.tags.length (ints w.tags),.arr 4 0 w.ends.length ((UB (Ev w) w.ends j).flatMap Ah),.arr 1 0 w.rollout.stages.length (ints w.rollout.stages),.arr 5 0 w.stage.length (w.stage.flatMap AB),.arr 8 0 w.log.length (w.log.flatMap Az),.var [.arr 2,.arr 3,.sc (.int .i64 w.key),.arr 4,.sc (.int .i64 w.rollout.version),.arr 5,.sc (.int .i64 w.rollout.pos),.sc (.bool w.rollout.off),.sc (.int .i64 w.least),.sc (.int .i64 w.percent),.arr 6,.arr 7,.sc (.int .i64 w.now),.sc (.int .i64 w.hurt),.sc (.int .i64 w.reached)],o9,.free]⟩) ?_ w.ends.length _ ⟨0,by simp[AkF]⟩
 intro k s ⟨j,v5,o9,hj,hs⟩
 subst hs
 by_cases hjn:j<w.ends.length
 ·have hw:=Cv (j:=j) (by omega)
  have hjl:j<=w.ends.length:=by omega
  have hset:=AgD (f:=Ev w) hjn
  have hg:=AgH (f:=Ev w) hjn
  have hvl:=AgL h hjn
  have hwl:=ApX w.ends[j].versions w.rollout.version
  have hf:j*4<w.ends.length*4:=by omega
  simp -implicitDefEqProofs [hjn,hjl,hg]
  refine Aa (hW w.ends[j].versions _ hvl) ?_
  simp -implicitDefEqProofs
  refine Aa (hB w.server _ (Ail h) (by omega)) ?_
  by_cases h1:0<AJ w.server (Co w.ends[j].versions w.rollout.version)
  ·have e:Ev w w.ends[j]=⟨Co w.ends[j].versions w.rollout.version,w.ends[j].tags,w.ends[j].path,w.ends[j].cls⟩:=by unfold Ev;rw[if_pos h1]
   rw[e]at hset
   simp -implicitDefEqProofs [h1,hjn,hjl,hg,hf]
   exact⟨k-1,by omega,j+1,by omega,by simp[hw],by rw[<-hset]⟩
  ·have e:Ev w w.ends[j]=w.ends[j]:=by unfold Ev;rw[if_neg h1]
   have hsame:=Alv hjn e
   simp -implicitDefEqProofs [h1]
   exact⟨k-1,by omega,j+1,by omega,by simp[hw],by rw[hsame]⟩
 ·have hx:=AmF (f:=Ev w) (xs:=w.ends) (j:=j) (by omega)
  simp -implicitDefEqProofs [hjn,hx,leave]
set_option maxHeartbeats 2000000
def MN {α:Type} (f:Nat->α->α) (xs:List α) (j:Nat):List α:=xs.mapIdx fun i x=>if i<j then f i x else x
section
variable {α:Type} {f:Nat->α->α} {xs:List α} {j:Nat}
@[simp] theorem WN:(MN f xs j).length=xs.length:=by simp[MN]
theorem AiZ:MN f xs 0=xs:=by
 apply List.ext_getElem
 ·simp
 ·intro n h1 h2;simp[MN]
theorem Akv (h:xs.length<=j):MN f xs j=xs.mapIdx f:=by
 apply List.ext_getElem
 ·simp
 ·intro n h1 h2
  simp only[WN]at h1
  simp only[MN,List.getElem_mapIdx]
  rw[if_pos (by omega)]
theorem AdE (h:j<xs.length):(MN f xs j)[j]'(by rw[WN];exact h)=xs[j]:=by simp[MN]
theorem Adx (h:j<xs.length):(MN f xs j).set j (f j xs[j])=MN f xs (j+1):=by
 apply List.ext_getElem
 ·simp
 ·intro n h1 h2
  simp only[List.length_set,WN]at h1
  rw[List.getElem_set]
  simp only[MN,List.getElem_mapIdx]
  by_cases hn:j=n
  ·subst hn;simp
  ·rw[if_neg hn]
   by_cases hl:n<j
   ·rw[if_pos hl,if_pos (by omega)]
   ·rw[if_neg hl,if_neg (by omega)]
theorem Aii (h:j<xs.length) (hf:f j xs[j]=xs[j]):MN f xs (j+1)=MN f xs j:=by
 rw[<-Adx h,hf]
 have:=AdE (f:=f) h
 conv=>lhs;rw[<-this]
 simp
end
def Fv (w:World) (i:Nat) (e:Ai):Ai:=if isIn w.rollout i w.ends.length=true then⟨El e.versions w.rollout.version,e.tags,e.path,e.cls⟩else e
def Hg (w:World):Bool:=AP w.rollout&& !w.rollout.off
def enter (w:World):World:=if Hg w=true then {w with ends:=w.ends.mapIdx (Fv w),stage:=[],reached:=max w.reached (w.rollout.pos+1)}else w
abbrev J3:Prop:=∀w:World,Af w<=4194304->R [arg (Bu w)] [] (.agg (Bu (enter w))) []
abbrev Afz:Prop:=∀a b:Int,R [I a,I b] [] (I (max a b)) []
abbrev Ajq:Prop:=∀a b:Int,R [I a,I b] [] (I (min a b)) []
theorem ApW:Afz (Body D WM):=by
 intro a b
 by_cases h:a<b
 ·have e:max a b=b:=by omega
  simp -implicitDefEqProofs [h,e]
 ·have e:max a b=a:=by omega
  simp -implicitDefEqProofs [h,e]
theorem AqQ:Ajq (Body D Xi):=by
 intro a b
 by_cases h:a<b
 ·have e:min a b=a:=by omega
  simp -implicitDefEqProofs [h,e]
  intro;omega
 ·have e:min a b=b:=by omega
  simp -implicitDefEqProofs [h,e]
  intro;omega
theorem Acf (hC:EF (D 22)) (hR:FX (D 145)) (hI:Af6 (D 214)) (hP:Mf (D 159)) (hM:Afz (D 215)):J3 (Body D Jp):=by
 intro w h
 have hl:=FE h
 have hr:=OU h
 simp -implicitDefEqProofs
 refine Aa (hC w h) ?_
 simp -implicitDefEqProofs
 refine Aa (hR w.rollout hr) ?_
 by_cases h1:AP w.rollout=true
 rotate_left
 ·have e:enter w=w:=by unfold enter Hg;rw[if_neg (by simp[h1])]
  simp -implicitDefEqProofs [h1,e]
 by_cases h2:w.rollout.off=true
 ·have e:enter w=w:=by unfold enter Hg;rw[if_neg (by simp[h2])]
  simp -implicitDefEqProofs [h1,h2,e]
 have h2':w.rollout.off=false:=by simpa using h2
 have e:enter w={w with ends:=w.ends.mapIdx (Fv w),stage:=[],reached:=max w.reached (w.rollout.pos+1)}:=by unfold enter Hg;rw[if_pos (by simp[h1,h2'])]
 have hp:=Abf h1
 have hwp:IntKind.i64.wrap (w.rollout.pos+1)=w.rollout.pos+1:=Ad (by omega) (by omega)
 simp -implicitDefEqProofs [h1,h2]
 refine Ag (fun k s=>∃j o9,j+k=w.ends.length/\s=⟨[.undef,.ptr 0 0,.ptr 1 0,.ptr 8 0,I j,.undef,.undef,.undef],[.var ((Bu w).map (AO 1)),.var [.nil 1,.nil 1,.sc (.int .i64 0),.nil 4,.sc (.int .i64 0),.nil 1,.sc (.int .i64 0),.sc (.bool false),.sc (.int .i64 0),.sc (.int .i64 0),.nil 5,.nil 8,.sc (.int .i64 0),.sc (.int .i64 0),.sc (.int .i64 0)],.arr 1 0 w.server.length (ints w.server),.arr 1 0 w.tags.length (ints w.tags),.arr 4 0 w.ends.length ((MN (Fv w) w.ends j).flatMap Ah),.arr 1 0 w.rollout.stages.length (ints w.rollout.stages),.arr 5 0 w.stage.length (w.stage.flatMap AB),.arr 8 0 w.log.length (w.log.flatMap Az),.var [.arr 2,.arr 3,.sc (.int .i64 w.key),.arr 4,.sc (.int .i64 w.rollout.version),.arr 5,.sc (.int .i64 w.rollout.pos),.sc (.bool w.rollout.off),.sc (.int .i64 w.least),.sc (.int .i64 w.percent),.arr 6,.arr 7,.sc (.int .i64 w.now),.sc (.int .i64 w.hurt),.sc (.int .i64 w.reached)],o9,.free]⟩) ?_ (w.ends.length) _ ⟨0,.free,by simp,by simp[AiZ,h2']⟩
 intro k s ⟨j,o9,hj,hs⟩
 subst hs
 by_cases hjn:j<w.ends.length
 ·have hw:=Cv (j:=j) (by omega)
  have hset:=Adx (f:=Fv w) hjn
  have hg:=AdE (f:=Fv w) hjn
  have hvl:=AgL h hjn
  have hf:j*4<w.ends.length*4:=by omega
  simp -implicitDefEqProofs [hjn]
  refine Aa (hI w.rollout j w.ends.length hr) ?_
  by_cases h3:isIn w.rollout j w.ends.length=true
  ·have e3:Fv w j w.ends[j]=⟨El w.ends[j].versions w.rollout.version,w.ends[j].tags,w.ends[j].path,w.ends[j].cls⟩:=by unfold Fv;rw[if_pos h3]
   rw[e3]at hset
   simp -implicitDefEqProofs [h3,hjn,hg,hf]
   refine Aa (hP w.ends[j].versions _ hvl) ?_
   simp -implicitDefEqProofs [hjn,hg,hf]
   exact⟨k-1,by omega,j+1,by omega,by simp[hw],by rw[<-hset]⟩
  ·have e3:Fv w j w.ends[j]=w.ends[j]:=by unfold Fv;rw[if_neg h3]
   have hsame:=Aii hjn e3
   simp -implicitDefEqProofs [h3]
   exact⟨k-1,by omega,j+1,by omega,by simp[hw],by rw[hsame]⟩
 ·have hx:=Akv (f:=Fv w) (xs:=w.ends) (j:=j) (by omega)
  simp -implicitDefEqProofs [hjn,hwp,hx]
  refine Aa (hM _ _) ?_
  simp -implicitDefEqProofs [e,h2']
def Dc (w:World):World×Bool:=if decide (w.reached=0)&&Hg w then(enter w,true)else(w,false)
abbrev OT:Prop:=∀w:World,Af w<=4194304->R [arg (Bu w)] [] (.tup [.agg (Bu (Dc w).1),B (Dc w).2]) []
theorem AeP (hC:EF (D 22)) (hR:FX (D 145)) (hE:J3 (D 146)):OT (Body D KJ):=by
 intro w h
 have hr:=OU h
 by_cases h0:w.reached=0
 rotate_left
 ·have e:Dc w=(w,false):=by unfold Dc;simp[h0]
  simp -implicitDefEqProofs [h0]
  refine Aa (hC w h) ?_
  simp -implicitDefEqProofs [e]
 simp -implicitDefEqProofs [h0]
 refine Aa (hR w.rollout hr) ?_
 by_cases h1:AP w.rollout=true
 rotate_left
 ·have e:Dc w=(w,false):=by unfold Dc Hg;simp[h1]
  simp -implicitDefEqProofs [h1]
  have hcs:=hC w h
  simp -implicitDefEqProofs [h0]at hcs
  refine Aa hcs ?_
  clear hcs
  simp -implicitDefEqProofs [e,h0]
 by_cases h2:w.rollout.off=true
 ·have e:Dc w=(w,false):=by unfold Dc Hg;simp[h2]
  simp -implicitDefEqProofs [h1,h2]
  have hcs:=hC w h
  simp -implicitDefEqProofs [h0,h2]at hcs
  refine Aa hcs ?_
  clear hcs
  simp -implicitDefEqProofs [e,h0,h2]
 have h2':w.rollout.off=false:=by simpa using h2
 have e:Dc w=(enter w,true):=by unfold Dc Hg;simp[h0,h1,h2']
 simp -implicitDefEqProofs [h1,h2]
 have hcs:=hE w h
 simp -implicitDefEqProofs [h0,h2]at hcs
 refine Aa hcs ?_
 clear hcs
 simp -implicitDefEqProofs [e]
set_option maxHeartbeats 2000000
open Go.Lib (compact compactUpTo keeps)
abbrev Up (l:List Int):Prop:=l.Pairwise (· < ·)
theorem IQ:∀(l:List Int) (v x:Int),x∈El l v↔x∈l∨x=v:=by
 intro l v x
 unfold El
 split
 ·rename_i h
  constructor
  ·exact .inl
  ·rintro (h1 | rfl)
   ·exact h1
   ·exact List.mem_of_getElem? h
 ·unfold Ua
  rw[List.mem_append,List.mem_cons]
  have:x∈l↔x∈l.take (Ei l v)∨x∈l.drop (Ei l v):=by
   conv=>lhs;rw[<-List.take_append_drop (Ei l v) l,List.mem_append]
  rw[this]
  constructor
  ·rintro (h1 | h1 | h1)
   ·exact .inl (.inl h1)
   ·exact .inr h1
   ·exact .inl (.inr h1)
  ·rintro ((h1 | h1) | h1)
   ·exact .inl h1
   ·exact .inr (.inr h1)
   ·exact .inr (.inl h1)
theorem X6:∀(l:List Int) (v x:Int),x∈l.take (Ei l v)->x<v
 | [],v,x,h=>by simp at h
 | y::r,v,x,h=>by
  simp only[Ei]at h
  split at h
  ·rw[List.take_succ_cons]at h
   rcases List.mem_cons.1 h with rfl | h
   ·assumption
   ·exact X6 r v x h
  ·simp at h
theorem AeM:∀ {l:List Int} (v:Int),Up l->Up (El l v):=by
 intro l v hl
 unfold El
 split
 ·exact hl
 ·rename_i hne
  unfold Ua Up
  rw[List.pairwise_append,List.pairwise_cons]
  have hb:=X6 l v
  have hafter:∀y,y∈l.drop (Ei l v)->v<y:=by
   intro y hy
   by_cases hk:Ei l v<l.length
   ·have hs:=Ade (l:=l) (v:=v) hk (by
     intro hlt
     have key:∀(l:List Int) (h:Ei l v<l.length),¬l[Ei l v]<v:=by
      intro l
      induction l with
      | nil=>intro h;simp at h
      | cons x r ih=>
       intro h
       by_cases hx:x<v
       ·have e:Ei (x::r) v=Ei r v+1:=by simp[Ei,hx]
        have h':Ei r v<r.length:=by rw[e]at h;simpa using h
        have:=ih h'
        simp only[e,List.getElem_cons_succ]
        exact this
       ·have e:Ei (x::r) v=0:=by simp[Ei,hx]
        simp only[e,List.getElem_cons_zero]
        exact hx
     exact key l hk hlt)
    have key:∀(l:List Int) (h:Ei l v<l.length),¬l[Ei l v]<v:=by
     intro l
     induction l with
     | nil=>intro h;simp at h
     | cons x r ih=>
      intro h
      by_cases hx:x<v
      ·have e:Ei (x::r) v=Ei r v+1:=by simp[Ei,hx]
       have h':Ei r v<r.length:=by rw[e]at h;simpa using h
       have:=ih h'
       simp only[e,List.getElem_cons_succ]
       exact this
      ·have e:Ei (x::r) v=0:=by simp[Ei,hx]
       simp only[e,List.getElem_cons_zero]
       exact hx
    have h1:=key l hk
    have h2:l[Ei l v]≠v:=by
     intro e;apply hne;rw[List.getElem?_eq_getElem hk,e]
    rw[List.drop_eq_getElem_cons hk]at hy
    have hp:(l[Ei l v]::l.drop (Ei l v+1)).Pairwise (· < ·):=by rw[<-List.drop_eq_getElem_cons hk];exact hl.drop
    rw[List.pairwise_cons]at hp
    rcases List.mem_cons.1 hy with rfl | hy
    ·omega
    ·have:=hp.1 y hy;omega
   ·rw[List.drop_eq_nil_of_le (by omega)]at hy;simp at hy
  refine⟨hl.take,⟨hafter,hl.drop⟩,fun a ha b hb'=> ?_⟩
  have h1:=hb a ha
  rcases List.mem_cons.1 hb' with rfl | hb'
  ·exact h1
  ·have:=hafter b hb';omega
end Go.Eng.T
namespace Go.Eng.T
set_option maxRecDepth 20000
theorem Ah3 {w:World} (h:Af w<=4194304):∀(j:Nat) (hj:j<w.stage.length),w.stage[j].up.length<=maxLen:=by
 intro j hj
 have:=size_at (f:=Cb) hj
 unfold Af at h
 have e:Cb w.stage[j]=ND w.stage[j].deal+w.stage[j].up.length:=rfl
 unfold maxLen;omega
def LB (w:World):Int:=J6 (cntF (goodD w.rollout.version) w.stage) (cntF (Lj w.rollout.version) w.stage) w.least w.percent
variable (R:Rel)
abbrev Pq:Prop:=∀w:World,Af w<=4194304->R [arg (Bu w)] [] (I (LB w)) []
variable (D:Dn)
theorem Aem (hM:NV (D 155)) (hS:RH (D 156)):Pq (Body D KW):=by
 intro w h
 simp -implicitDefEqProofs
 refine Aa (hM w.stage _ (by have:=XY h;unfold maxLen;omega) (Ah3 h)) ?_
 simp -implicitDefEqProofs
 refine Aa (hS _ _ _ _) ?_
 simp -implicitDefEqProofs [LB]
set_option maxHeartbeats 2000000
def RO (r:AX):Bool:=AP r&&(!r.off&& !decide (r.pos=(r.stages.length:Int)-1))
def Bp (r:AX):AX×Bool:=if RO r=true then(⟨r.version,r.stages,r.pos+1,r.off⟩,true)else(r,false)
abbrev PX:Prop:=∀r:AX,Db r<=4194304->R [arg (Dj r)] [] (.tup [.agg (Dj (Bp r).1),B (Bp r).2]) []
theorem Afn (hC:Je (D 66)) (hR:FX (D 145)):PX (Body D Ky):=by
 intro r h
 have hl:r.stages.length<=4194304:=h
 have hw1:IntKind.i64.wrap ((r.stages.length:Int)-1)=(r.stages.length:Int)-1:=Ad (by omega) (by omega)
 simp -implicitDefEqProofs
 refine Aa (hC r h) ?_
 simp -implicitDefEqProofs
 refine Aa (hR r hl) ?_
 by_cases h1:AP r=true
 rotate_left
 ·have e:Bp r=(r,false):=by unfold Bp RO;rw[if_neg (by simp[h1])]
  simp -implicitDefEqProofs [h1,e]
 by_cases h2:r.off=true
 ·have e:Bp r=(r,false):=by unfold Bp RO;rw[if_neg (by simp[h2])]
  simp -implicitDefEqProofs [h1,h2,e]
 have h2':r.off=false:=by simpa using h2
 have hp:=Abf h1
 have hwp:IntKind.i64.wrap (r.pos+1)=r.pos+1:=Ad (by omega) (by omega)
 obtain⟨ver,stg,pos,off⟩:=r
 dsimp only at *
 subst h2'
 by_cases h3:pos=(stg.length:Int)-1
 ·have e:Bp ⟨ver,stg,pos,false⟩=(⟨ver,stg,pos,false⟩,false):=by unfold Bp RO;rw[if_neg (by simp[h3])]
  subst h3
  simp -implicitDefEqProofs [h1,hw1,e]
 have e:Bp ⟨ver,stg,pos,false⟩=(⟨ver,stg,pos+1,false⟩,true):=by unfold Bp RO;rw[if_pos (by simp[h1,h3])]
 simp -implicitDefEqProofs [h1,hw1,h3,hwp,e]
def VD (r:AX):Bool:=AP r&& !r.off
def BI (r:AX):AX×Bool:=if VD r=true then(⟨r.version,r.stages,0,true⟩,true)else(r,false)
abbrev Pj:Prop:=∀r:AX,Db r<=4194304->R [arg (Dj r)] [] (.tup [.agg (Dj (BI r).1),B (BI r).2]) []
theorem AeV (hC:Je (D 66)) (hR:FX (D 145)):Pj (Body D KV):=by
 intro r h
 have hl:r.stages.length<=4194304:=h
 simp -implicitDefEqProofs
 refine Aa (hC r h) ?_
 simp -implicitDefEqProofs
 refine Aa (hR r hl) ?_
 by_cases h1:AP r=true
 rotate_left
 ·have e:BI r=(r,false):=by unfold BI VD;rw[if_neg (by simp[h1])]
  simp -implicitDefEqProofs [h1,e]
 by_cases h2:r.off=true
 ·have e:BI r=(r,false):=by unfold BI VD;rw[if_neg (by simp[h2])]
  simp -implicitDefEqProofs [h1,h2,e]
 have e:BI r=(⟨r.version,r.stages,0,true⟩,true):=by unfold BI VD;rw[if_pos (by simp[h1,h2])]
 simp -implicitDefEqProofs [h1,h2,e]
def Tn (l:List Int) (v:Int):Bool:=AQ l&&(decide (InV v 1 9)&& !decide (v∈l))
def KT (l:List Int) (v:Int):List Int×Bool:=if Tn l v=true then(El l v,true)else(l,false)
abbrev MH:Prop:=∀(l:List Int) (v:Int),l.length<=4194304->R [.sl 1 1 l.length (ints l),I v] [] (.tup [.sl 0 1 (KT l v).1.length (ints (KT l v).1),B (KT l v).2]) []
theorem Ac5 (hA:Dr (D 208)) (hI:Vf (D 71)) (hH:UQ (D 166)) (hP:Mf (D 159)):MH (Body D I9):=by
 intro l v hl
 have hl8:l.length*8<=1099511627776:=by omega
 have hl9:(l.length+1)*8<=1099511627776:=by omega
 simp -implicitDefEqProofs [hl8]
 refine Aa (hA l (by unfold maxLen;omega)) ?_
 by_cases h1:AQ l=true
 rotate_left
 ·have e:KT l v=(l,false):=by unfold KT Tn;rw[if_neg (by simp[h1])]
  simp -implicitDefEqProofs [h1,e,hl8]
 simp -implicitDefEqProofs [h1]
 refine Aa (hI _ _ _) ?_
 by_cases h2:InV v 1 9
 rotate_left
 ·have e:KT l v=(l,false):=by unfold KT Tn;rw[if_neg (by simp[h2])]
  simp -implicitDefEqProofs [h2,e,hl8]
 simp -implicitDefEqProofs [h2]
 refine Aa (hH l v (by unfold maxLen;omega)) ?_
 by_cases h3:v∈l
 ·have e:KT l v=(l,false):=by unfold KT Tn;rw[if_neg (by simp[h3])]
  simp -implicitDefEqProofs [h3,e,hl8]
 have e:KT l v=(El l v,true):=by unfold KT Tn;rw[if_pos (by simp[h1,h2,h3])]
 simp -implicitDefEqProofs [h3]
 refine Aa (hP l v hl) ?_
 simp -implicitDefEqProofs [e]
theorem up9:∀ {l:List Int} {a:Int},Up l->(∀x,x∈l->a<x/\x<=9)->(l.length:Int)<=9-a∨l=[]
 | [],_,_,_=> .inr rfl
 | x::r,a,h,hb=>by
  rw[Up,List.pairwise_cons]at h
  have h0:=hb x (by simp)
  have:=up9 (l:=r) (a:=x) h.2 (fun y hy=>⟨h.1 y hy,(hb y (by simp[hy])).2⟩)
  left
  rcases this with h1 | rfl
  ·simp only[List.length_cons];omega
  ·simp;omega
theorem AgB {l:List Int} (h:AQ l=true):l.length<=9:=by
 have:=up9 (l:=l) (a:=0) (Ru h) (fun x hx=>by have:=RF h x hx;exact⟨by omega,by omega⟩)
 rcases this with h1 | rfl
 ·omega
 ·simp
def EC (w:World) (v:Int):World×Bool:=({w with server:=(KT w.server v).1},(KT w.server v).2)
abbrev MI:Prop:=∀(w:World) (v:Int),Af w<=4194304->R [arg (Bu w),I v] [] (.tup [.agg (Bu (EC w v).1),B (EC w v).2]) []
theorem AoI {l:List Int} {v:Int} (h:(KT l v).2=false):(KT l v).1=l:=by
 unfold KT at *
 split at h
 ·cases h
 ·rename_i hc;rw[if_neg hc]
theorem Ac0 (hC:EF (D 22)) (hA:MH (D 151)):MI (Body D Jb):=by
 intro w v hsz
 simp -implicitDefEqProofs
 refine Aa (hC w hsz) ?_
 simp -implicitDefEqProofs
 refine Aa (hA w.server v (Od hsz).1) ?_
 have hno:=AoI (l:=w.server) (v:=v)
 have e:EC w v=({w with server:=(KT w.server v).1},(KT w.server v).2):=rfl
 rw[e]
 generalize KT w.server v=r at hno
 by_cases h1:r.2=true
 ·simp -implicitDefEqProofs [h1]
 ·have:=hno (by simpa using h1)
  simp -implicitDefEqProofs [h1,this]
theorem AnJ (l:List Int) (v:Int):(KT l v).1.length<=l.length+1:=by
 unfold KT
 split
 ·exact Rm l v
 ·dsimp only;omega
theorem Ac7 (w:World) (v:Int):Af (EC w v).1<=Af w+1:=by
 have:=AnJ w.server v
 simp only[EC,Af]
 omega
set_option maxHeartbeats 1000000
def inB (t:Int):Bool:=decide (M6 t 0 255)
def Abb (b:List Int) (t:Int):Bool:= !decide (t∈b)&&inB t
def JN (h x:Hello):List Int:=leftOf h.versions x.versions++((Ba h.exts).filter (Abb (Ba x.exts))).map (fun t=>1000+t)
abbrev UC:Prop:=∀h x:Hello,hB h->hB x->R [arg (Ck h),arg (Ck x)] [] (.sl 0 1 (JN h x).length (ints (JN h x))) []
theorem Alm {p:Int->Bool} {a l:List Int} {j:Nat} (h:j<l.length):
 a++((l.take (j+1)).filter p).map (fun t=>1000+t)=(a++((l.take j).filter p).map (fun t=>1000+t))++(if p l[j]then [1000+l[j]]else []):=by
 rw[LD h,List.map_append,List.append_assoc]
 split<;>simp
theorem Al1 {p:Int->Bool} {a l:List Int} {j:Nat}:(a++((l.take j).filter p).map (fun t=>1000+t)).length<=a.length+j:=by
 have:=Oa (p:=p) (xs:=l) (j:=j)
 simp only[List.length_append,List.length_map];omega
theorem AiW (hL:AfF (D 223)) (hX:Rj (D 309)) (hI:Vf (D 71)):UC (Body D Nb):=by
 intro h x hh hx
 have hxl:=hx.2.1
 have hhl:=hh.2.1
 have hvl:=hh.1
 simp -implicitDefEqProofs
 refine Aa (hL h.versions x.versions hh.1 hx.1) ?_
 have hal:=PE h.versions x.versions
 have e:JN h x=leftOf h.versions x.versions++((Ba h.exts).filter (Abb (Ba x.exts))).map (fun t=>1000+t):=rfl
 rw[e]
 have hpd:∀t,Abb (Ba x.exts) t=(!decide (t∈Ba x.exts)&&inB t):=fun t=>rfl
 generalize leftOf h.versions x.versions=a at hal
 generalize Abb (Ba x.exts)=p at hpd
 have htl:(Ba h.exts).length=h.exts.length:=QA _
 have hte:∀j (hj:j<h.exts.length),(Ba h.exts)[j]'(by omega)=h.exts[j].tag:=fun j hj=>by simp[Ba]
 obtain⟨l,hl⟩:∃l,l=Ba h.exts:=⟨_,rfl⟩
 rw[<-hl]at htl⊢
 simp -implicitDefEqProofs
 refine Ag (fun k s=>∃j o3 o4,j+k=h.exts.length/\s=⟨[.undef,.undef,.ptr 0 0,.ptr 1 0,.undef,.arr 5,I j,.undef,.undef],[.var ((Ck h).map (AO 1)),.var ((Ck x).map (AO 1)),.free,o3,o4,.arr 1 0 (a++((l.take j).filter p).map (fun t=>1000+t)).length (ints (a++((l.take j).filter p).map (fun t=>1000+t)))]⟩) ?_ (h.exts.length) _ ⟨0,.free,.free,by simp,by simp⟩
 intro k s ⟨j,o3,o4,hj,hs⟩
 subst hs
 by_cases hjn:j<h.exts.length
 ·have hw:=Cv (j:=j) (by omega)
  have hjl:j<l.length:=by omega
  have hlt:l[j]=h.exts[j].tag:=by subst hl;exact hte j hjn
  have hst:=Alm (p:=p) (a:=a) hjl
  have hfl:=Al1 (p:=p) (a:=a) (l:=l) (j:=j)
  have hb1:((a++((l.take j).filter p).map (fun t=>1000+t)).length+1)*8<=1099511627776:=by omega
  have hpt:=hpd l[j]
  rw[hlt]at hst hpt
  generalize a++((l.take j).filter p).map (fun t=>1000+t)=r at hst hfl hb1
  simp -implicitDefEqProofs [hjn]
  refine Aa (hX x.exts h.exts[j].tag (by unfold maxLen;omega)) ?_
  by_cases h1:h.exts[j].tag∈Ba x.exts
  ·have h3:¬p h.exts[j].tag=true:=by rw[hpt];simp[h1]
   have h1':¬K7 x.exts h.exts[j].tag<0:=by rw[LA];simpa using h1
   rw[if_neg h3,List.append_nil]at hst
   simp -implicitDefEqProofs [h1']
   have hsl:=congrArg List.length hst
   simp only[List.length_append,List.length_map]at hsl
   exact⟨k-1,by omega,j+1,by omega,by simp[hw],by omega,by rw[hst]⟩
  have h1':K7 x.exts h.exts[j].tag<0:=by rw[LA];exact h1
  simp -implicitDefEqProofs [h1',hjn]
  refine Aa (hI _ _ _) ?_
  by_cases h2:M6 h.exts[j].tag 0 255
  ·have h3:p h.exts[j].tag=true:=by rw[hpt];simp[h1,inB,h2]
   rw[if_pos h3]at hst
   have hw2:IntKind.i64.wrap (1000+h.exts[j].tag)=1000+h.exts[j].tag:=Ad (by have:=h2.1;omega) (by have:=h2.2;omega)
   simp -implicitDefEqProofs [h2,hjn,hb1,hw2]
   have hsl:=congrArg List.length hst
   simp only[List.length_append,List.length_map,List.length_cons,List.length_nil]at hsl
   exact⟨k-1,by omega,j+1,by omega,by simp[hw],by omega,by rw[hst]⟩
  ·have h3:¬p h.exts[j].tag=true:=by rw[hpt];simp[h1,inB,h2]
   rw[if_neg h3,List.append_nil]at hst
   simp -implicitDefEqProofs [h2]
   have hsl:=congrArg List.length hst
   simp only[List.length_append,List.length_map]at hsl
   exact⟨k-1,by omega,j+1,by omega,by simp[hw],by omega,by rw[hst]⟩
 ·have e2:=N7 (p:=p) (xs:=l) (j:=j) (by omega)
  simp -implicitDefEqProofs [hjn,e2]
def E9:Aaf:=⟨false,0,[]⟩
def O1 (h seen:Hello) (vs tags:List Int) (key:Int):Aaf:=
 if(Bb vs tags seen).2&&(Fu h (Bb vs tags seen).1&&(!decide (G6 key [Du h,Ci (Bb vs tags seen).1] 1=0)&&
  decide (G6 key [Du h,Ci (Bb vs tags seen).1] 1=G6 key [Du seen,Ci (Bb vs tags seen).1] 1)))
 then⟨true,(Bb vs tags seen).1.version,Ba (Bb vs tags seen).1.exts⟩else E9
theorem Ahx (h:Hello):(Du h).length<=47:=by
 unfold Du
 have:=MW h.exts
 split
 ·rename_i hc
  have:=AgB (Adj hc)
  simp only[List.length_append,List.length_cons];omega
 ·simp
theorem Aml (h:Hello) (a:Nw):GR [Du h,Ci a]<=4194304:=by
 have h1:=Ahx h
 have h2:=YK a
 simp[GR,Cr]
 omega
theorem AhS {vs tags:List Int} {h:Hello} (hh:hB h):OD (Bb vs tags h).1.exts:=by
 unfold Bb
 split
 ·exact QV (QV hh.2 (fun t=>decide (t∈tags))) (fun t=> !BH t)
 ·exact Afg
def Hl (h:Hello) (path:List EG) (vs tags:List Int) (key:Int):Aaf:=if(Bd path h).2=true then O1 h (Bd path h).1 vs tags key else E9
abbrev RY:Prop:=∀(h:Hello) (path:List EG) (vs tags:List Int) (key:Int),hB h->lnS Kh path->vs.length<=4194304->tags.length<=4194304->
 R [arg (Ck h),.sl 1 4 path.length (path.flatMap DT),.sl 1 1 vs.length (ints vs),.sl 1 1 tags.length (ints tags),I key] [] (.agg (AfJ (Hl h path vs tags key))) []
theorem AgV (hP:Jj (D 286)) (hC:Zx (D 303)) (hFi:PY (D 304)) (hHB:MV (D 305)) (hAB:Lb (D 306))
 (hF:ZE (D 307)) (hT:UX (D 308)):RY (Body D LM):=by
 intro h path vs tags key hh hb hv ht
 simp -implicitDefEqProofs
 refine Aa (hP path h hb hh) ?_
 have hr:=QY (path:=path) hh
 unfold Hl
 generalize Bd path h=r at hr
 by_cases g1:r.2=true
 rotate_left
 ·simp -implicitDefEqProofs [g1,E9]
 obtain⟨seen,ok⟩:=r
 obtain rfl:ok=true:=g1
 dsimp only at hr⊢
 simp -implicitDefEqProofs
 refine Aa (hC vs tags seen hv ht hr) ?_
 have ha:=AhS (vs:=vs) (tags:=tags) hr
 unfold O1
 generalize Bb vs tags seen=q at ha
 obtain⟨a,fine⟩:=q
 dsimp only at ha⊢
 by_cases g2:fine=true
 rotate_left
 ·simp -implicitDefEqProofs [g2,E9]
 simp -implicitDefEqProofs [g2]
 refine Aa (hFi h a hh ha) ?_
 by_cases g3:Fu h a=true
 rotate_left
 ·simp -implicitDefEqProofs [g3,E9]
 simp -implicitDefEqProofs [g3]
 refine Aa (hHB h hh) ?_
 simp -implicitDefEqProofs
 refine Aa (hAB a ha) ?_
 simp -implicitDefEqProofs
 have hf:=hF key [Du h,Ci a] 1 (Aml h a)
 simp -implicitDefEqProofs [KZ,I8]at hf
 refine Aa (hf) ?_
 generalize G6 key [Du h,Ci a] 1=m
 by_cases g4:m=0
 ·simp -implicitDefEqProofs [g4,E9]
 simp -implicitDefEqProofs [g4]
 refine Aa (hHB seen hr) ?_
 simp -implicitDefEqProofs [g4]
 refine Aa (hAB a ha) ?_
 simp -implicitDefEqProofs [g4]
 have hf2:=hF key [Du seen,Ci a] 1 (Aml seen a)
 simp -implicitDefEqProofs [KZ,I8]at hf2
 refine Aa (hf2) ?_
 generalize G6 key [Du seen,Ci a] 1=m2
 by_cases g5:m=m2
 rotate_left
 ·simp -implicitDefEqProofs [g4,g5,E9]
 subst g5
 simp -implicitDefEqProofs [g4]
 refine Aa (hT a.exts ha.1) ?_
 simp -implicitDefEqProofs [g4]
def Xh (h:Hello) (path:List EG) (vs tags:List Int) (key:Int):BP:=
 if(Bg h path).2.2=true then⟨Hl (Bg h path).1 path vs tags key,(Bg h path).2.1,JN h (Bg h path).1⟩else⟨E9,(Bg h path).2.1,[]⟩
abbrev AfC:Prop:=∀(h:Hello) (path:List EG) (vs tags:List Int) (key:Int),hB h->lnS Kh path->vs.length<=4194304->tags.length<=4194304->
 R [arg (Ck h),.sl 1 4 path.length (path.flatMap DT),.sl 1 1 vs.length (ints vs),.sl 1 1 tags.length (ints tags),I key] [] (.agg (AB (Xh h path vs tags key))) []
theorem AoD (hH:Rs (D 280)) (hO:RY (D 281)) (hG:UC (D 282)):AfC (Body D TQ):=by
 intro h path vs tags key hh hb hv ht
 simp -implicitDefEqProofs
 refine Aa (hH h path hh hb) ?_
 have hr:=An3 (path:=path) hh
 unfold Xh
 generalize Bg h path=r at hr
 obtain⟨x,n,ok⟩:=r
 dsimp only at hr⊢
 by_cases g1:ok=true
 rotate_left
 ·simp -implicitDefEqProofs [g1,E9]
 simp -implicitDefEqProofs [g1]
 refine Aa (hO x path vs tags key hr hb hv ht) ?_
 simp -implicitDefEqProofs
 refine Aa (hG h x hh hr) ?_
 simp -implicitDefEqProofs [g1]
set_option maxHeartbeats 1000000
theorem AfD {l:List Ext} {k:Nat} (h:k<=l.length):part (GL (l.flatMap Cc) 2 0 k) 2 k (l.length-k)=(l.drop k).flatMap Cc:=by
 have h0:(l.flatMap Cc).length=l.length*2:=LF l
 have e1:l.flatMap Cc=(l.take k).flatMap Cc++(l.drop k).flatMap Cc:=by rw[<-List.flatMap_append,List.take_append_drop]
 have h1:((l.take k).flatMap Cc).length=k*2:=by rw[LF];simp;omega
 have h2:((l.drop k).flatMap Cc).length=(l.length-k)*2:=by rw[LF];simp
 unfold part GL
 rw[e1]
 simp only[Nat.zero_mul,List.take_zero,List.nil_append,Nat.zero_add]
 rw[List.drop_left' h1,List.drop_left' (by simp),List.take_of_length_le (by omega)]
theorem Akd {l:List Ext} {k:Nat} (h:k<=l.length):part (l.flatMap Cc) 2 0 k=(l.take k).flatMap Cc:=by
 have e1:l.flatMap Cc=(l.take k).flatMap Cc++(l.drop k).flatMap Cc:=by rw[<-List.flatMap_append,List.take_append_drop]
 have h1:((l.take k).flatMap Cc).length=k*2:=by rw[LF];simp;omega
 unfold part
 rw[e1,Nat.zero_mul,List.drop_zero,List.take_left' h1]
def Ag6 (seed:Int):List Int:=List.replicate (pick seed 2 3).toNat (pick seed 3 256)
def AiL (l:List Ext) (seed:Int):Nat:=(pick seed 1 (l.length+1)).toNat
def Ew (l:List Ext) (seed:Int):List Ext:=
 if Ej l&&(decide (l.length<6)&& !decide (Oh seed∈Ba l))then l.take (AiL l seed)++⟨Oh seed,Ag6 seed⟩::l.drop (AiL l seed)else l
theorem AoS (l:List Ext) (seed:Int) (h:l.length<=6):AiL l seed<=l.length:=by
 have:=UK seed 1 (n:=l.length+1) ⟨by omega,by omega⟩
 unfold AiL;omega
theorem AhF (seed:Int):(Ag6 seed).length<=2:=by
 have:=UK seed 2 (n:=3) ⟨by omega,by omega⟩
 unfold Ag6;simp;omega
abbrev O8:Prop:=∀(l:List Ext) (seed:Int),OD l->R [.sl 1 2 l.length (l.flatMap Cc),I seed] [] (.sl 0 2 (Ew l seed).length ((Ew l seed).flatMap Cc)) []
theorem Ad4 (hG:O4 (D 310)) (hC:U5 (D 311)) (hA:JX (D 312)) (hX:Rj (D 309)) (hP:Ahf (D 313)):O8 (Body D KR):=by
 intro l seed hl
 have hll:=hl.1
 simp -implicitDefEqProofs
 refine Aa (hG seed) ?_
 obtain⟨t,ht⟩:∃t,t=Oh seed:=⟨_,rfl⟩
 rw[<-ht]
 simp -implicitDefEqProofs
 refine Aa (hC l hl) ?_
 simp -implicitDefEqProofs
 refine Aa (hA l hl) ?_
 by_cases h1:Ej l=true
 rotate_left
 ·simp -implicitDefEqProofs [h1,Ew]
 by_cases h2:l.length<6
 rotate_left
 ·have h2':(6:Int)<=l.length:=by omega
  simp -implicitDefEqProofs [h1,h2,h2',Ew]
 have h2':¬(6:Int)<=l.length:=by omega
 simp -implicitDefEqProofs [h1,h2']
 refine Aa (hX l t (by unfold maxLen;omega)) ?_
 by_cases h3:t∈Ba l
 ·have h3':0<=K7 l t:=by
   by_cases h:K7 l t<0
   ·rw[LA]at h;exact absurd h3 h
   ·omega
  simp -implicitDefEqProofs [h1,h2,h3',h3,Ew,<-ht]
 have h3':¬0<=K7 l t:=by
  have:K7 l t<0:=by rw[LA];exact h3
  omega
 have e:Ew l seed=l.take (AiL l seed)++⟨t,Ag6 seed⟩::l.drop (AiL l seed):=by
  unfold Ew
  rw[if_pos]
  ·rw[ht]
  ·simp[h1,h2,<-ht,h3]
 have hgp:=AoS l seed (by omega)
 have hgb:=AhF seed
 rw[e]
 simp -implicitDefEqProofs [h3']
 refine Aa (hP seed 2 3) ?_
 have hp2:=UK seed 2 (n:=3) ⟨by omega,by omega⟩
 have eb:Ag6 seed=List.replicate (pick seed 2 3).toNat (pick seed 3 256):=rfl
 obtain⟨n,hn⟩:∃n:Nat,pick seed 2 3=n:=⟨(pick seed 2 3).toNat,by omega⟩
 rw[hn]at eb hp2⊢
 rw[Int.toNat_natCast]at eb
 rw[eb]at hgb⊢
 generalize hv:pick seed 3 256=v at *
 simp -implicitDefEqProofs
 refine Ag (fun k s=>∃j o2 o3,j+k=n/\s=⟨[.sl 1 2 l.length (l.flatMap Cc),I seed,.undef,.undef,.arr 0,.ptr 1 0,I k,.undef,.undef,.undef],[.arr 2 0 l.length (l.flatMap Cc),.var [I t,.arr 9],o2,o3,.free,.free,.free,.free,.free,.arr 1 0 j (ints (List.replicate j v))]⟩) ?_ (n) _ ⟨0,.free,.free,by simp,by simp[ints]⟩
 intro k s ⟨j,o2,o3,hj,hs⟩
 subst hs
 by_cases hjn:j<n
 ·have hk0:0<k:=by omega
  have hb1:(j+1)*8<=1099511627776:=by omega
  have hwk:IntKind.i64.wrap ((k:Int)-1)=(k-1:Nat):=by rw[Ad (by omega) (by omega)];omega
  simp -implicitDefEqProofs [hk0]
  refine Aa (hP seed 3 256) ?_
  rw[hv]
  simp -implicitDefEqProofs [hb1]
  exact⟨k-1,by omega,j+1,by omega,by simp[hwk],by simp[ints,List.replicate_succ']⟩
 have hk0:k=0:=by omega
 obtain rfl:j=n:=by omega
 subst hk0
 have hwl:IntKind.i64.wrap ((l.length:Int)+1)=(l.length:Int)+1:=Ad (by omega) (by omega)
 simp -implicitDefEqProofs [hwl]
 refine Aa (hP seed 1 (l.length+1)) ?_
 have hp1:=UK seed 1 (n:=(l.length:Int)+1) ⟨by omega,by omega⟩
 have eg:AiL l seed=(pick seed 1 (l.length+1)).toNat:=rfl
 generalize pick seed 1 (l.length+1)=k1 at hp1 eg
 obtain⟨kk,rfl⟩:∃kk:Nat,k1=kk:=⟨k1.toNat,by omega⟩
 rw[Int.toNat_natCast]at eg
 rw[eg]at hgp⊢
 have hk1:(kk:Int)<=l.length:=by omega
 have hb2:kk*32<=1099511627776:=by omega
 have hb3:(kk+1)*32<=1099511627776:=by omega
 have hb4:(kk+1+(l.length-kk))*32<=1099511627776:=by omega
 simp -implicitDefEqProofs [hk1,hgp,hb2,hb3,hb4,AfD hgp,Akd hgp]
 all_goals omega
theorem Aig {l:List Ext} (hl:OD l) (h6:l.length<=4194303) (seed:Int):OD (Ew l seed):=by
 unfold Ew
 split
 ·refine⟨?_,?_⟩
  ·simp;omega
  ·intro x hx
   rcases List.mem_append.1 hx with h | h
   ·exact hl.2 x (List.mem_of_mem_take h)
   ·rcases List.mem_cons.1 h with h | h
    ·subst h;have:=AhF seed;dsimp only;omega
    ·exact hl.2 x (List.mem_of_mem_drop h)
 ·exact hl
def bare (ts:List Int):List Ext:=ts.map fun t=>⟨t,[]⟩
theorem Om (ts:List Int):(bare ts).length=ts.length:=by simp[bare]
theorem Af4 {ts:List Int} (h:ts.length<=4194304):OD (bare ts):=⟨by rw[Om];exact h,fun x hx=>by
 obtain⟨t,_,rfl⟩:=List.mem_map.1 hx;simp⟩
theorem Aly {ts:List Int} {j:Nat} (h:j<ts.length):(bare (ts.take j)).flatMap Cc++ [.sc (.int .i64 ts[j]),.sl 0 1 0 []]=(bare (ts.take (j+1))).flatMap Cc:=by
 have e:ts.take (j+1)=ts.take j++ [ts[j]]:=by simp
 rw[e]
 unfold bare
 rw[List.map_append,List.flatMap_append]
 rfl
def Ho (e:Ai) (seed:Int):Hello:=if Au e=true then⟨e.versions,Ew (bare e.tags) seed⟩else AU
abbrev U7:Prop:=∀(e:Ai) (seed:Int),Am e<=4194304->R [arg (Ah e),I seed] [] (.agg (Ck (Ho e seed))) []
theorem Uh {e:Ai} (h:Au e=true):e.tags.length<=5:=by
 unfold Au at h
 simp only[Bool.and_eq_true,decide_eq_true_eq]at h
 exact h.2.1
theorem Air {e:Ai} (hsz:Am e<=4194304) (seed:Int):hB (Ho e seed):=by
 unfold Ho
 split
 ·rename_i h
  have:=Uh h
  exact⟨Adq hsz,Aig (Af4 (by omega)) (by rw[Om];omega) seed⟩
 ·exact Aba
theorem AhY (hE:Ij (D 207)) (hG:O8 (D 283)):U7 (Body D NF):=by
 intro e seed hsz
 have hl:=AhO hsz
 have hv:=Adq hsz
 simp -implicitDefEqProofs
 refine Aa (hE e hl) ?_
 by_cases h1:Au e=true
 rotate_left
 ·simp -implicitDefEqProofs [h1,Ho,AU]
 have h5:=Uh h1
 have he:Ho e seed=⟨e.versions,Ew (bare e.tags) seed⟩:=by unfold Ho;rw[if_pos h1]
 rw[he]
 have hb2:e.versions.length*8<=1099511627776:=by omega
 simp -implicitDefEqProofs [h1]
 refine Ag (fun k s=>∃j o3 o4,j+k=e.tags.length/\s=⟨[.undef,I seed,.ptr 0 0,.ptr 1 0,.arr 8,I j,.undef,.undef],[.var ((Ah e).map (AO 1)),.var [.nil 1,.nil 2],.free,o3,o4,.free,.free,.free,.arr 2 0 j ((bare (e.tags.take j)).flatMap Cc)]⟩) ?_ (e.tags.length) _ ⟨0,.free,.free,by simp,by simp[bare]⟩
 intro k s ⟨j,o3,o4,hj,hs⟩
 subst hs
 by_cases hjn:j<e.tags.length
 ·have hw:=Cv (j:=j) (by omega)
  have hst:=Aly hjn
  have hb1:(j+1)*32<=1099511627776:=by omega
  have hlen:(bare (e.tags.take j)).length=j:=by rw[Om];simp;omega
  have hlen2:(bare (e.tags.take (j+1))).length=j+1:=by rw[Om];simp;omega
  simp -implicitDefEqProofs [hjn,hb1]
  exact⟨k-1,by omega,j+1,by omega,by simp[hw],by rw[<-hst];exact⟨rfl,rfl⟩⟩
 have e2:e.tags.take j=e.tags:=List.take_of_length_le (by omega)
 obtain rfl:j=e.tags.length:=by omega
 simp -implicitDefEqProofs [hjn,e2,hb2]
 have hq:=hG (bare e.tags) seed (Af4 (by omega))
 rw[Om]at hq
 refine Aa (hq) ?_
 simp -implicitDefEqProofs
def Md:BP:=⟨E9,0,[]⟩
def MO (e:Ai) (vs tags:List Int) (key seed:Int):BP:=if Au e=true then Xh (Ho e seed) e.path vs tags key else Md
abbrev Uj:Prop:=∀(e:Ai) (vs tags:List Int) (key seed:Int),Am e<=4194304->vs.length<=4194304->tags.length<=4194304->
 R [arg (Ah e),.sl 1 1 vs.length (ints vs),.sl 1 1 tags.length (ints tags),I key,I seed] [] (.agg (AB (MO e vs tags key seed))) []
theorem AiM (hE:Ij (D 207)) (hH:U7 (D 251)) (hD:AfC (D 252)):Uj (Body D NH):=by
 intro e vs tags key seed hsz hv ht
 have hl:=AhO hsz
 simp -implicitDefEqProofs
 refine Aa (hE e hl) ?_
 by_cases h1:Au e=true
 rotate_left
 ·simp -implicitDefEqProofs [h1,MO,Md,E9]
 simp -implicitDefEqProofs [h1]
 refine Aa (hH e seed hsz) ?_
 have hh:=Air hsz seed
 have he:MO e vs tags key seed=Xh (Ho e seed) e.path vs tags key:=by unfold MO;rw[if_pos h1]
 rw[he]
 generalize Ho e seed=h at hh
 simp -implicitDefEqProofs
 refine Aa (hD h e.path vs tags key hh hl.2.2 hv ht) ?_
 simp -implicitDefEqProofs
def clip (n:Int):Int:=max (-100000) (min 100000 n)
abbrev AjP:Prop:=∀n:Int,R [I n] [] (I (clip n)) []
theorem Akx (hM:Afz (D 215)) (hN:Ajq (D 253)):AjP (Body D Ny):=by
 intro n
 simp -implicitDefEqProofs
 refine Aa (hN _ _) ?_
 simp -implicitDefEqProofs
 refine Aa (hM _ _) ?_
 simp -implicitDefEqProofs [clip]
def KI (w:World) (i:Int):BP:=if NJ i 0 ((w.ends.length:Int)-1)then(match w.ends[i.toNat]? with | some e=>MO e w.server w.tags w.key (16*clip w.now+i) | none=>Md)else Md
abbrev ZL:Prop:=∀(w:World) (i:Int),Af w<=4194304->R [arg (Bu w),I i] [] (.agg (AB (KI w i))) []
theorem An9 (n:Int):-100000<=clip n/\clip n<=100000:=by unfold clip;omega
theorem Akz (hI:Vf (D 71)) (hC:AjP (D 212)) (hB:Uj (D 213)):ZL (Body D OE):=by
 intro w i hsz
 have he:=FE hsz
 have hw:IntKind.i64.wrap ((w.ends.length:Int)-1)=(w.ends.length:Int)-1:=Ad (by omega) (by omega)
 simp -implicitDefEqProofs [hw]
 refine Aa (hI _ _ _) ?_
 by_cases h1:NJ i 0 ((w.ends.length:Int)-1)
 rotate_left
 ·simp -implicitDefEqProofs [h1,KI,Md,E9]
 obtain⟨n,rfl⟩:∃n:Nat,i=n:=⟨i.toNat,by have:=h1.1;omega⟩
 have hn:n<w.ends.length:=by have:=h1.2;omega
 have hb:=Od hsz
 have hes:=AdH hsz hn
 have e:KI w n=MO w.ends[n] w.server w.tags w.key (16*clip w.now+n):=by unfold KI;rw[if_pos h1];simp[hn]
 rw[e]
 simp -implicitDefEqProofs [h1,hn]
 refine Aa (hC w.now) ?_
 have hcl:=An9 w.now
 generalize clip w.now=c at hcl
 have hw1:IntKind.i64.wrap (16*c)=16*c:=Ad (by omega) (by omega)
 have hw2:IntKind.i64.wrap (16*c+n)=16*c+n:=Ad (by omega) (by omega)
 simp -implicitDefEqProofs [hw1,hw2]
 refine Aa (hB w.ends[n] w.server w.tags w.key _ hes hb.1 hb.2.1) ?_
 simp -implicitDefEqProofs
end Go.Eng.T
