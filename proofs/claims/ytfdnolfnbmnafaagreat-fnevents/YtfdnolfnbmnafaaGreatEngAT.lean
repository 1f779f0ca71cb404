/- Own work: part 43 of the proof of FnEvents. -/
import Derived.Test.YtfdnolfnbmnafaaGreatEngAP
set_option linter.unusedSimpArgs false
set_option linter.unusedVariables false
namespace Go.Eng.X
open Go.Eng
instance:Coe JQ Qq:=⟨fun o=>⟨o,none,none,[]⟩⟩
abbrev s (n:Nat):Src:= .slot n
abbrev l (n:Nat):Src:= .loc n
abbrev i (n:Int):Src:= .con (.sc (.int .i64 n))
abbrev t:Src:= .con (.sc (.bool true))
abbrev f:Src:= .con (.sc (.bool false))
abbrev z (n:Nat):Src:= .con (.nil n)
abbrev u:Src:= .con .undef
abbrev g (n:Nat):Src:= .con (.fn n [])
abbrev o:V:= .sc (.int .i64 0)
abbrev c:V:= .sc (.bool false)
abbrev N (n:Nat):V:= .nil n
abbrev zW:List V:=[N 1,N 1,o,N 4,o,N 1,o,c,o,o,N 5,N 8,o,o,o]
abbrev zE:List V:=[N 1,N 1,N 4,o]
abbrev zD:List V:=[c,o,N 1,o,N 1]
abbrev zR:List V:=[o,N 1,o,c]
abbrev zL:List V:=[o,o,c,c,o,N 1,o,N 1]
abbrev r (x:Src):Bool×Src:=(false,x)
abbrev v (x:Src):Bool×Src:=(true,x)
abbrev m (x:Src):JQ:= .mv x
abbrev L (x:Src):JQ:= .load none x
abbrev P (n:Nat) (x:Src):JQ:= .load (some n) x
abbrev C (g:Nat) (a:List (Bool×Src)) (b:List Nat):JQ:= .call g a b
abbrev y (o:BinOp) (a b:Src):JQ:= .bin o a b
abbrev F (x:Src) (n:Nat):JQ:= .fieldAddr x n
abbrev W (n:Nat) (a b:Src):JQ:= .store n a b
abbrev e (x:Src):JQ:= .len false x
abbrev E (x:Src):JQ:= .len true x
abbrev n (x:Src):JQ:= .un .not x
abbrev k (a b c:Src):JQ:= .pick a b c
abbrev A (n:Nat) (a b:Src):JQ:= .indexAddr n a b
abbrev a (n:Nat) (l:List V):JQ:= .alloc n l
abbrev x (n:Nat) (a:Src):JQ:= .box n a
abbrev b (l:List V) (p:List (Nat×Nat×Src)):JQ:= .build l p
abbrev M (k e n:Nat) (p:List Src):JQ:= .buildSlice k e n p
abbrev X (a:Src) (n:Nat):JQ:= .extract a n
abbrev p (k e b:Nat) (x y:Src):JQ:= .append k e b true x y
abbrev q (k e b:Nat) (x y:Src):JQ:= .append k e b false x y
abbrev G (n:Nat) (o:JQ):Qq:=⟨o,some (n,false),none,[]⟩
abbrev J (n:Nat) (o:JQ):Qq:=⟨o,some (n,true),none,[]⟩
abbrev D (o:JQ) (a b:List Nat):Qq:=⟨o,none,some a,b⟩
abbrev H (n:Nat) (o:JQ) (a b:List Nat):Qq:=⟨o,some (n,false),some a,b⟩
abbrev K (n:Nat) (o:JQ) (a b:List Nat):Qq:=⟨o,some (n,true),some a,b⟩
abbrev w (a b:Nat):Gh:= .ren a b
abbrev R (i:Nat) (o:List Qq) (s:List (Nat×Nat)) (c:List Nat):Bl:=⟨i,false,[],o,s,[],c⟩
abbrev T (i:Nat) (o:List Qq) (s:List (Nat×Nat)) (c:List Nat):Bl:=⟨i,true,[],o,s,[],c⟩
abbrev Q (i:Nat) (o:List Qq) (s:List (Nat×Nat)) (c f:List Nat) (g:List Gh):Bl:=⟨i,false,f,o,s,g,c⟩
abbrev Y (i:Nat) (o:List Qq) (s:List (Nat×Nat)) (c f:List Nat) (g:List Gh):Bl:=⟨i,true,f,o,s,g,c⟩
abbrev d (r:Bl):SC:= .reg r
abbrev j (a b:SC):SC:= .seq a b
abbrev h (n:Nat) (a b:SC):SC:= .cond n a b
attribute [simp] s l i t f z u g o c N zW zE zD zR zL r v m L P C y F W e E n k A a x b M X p q G J D H K w R T Q Y d j h
end Go.Eng.X
