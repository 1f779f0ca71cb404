/- Own work: part 2 of the proof of FnEvents. -/
import Derived.Test.YtfdnolfnbmnafaaGreatEngA
set_option linter.unusedSimpArgs false
set_option linter.unusedVariables false
namespace Go.Eng
inductive Src where
 | loc (i:Nat)
 | slot (i:Nat)
 | con (v:V)
 deriving Inhabited
inductive JQ where
 | mv (x:Src)
 | pick (c a b:Src)
 | alloc (k:Nat) (zero:List V)
 | box (k:Nat) (x:Src)
 | build (zero:List V) (parts:List (Nat×Nat×Src))
 | buildSlice (k e len:Nat) (parts:List Src)
 | lend (kv k e len:Nat) (parts:List Src)
 | load (n:Option Nat) (x:Src)
 | take (s:Nat) (x:Src)
 | store (n:Nat) (x v:Src)
 | bin (op:BinOp) (x y:Src)
 | beq (ne:Bool) (x y:Src)
 | un (op:UnOp) (x:Src)
 | conv (k:IntKind) (x:Src)
 | bstr (x:Src)
 | len (str:Bool) (x:Src)
 | minmax (mx:Bool) (x:Src) (r:List Src)
 | append (k e b:Nat) (mvsrc:Bool) (x y:Src)
 | slice (e:Nat) (x:Src) (lo hi:Option Src)
 | fieldAddr (x:Src) (off:Nat)
 | indexAddr (e:Nat) (x i:Src)
 | indexS (x i:Src)
 | indexA (n e:Nat) (x i:Src)
 | field (n:Option Nat) (x:Src) (off:Nat)
 | extract (x:Src) (i:Nat)
 | makeSlice (k e b:Nat) (zero:List V) (n:Src)
 | makeFunc (g:Nat) (caps:List Src)
 | call (g:Nat) (args:List (Bool×Src)) (sites:List Nat)
 | callv (f:Src) (args:List (Bool×Src)) (sites:List Nat)
 | callp (g:Nat) (args:List (Bool×Src)) (sites:List Nat)
 deriving Inhabited
def evs (vals env:List V):Src→V
 | .loc i=>vals.getD i .undef
 | .slot i=>env.getD i .undef
 | .con v=>v
abbrev Hp:=Nat→O
def Vl:V→Bool
 | .sc _=>true
 | _=>false
def cellsOf:V→Option (List V)
 | .agg cs=>some cs
 | .tup _=>none
 | .undef=>none
 | v=>some [v]
def putAt {α:Type}:List α→Nat→List α→List α
 | cs,_,[]=>cs
 | cs,off,v::r=>putAt (cs.set off v) (off+1) r
def Iy (cs:List V) (off n:Nat):Option (List V):=
 if off+n≤cs.length then some ((cs.drop off).take n)else none
def Be (fl:Nat):V→V
 | .sl _ e len cs=> .sl fl e len cs
 | .rptr _ cs off=> .rptr fl cs off
 | .nil e=> .sl fl e 0 []
 | .sc v=> .sc v
 | _=> .undef
def TY (bor:Bool):V→Option V
 | .sc v=>some (.sc v)
 | .sl 0 e len cs=>if bor then some (.sl 2 e len cs)else none
 | .sl fl e len cs=>some (.sl fl e len cs)
 | _=>none
def OW (bor:Bool):List V→Option (List V)
 | []=>some []
 | v::r=>match TY bor v,OW bor r with
  | some a,some b=>some (a::b)
  | _,_=>none
def AcM (bor:Bool) (H:Hp) (n:Nat):V→Option (List V)
 | .ptr k off=>match H k with
  | .var cs=>Iy cs off n
  | .arr _ _ _ cs=>match Iy cs off n with
   | some c=>OW bor c
   | none=>none
  | .tarr _ _ _ _ _ cs=>match Iy cs off n with
   | some c=>OW bor c
   | none=>none
  | _=>none
 | .rptr fl cs off=>if 1≤fl then(match Iy cs off n with
  | some c=>some (c.map (Be fl))
  | none=>none)else none
 | _=>none
def Akr (bor:Bool) (H:Hp) (n:Option Nat) (x:V):Option V:=
 match n with
 | none=>match AcM bor H 1 x with
  | some [v]=>some v
  | _=>none
 | some n=>match AcM bor H n x with
  | some cs=>some (.agg cs)
  | none=>none
def Dp (ks:List Nat) (H:Hp):Hp:=fun k=>if ks.contains k then .dead else H k
def Al:O→Option (Nat×Nat×Nat×List V)
 | .arr e t len cs=>some (e,t,len,cs)
 | .tarr _ _ e t len cs=>some (e,t,len,cs)
 | _=>none
def VX (H:Hp):V→Option (V×Nat×List Nat)
 | .sc x=>some (.sc x,0,[])
 | .nil e=>some (.sl 0 e 0 [],0,[])
 | .sl 0 _ _ _=>none
 | .sl fl e len cs=>some (.sl fl e len cs,lv fl,[])
 | .arr k=>match Al (H k)with
  | some (e,t,len,cs)=>some (.sl 0 e len cs,t,[k])
  | none=>none
 | _=>none
def Rk (H:Hp):List V→Option (List V×Nat×List Nat)
 | []=>some ([],0,[])
 | v::r=>match VX H v with
  | none=>none
  | some (v',t,ks)=>match Rk (Dp ks H) r with
   | none=>none
   | some (r',t',ks')=>some (v'::r',max t t',ks++ks')
def Azr (H:Hp):V→Option (V×Nat×List Nat)
 | .agg cs=>match Rk H cs with
  | some (cs',t,ks)=>some (.agg cs',t,ks)
  | none=>none
 | .ptr k 0=>match H k with
  | .var cs=>match Rk (Dp [k] H) cs with
   | some (cs',t,ks)=>some (.rptr 0 cs' 0,t,k::ks)
   | none=>none
  | _=>none
 | v=>VX H v
def ApQ (H:Hp):List V→Option (List V×Nat×List Nat)
 | []=>some ([],0,[])
 | v::r=>match Azr H v with
  | none=>none
  | some (v',t,ks)=>match ApQ (Dp ks H) r with
   | none=>none
   | some (r',t',ks')=>some (v'::r',max t t',ks++ks')
def give (H:Hp):V→Option (V×Nat×List Nat)
 | .tup vs=>match ApQ H vs with
  | some (vs',t,ks)=>some (.tup vs',t,ks)
  | none=>none
 | v=>Azr H v
def part (cs:List V) (e off len:Nat):List V:=(cs.drop (off*e)).take (len*e)
def ro1 (H:Hp):V→Option V
 | .sc x=>some (.sc x)
 | .nil e=>some (.sl 1 e 0 [])
 | .sl 0 _ _ _=>none
 | .sl 3 e len cs=>some (.sl 3 e len cs)
 | .sl _ e len cs=>some (.sl 1 e len (cs.map (Be 0)))
 | .arr k=>match Al (H k)with
  | some (e,_,len,cs)=>some (.sl 1 e len (cs.map (Be 0)))
  | none=>none
 | .sub k off len=>match Al (H k)with
  | some (e,_,_,cs)=>some (.sl 1 e len ((part cs e off len).map (Be 0)))
  | none=>none
 | .undef=>some .undef
 | _=>none
def roL (H:Hp):List V→Option (List V)
 | []=>some []
 | v::r=>match ro1 H v,roL H r with
  | some a,some b=>some (a::b)
  | _,_=>none
def ro2 (H:Hp):V→Option V
 | .ptr k off=>match H k with
  | .var cs=>match roL H cs with
   | some cs'=>some (.rptr 1 (cs'.map (Be 0)) off)
   | none=>none
  | _=>none
 | .rptr fl cs off=>if fl=0 then none else some (if fl=3 then .rptr 3 cs off else .rptr 1 (cs.map (Be 0)) off)
 | v=>ro1 H v
def ABV (H:Hp):List V→Option (List V)
 | []=>some []
 | v::r=>match ro2 H v,ABV H r with
  | some a,some b=>some (a::b)
  | _,_=>none
def ro (H:Hp):V→Option V
 | .fn g caps=>match ABV H caps with
  | some cs=>some (.fn g cs)
  | none=>none
 | .agg cs=>match roL H cs with
  | some cs'=>some (.agg cs')
  | none=>none
 | v=>ro2 H v
def wrp (k:IntKind) (n:Int):Value:= .int k (k.wrap n)
def AsB (op:BinOp):Value→Value→Option Value
 | .int k a,.int k' b=>
  if op= .shl then(if b<0 then none else some (.int k (k.wrap (a*2 ^ (min b.toNat k.bits)))))
  else if op= .shr then(if b<0 then none else some (.int k (a.fdiv (2 ^ (min b.toNat k.bits)))))
  else if k=k' then
   match op with
   | .add=>some (.int k (k.wrap (a+b)))
   | .sub=>some (.int k (k.wrap (a-b)))
   | .mul=>some (.int k (k.wrap (a*b)))
   | .quo=>if b=0 then none else some (.int k (k.wrap (a.tdiv b)))
   | .rem=>if b=0 then none else some (.int k (a.tmod b))
   | .and=>some (.int k (k.wrap (BitVec.ofInt k.bits a&&&BitVec.ofInt k.bits b).toNat))
   | .or=>some (.int k (k.wrap (BitVec.ofInt k.bits a|||BitVec.ofInt k.bits b).toNat))
   | .xor=>some (.int k (k.wrap (BitVec.ofInt k.bits a ^^^ BitVec.ofInt k.bits b).toNat))
   | .eql=>some (.bool (a==b))
   | .neq=>some (.bool (a !=b))
   | .lss=>some (.bool (a<b))
   | .leq=>some (.bool (a≤b))
   | .gtr=>some (.bool (a>b))
   | .geq=>some (.bool (a≥b))
   | _=>none
  else none
 | .string a,.string b=>
  match op with
  | .add=>if a.size+b.size≤2 ^ 40 then some (.string (a++b))else none
  | .eql=>some (.bool (a.toList==b.toList))
  | .neq=>some (.bool (!(a.toList==b.toList)))
  | _=>none
 | _,_=>none
def AIm (ne:Bool):Value→Value→Option Value
 | .bool a,.bool b=>some (.bool (if ne then !(a==b)else a==b))
 | _,_=>none
def unV (op:UnOp):Value→Option Value
 | .int k n=>match op with
  | .neg=>some (.int k (k.wrap (0-n)))
  | _=>none
 | .bool b=>match op with
  | .not=>some (.bool (!b))
  | _=>none
 | _=>none
def mmV (mx:Bool):Value→Value→Option Value
 | .int k a,.int k' b=>if k=k' then some (.int k (if mx then(if b>a then b else a)else(if b<a then b else a)))else none
 | _,_=>none
def content (H:Hp):V→Option (Nat×Nat×List V)
 | .nil e=>some (e,0,[])
 | .sl 0 _ _ _=>none
 | .sl fl e len cs=>some (e,len,cs.map (Be fl))
 | .arr k=>match Al (H k)with
  | some (e,_,len,cs)=>some (e,len,cs)
  | none=>none
 | .sub k off len=>match Al (H k)with
  | some (e,_,_,cs)=>some (e,len,part cs e off len)
  | none=>none
 | _=>none
def Au2 :V→Option UInt8
 | .sc (.int .u8 n)=>some (UInt8.ofNat n.toNat)
 | _=>none
def Rv :List V→Option (List UInt8)
 | []=>some []
 | v::r=>match Au2 v,Rv r with
  | some a,some b=>some (a::b)
  | _,_=>none
def asI:V→Option Int
 | .sc (.int _ n)=>some n
 | _=>none
abbrev Gq:=List (Nat×O)
def EY (ks:List Nat):Gq:=ks.map fun k=>(k,.dead)
def Ff (H:Hp) (takes:List Nat) (k off n:Nat):Gq:=
 takes.filterMap fun s=>match H s with
  | .tarr k' o' e t len cs=>if k' =k∧off≤o'∧o' <off+n then some (s,.arr e t len cs)else none
  | _=>none
def YZ (ev:Src→V) (cs:List V):List (Nat×Nat×Src)→Option (List V)
 | []=>some cs
 | (off,n,x)::r=>match cellsOf (ev x)with
  | some ps=>if ps.length=n∧off+n≤cs.length then YZ ev (putAt cs off ps) r else none
  | none=>none
def AuC (ev:Src→V) (e:Nat) (H:Hp):List Src→Option (List V×Nat×List Nat)
 | []=>some ([],0,[])
 | x::r=>match cellsOf (ev x)with
  | none=>none
  | some ps=>if ps.length=e then(match Rk H ps with
   | none=>none
   | some (ps',t,ks)=>match AuC ev e (Dp ks H) r with
    | none=>none
    | some (r',t',ks')=>some (ps'++r',max t t',ks++ks'))else none
def AF6 (ev:Src→V) (mx:Bool) (a:V):List Src→Option V
 | []=>some a
 | y::r=>match a,ev y with
  | .sc u,.sc v=>match mmV mx u v with
   | some z=>AF6 ev mx (.sc z) r
   | none=>none
  | _,_=>none
def YX (H:Hp) (e:Nat):V→Option (Nat×Nat×List V×List Nat)
 | .nil _=>some (0,0,[],[])
 | .arr k0=>match Al (H k0)with
  | some (e',t,len,cs)=>if e' =e then some (t,len,cs,[k0])else none
  | none=>none
 | _=>none
def Xh (H:Hp) (e:Nat) (mvsrc:Bool):V→Option (Nat×Nat×List V×List Nat)
 | .arr k1=>match Al (H k1)with
  | some (e',t',n,c)=>if e' =e then(if mvsrc then some (t',n,c,[k1])else if c.all Vl then some (0,n,c,[])else none)else none
  | none=>none
 | .sl 0 _ _ _=>none
 | .sl fl e' n c=>if e' =e then(if c.all Vl then some (0,n,c,[])else some (lv fl,n,c.map (Be fl),[]))else none
 | .nil _=>some (0,0,[],[])
 | .sub k1 off n=>match Al (H k1)with
  | some (e',_,_,c)=>if e' =e∧(part c e off n).all Vl then some (0,n,part c e off n,[])else none
  | none=>none
 | _=>none
def Ml (cs:List V) (e off n:Nat):List V:=cs.take (off*e)++(List.replicate (n*e) .undef++cs.drop ((off+n)*e))
def AbR (H:Hp) (e:Nat):V→Option (Nat×Nat×List V×Nat×O)
 | .sub k1 off n=>match H k1 with
  | .arr e' t' m c=>if e' =e∧off+n≤m then some (t',n,part c e off n,k1,.arr e t' m (Ml c e off n))else none
  | _=>none
 | _=>none
def Anw (H:Hp) (k e b:Nat) (mvsrc:Bool) (x y:V):Option (V×Gq):=
 match H k with
 | .free=>match YX H e x with
  | none=>none
  | some (t,len,cs,ks)=>match(if mvsrc then AbR (Dp ks H) e y else none)with
   | some (t',n,c,k1,o1)=>if(len+n)*b≤2 ^ 40 then some (.arr k,(k1,o1)::(EY ks++ [(k,.arr e (max t t') (len+n) (cs++c))]))else none
   | none=>match Xh (Dp ks H) e mvsrc y with
    | none=>none
    | some (t',n,c,ks')=>if(len+n)*b≤2 ^ 40 then some (.arr k,EY (ks++ks')++ [(k,.arr e (max t t') (len+n) (cs++c))])else none
 | _=>none
def bounds (l:Option Int) (h:Option Int) (n:Nat):Option (Nat×Nat):=
 match l with
 | none=>none
 | some l=>if 0≤l∧l≤h.getD n∧h.getD n≤n then some (l.toNat,(h.getD n).toNat)else none
def OO (H:Hp) (e:Nat) (x:V) (l h:Option Int):Option V:=
 match x with
 | .sc (.string s)=>match bounds l h s.size with
  | some (l,h)=>some (.sc (.string (s.extract l h)))
  | none=>none
 | .sl 0 _ _ _=>none
 | .sl fl e' len cs=>match bounds l h len with
  | some (l,h)=>if e' =e then some (.sl fl e (h-l) (part cs e l (h-l)))else none
  | none=>none
 | .arr k=>match Al (H k)with
  | some (e',_,len,_)=>match bounds l h len with
   | some (l,h)=>if e' =e then some (.sub k l (h-l))else none
   | none=>none
  | none=>none
 | .sub k off len=>match Al (H k)with
  | some (e',_,_,_)=>match bounds l h len with
   | some (l,h)=>if e' =e then some (.sub k (off+l) (h-l))else none
   | none=>none
  | none=>none
 | _=>none
def Zi (x:V) (off:Nat):Option V:=
 match x with
 | .ptr k o=>some (.ptr k (o+off))
 | .rptr fl cs o=>some (.rptr fl cs (o+off))
 | _=>none
def Lp (H:Hp) (e:Nat) (x:V) (i:Int):Option V:=
 match x with
 | .sl fl e' len cs=>if e' =e∧0≤i∧i<len∧1≤fl then some (.rptr fl cs (i.toNat*e))else none
 | .arr k=>match Al (H k)with
  | some (e',_,len,_)=>if e' =e∧0≤i∧i<len then some (.ptr k (i.toNat*e))else none
  | none=>none
 | .sub k off len=>match Al (H k)with
  | some (e',_,_,_)=>if e' =e∧0≤i∧i<len then some (.ptr k ((off+i.toNat)*e))else none
  | none=>none
 | _=>none
def AtC (H:Hp) (x:V):Option Nat:=
 match x with
 | .sc (.string s)=>some s.size
 | .nil _=>some 0
 | .sl fl _ len _=>if fl=0 then none else some len
 | .arr k=>match Al (H k)with
  | some (_,_,len,_)=>some len
  | none=>none
 | .sub k _ len=>match Al (H k)with
  | some _=>some len
  | none=>none
 | _=>none
def isStr:V→Bool
 | .sc (.string _)=>true
 | _=>false
def AC4 (s:Bool) (H:Hp) (x:V):Option Nat:=if isStr x=s then AtC H x else none
def Zu (H:Hp) (e:Nat) (x:V) (l h:Option Int):Option V:=if isStr x=(e==0)then OO H e x l h else none
def Yp (x:V) (i:Int):Option V:=
 match x with
 | .sc (.string s)=>if 0≤i then(match s.data[i.toNat]? with
  | some c=>some (.sc (.int .u8 c.toNat))
  | none=>none)else none
 | _=>none
def Agc (n e:Nat) (x:V) (i:Int):Option V:=
 match x with
 | .agg cs=>if 0≤i∧i<n∧e=1 then cs[i.toNat]? else none
 | _=>none
def Avp (n:Option Nat) (x:V) (off:Nat):Option V:=
 match x with
 | .agg cs=>match n with
  | none=>cs[off]?
  | some n=>match Iy cs off n with
   | some c=>some (.agg c)
   | none=>none
 | _=>none
def AfR (x:V) (i:Nat):Option V:=
 match x with
 | .tup vs=>vs[i]?
 | _=>none
def ADZ (k:IntKind) (x:V):Option V:=
 match x with
 | .sc (.int _ n)=>some (.sc (.int k (k.wrap n)))
 | _=>none
def AHs (H:Hp) (x:V):Option V:=
 match content H x with
 | some (e,_,cs)=>if e=1 then(match Rv cs with
  | some l=>some (.sc (.string ⟨l.toArray⟩))
  | none=>none)else none
 | none=>none
def AJ9 (op:UnOp) (x:V):Option V:=
 match x with
 | .sc a=>match unV op a with
  | some r=>some (.sc r)
  | none=>none
 | _=>none
def ADd (op:BinOp) (x y:V):Option V:=
 match x,y with
 | .sc a,.sc b=>match AsB op a b with
  | some r=>some (.sc r)
  | none=>none
 | _,_=>none
def ADT (ne:Bool) (x y:V):Option V:=
 match x,y with
 | .sc a,.sc b=>match AIm ne a b with
  | some r=>some (.sc r)
  | none=>none
 | _,_=>none
def AtZ (c a b:V):Option V:=
 match c with
 | .sc (.bool t)=>some (if t then a else b)
 | _=>none
def AyQ (bor:Bool) (H:Hp) (s:Nat) (x:V):Option (V×Gq):=
 if bor then none else match H s,x with
  | .free,.ptr k off=>match H k with
   | .arr e' t len' cs=>match cs[off]? with
    | some (.sl 0 e len c)=>some (.arr s,[(k,.arr e' t len' (cs.set off .undef)),(s,.tarr k off e t len c)])
    | _=>none
   | .tarr k' o' e' t len' cs=>match cs[off]? with
    | some (.sl 0 e len c)=>some (.arr s,[(k,.tarr k' o' e' t len' (cs.set off .undef)),(s,.tarr k off e t len c)])
    | _=>none
   | _=>none
  | _,_=>none
def Ap2 (takes:List Nat) (H:Hp) (n:Nat) (x v:V):Option Gq:=
 match x,cellsOf v with
 | .ptr k off,some vs=>if vs.length=n then(match H k with
  | .var cs=>if off+n≤cs.length then some [(k,.var (putAt cs off vs))]else none
  | .arr e t len cs=>if off+n≤cs.length then(match Rk (Dp [k] H) vs with
   | some (vs',t',ks)=>some (Ff H takes k off n++EY ks++ [(k,.arr e (max t t') len (putAt cs off vs'))])
   | none=>none)else none
  | .tarr k' o' e t len cs=>if off+n≤cs.length then(match Rk (Dp [k] H) vs with
   | some (vs',t',ks)=>some (Ff H takes k off n++EY ks++ [(k,.tarr k' o' e (max t t') len (putAt cs off vs'))])
   | none=>none)else none
  | _=>none)else none
 | _,_=>none
def Aqd (H:Hp) (k:Nat) (cs:Option (List V)):Option (V×Gq):=
 match H k,cs with
 | .free,some cs=>some (.ptr k 0,[(k,.var cs)])
 | _,_=>none
def UW (H:Hp) (k e b:Nat) (zero:List V) (n:Int):Option (V×Gq):=
 match H k with
 | .free=>if 0≤n∧n*b≤2 ^ 40∧zero.length=e then some (.arr k,[(k,.arr e 0 n.toNat (List.replicate n.toNat zero).flatten)])else none
 | _=>none
def NY (H:Hp) (ev:Src→V) (k e len:Nat) (parts:List Src):Option (V×Gq):=
 match H k,AuC ev e H parts with
 | .free,some (cs,t,ks)=>if parts.length=len then some (.arr k,EY ks++ [(k,.arr e t len cs)])else none
 | _,_=>none
def ADn (H:Hp) (ks:List Nat):V→V
 | .arr j=>if ks.contains j then(match H j with
  | .arr e 0 len cs=>if cs.all Vl then .sl 2 e len cs else .arr j
  | _=> .arr j)else .arr j
 | v=>v
def AzZ (bor:Bool) (H:Hp) (ev:Src→V) (kv k e len:Nat) (parts:List Src):Option (V×Gq):=
 match NY H ev k e len parts,H kv with
 | some (v,u),.var cs=>if bor then(if(u.map (·.1)).contains kv then none else some (v,u++ [(kv,.var (cs.map (ADn H (u.map (·.1)))))]))else none
 | _,_=>none
def noU (v:Option V):Option (V×Gq):=
 match v with
 | some v=>some (v,[])
 | none=>none
def op1 (bor:Bool) (takes:List Nat) (H:Hp) (ev:Src→V):JQ→Option (V×Gq)
 | .mv x=>some (ev x,[])
 | .pick c a b=>noU (AtZ (ev c) (ev a) (ev b))
 | .alloc k zero=>Aqd H k (some zero)
 | .box k x=>Aqd H k (cellsOf (ev x))
 | .build zero parts=>noU (match YZ ev zero parts with
  | some cs=>some (.agg cs)
  | none=>none)
 | .buildSlice k e len parts=>NY H ev k e len parts
 | .lend kv k e len parts=>AzZ bor H ev kv k e len parts
 | .load n x=>noU (Akr bor H n (ev x))
 | .take s x=>AyQ bor H s (ev x)
 | .store n x v=>match Ap2 takes H n (ev x) (ev v)with
  | some u=>some (.undef,u)
  | none=>none
 | .bin op x y=>noU (ADd op (ev x) (ev y))
 | .beq ne x y=>noU (ADT ne (ev x) (ev y))
 | .un op x=>noU (AJ9 op (ev x))
 | .conv k x=>noU (ADZ k (ev x))
 | .bstr x=>noU (AHs H (ev x))
 | .len s x=>match AC4 s H (ev x)with
  | some n=>some (.sc (.int .i64 n),[])
  | none=>none
 | .minmax mx x r=>noU (AF6 ev mx (ev x) r)
 | .append k e b mvsrc x y=>Anw H k e b mvsrc (ev x) (ev y)
 | .slice e x lo hi=>match lo.map (fun s=>asI (ev s)),hi.map (fun s=>asI (ev s))with
  | some none,_=>none
  | _,some none=>none
  | l,h=>noU (Zu H e (ev x) (l.getD (some 0)) (h.getD none))
 | .fieldAddr x off=>noU (Zi (ev x) off)
 | .indexAddr e x i=>match asI (ev i)with
  | some i=>noU (Lp H e (ev x) i)
  | none=>none
 | .indexS x i=>match asI (ev i)with
  | some i=>noU (Yp (ev x) i)
  | none=>none
 | .indexA n e x i=>match asI (ev i)with
  | some i=>noU (Agc n e (ev x) i)
  | none=>none
 | .field n x off=>noU (Avp n (ev x) off)
 | .extract x i=>noU (AfR (ev x) i)
 | .makeSlice k e b zero n=>match asI (ev n)with
  | some n=>UW H k e b zero n
  | none=>none
 | .makeFunc g caps=>some (.fn g (caps.map ev),[])
 | .call .. =>none
 | .callv .. =>none
 | .callp .. =>none
end Go.Eng
