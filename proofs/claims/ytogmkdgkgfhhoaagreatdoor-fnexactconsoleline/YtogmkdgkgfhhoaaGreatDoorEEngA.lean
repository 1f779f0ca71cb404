/- Own work: part 4 of the proof of FnExactConsoleLine. -/
import Derived.Orders
import Derived.Laws.Sem
import Derived.Laws.World
import Derived.Laws.Cells
import Derived.Laws.CopyRow
import Derived.Laws.Small
import Derived.Laws.Entries
import Derived.Laws.Append
import Derived.Laws.Slices
set_option linter.unusedSimpArgs false
set_option linter.unusedVariables false
namespace Go.Eng
inductive V where
 | sc (v:Value)
 | nil (e:Nat)
 | sl (fl e len:Nat) (cells:List V)
 | arr (k:Nat)
 | sub (k off len:Nat)
 | ptr (k off:Nat)
 | rptr (fl:Nat) (cells:List V) (off:Nat)
 | fn (g:Nat) (caps:List V)
 | agg (cs:List V)
 | tup (vs:List V)
 | undef
 deriving Inhabited
inductive O where
 | free
 | dead
 | var (cs:List V)
 | arr (e t len:Nat) (cs:List V)
 | tarr (k off:Nat) (e t len:Nat) (cs:List V)
 deriving Inhabited
structure Base where
 a:Option Addr
 cap:Nat
 deriving Inhabited
def Fj (vs:List Value):Prop:=∀x,x∈vs->x.oneCell' =true
def Has (w:World) (b o:Nat) (vs:List Value) (n:Nat):Prop:=
 Fj vs/\∃c et,w.heap[b]? =some (.cells c et (0,0))/\o+n<=c.size/\vs.length<=n/\∀i,i<vs.length->c[o+i]? =vs[i]?
def Rds (w:World) (b o:Nat) (vs:List Value):Prop:=
 Fj vs/\∀i,i<vs.length->w.cell? ⟨b,o+i,none⟩=vs[i]?
theorem DF {w:World} {b o n:Nat} {vs:List Value} (h:Has w b o vs n):Rds w b o vs:=by
 obtain⟨h1,c,et,hb,_,_,hc⟩:=h
 refine⟨h1,?_⟩
 intro i hi
 simp only[World.cell?,hb]
 simpa using hc i hi
theorem EU {w w':World} {b o n:Nat} {vs:List Value} (h:Has w b o vs n) (e:w'.heap[b]? =w.heap[b]?):Has w' b o vs n:=by
 obtain⟨h1,c,et,hb,r⟩:=h
 exact⟨h1,c,et,e.trans hb,r⟩
theorem Rh {w w':World} {b o:Nat} {vs:List Value} (h:Rds w b o vs) (e:w'.heap[b]? =w.heap[b]?):Rds w' b o vs:=by
 refine⟨h.1,fun i hi=> ?_⟩
 rw[<-h.2 i hi]
 simp only[World.cell?,e]
theorem TT {w:World} {b o n:Nat} {vs:List Value} (h:Has w b o vs n):b<w.heap.size:=by
 obtain⟨_,c,et,hb,_⟩:=h
 rcases Nat.lt_or_ge b w.heap.size with h | h
 ·exact h
 ·simp[Array.getElem?_eq_none h]at hb
inductive Rd (Ae:Nat->Option FuncId) (w:World) (P:Nat->Prop):V->Value->Prop where
 | sc {v:Value} (h1:v.oneCell' =true):Rd Ae w P (.sc v) v
 | nil (e:Nat):Rd Ae w P (.nil e) (.slice none 0 0)
 | sl {fl e len:Nat} {cells:List V} {a:Option Addr} {cap:Nat} {vs:List Value} (hl:len<=cap) (hw:cells.length=len*e) (hv:vs.length=cells.length)
  (hm:cells=[]∨∃b o,a=some ⟨b,o,none⟩/\P b/\Rds w b o vs)
  (hc:∀(i:Nat) (v:V) (x:Value),cells[i]? =some v->vs[i]? =some x->Rd Ae w P v x):Rd Ae w P (.sl fl e len cells) (.slice a len cap)
 | rptr {fl:Nat} {cells:List V} {off b o:Nat} {vs:List Value} (hv:vs.length=cells.length) (hP:P b) (hm:Rds w b o vs)
  (hc:∀(i:Nat) (v:V) (x:Value),cells[i]? =some v->vs[i]? =some x->Rd Ae w P v x):Rd Ae w P (.rptr fl cells off) (.pointer (some ⟨b,o+off,none⟩))
 | fn {g:Nat} {caps:List V} {f:FuncId} {vs:List Value} (hf:Ae g=some f) (hv:vs.length=caps.length)
  (hc:∀(i:Nat) (v:V) (x:Value),caps[i]? =some v->vs[i]? =some x->Rd Ae w P v x):Rd Ae w P (.fn g caps) (.func (.func f) #[] vs.toArray)
 | agg {cs:List V} {vs:List Value} (h1:Fj vs) (hv:vs.length=cs.length)
  (hc:∀(i:Nat) (v:V) (x:Value),cs[i]? =some v->vs[i]? =some x->Rd Ae w P v x):Rd Ae w P (.agg cs) (.agg vs.toArray)
 | tup {cs:List V} {vs:List Value} (hv:vs.length=cs.length)
  (hc:∀(i:Nat) (v:V) (x:Value),cs[i]? =some v->vs[i]? =some x->Rd Ae w P v x):Rd Ae w P (.tup cs) (.tuple vs.toArray)
 | undef {x:Value}:Rd Ae w P .undef x
theorem Rd.move {Ae:Nat->Option FuncId} {w w':World} {P P':Nat->Prop} {v:V} {x:Value} (h:Rd Ae w P v x)
 (hP:∀b,P b->P' b) (hw:∀b,P b->w'.heap[b]? =w.heap[b]?):Rd Ae w' P' v x:=by
 induction h with
 | sc h1=>exact .sc h1
 | nil e=>exact .nil e
 | sl hl hn hv hm hc ih=>
  refine .sl hl hn hv ?_ ih
  rcases hm with hm | ⟨b,o,ha,hb,hr⟩
  ·exact .inl hm
  ·exact .inr ⟨b,o,ha,hP b hb,Rh hr (hw b hb)⟩
 | rptr hv hb hm hc ih=>exact .rptr hv (hP _ hb) (Rh hm (hw _ hb)) ih
 | fn hf hv hc ih=>exact .fn hf hv ih
 | agg h1 hv hc ih=>exact .agg h1 hv ih
 | tup hv hc ih=>exact .tup hv ih
 | undef=>exact .undef
def lv:Nat->Nat
 | 0=>0
 | 3=>0
 | n=>n
inductive Ow (Ae:Nat->Option FuncId) (w:World) (own:Nat->Option (Nat×List Nat)) (S:Nat->Nat->Prop) (lim:Nat) (k:Nat):List Nat->V->Value->Prop where
 | sc {p:List Nat} {v:Value} (h1:v.oneCell' =true):Ow Ae w own S lim k p (.sc v) v
 | own {p:List Nat} {e len:Nat} {cells:List V} {a:Option Addr} {cap:Nat} {vs:List Value} (hl:len<=cap/\cap<=9223372036854775807) (hw:cells.length=len*e) (hv:vs.length=cells.length)
  (hm:cap*e=0∨∃b o,a=some ⟨b,o,none⟩/\own b=some (k,p)/\Has w b o vs (cap*e))
  (hc:∀(i:Nat) (v:V) (x:Value),cells[i]? =some v->vs[i]? =some x->Ow Ae w own S lim k (p++ [i]) v x):Ow Ae w own S lim k p (.sl 0 e len cells) (.slice a len cap)
 | ro {p:List Nat} {fl e len:Nat} {cells:List V} {x:Value} (h1:1<=fl) (h2:lv fl<=lim) (h:Rd Ae w (S fl) (.sl fl e len cells) x):Ow Ae w own S lim k p (.sl fl e len cells) x
 | ptr {p:List Nat} {cells:List V} {b o:Nat} {vs:List Value} (hv:vs.length=cells.length) (hb:own b=some (k,p)) (hm:Has w b o vs vs.length)
  (hc:∀(i:Nat) (v:V) (x:Value),cells[i]? =some v->vs[i]? =some x->Ow Ae w own S lim k (p++ [i]) v x):Ow Ae w own S lim k p (.rptr 0 cells 0) (.pointer (some ⟨b,o,none⟩))
 | rptr {p:List Nat} {fl off:Nat} {cells:List V} {x:Value} (h1:1<=fl) (h2:lv fl<=lim) (h:Rd Ae w (S fl) (.rptr fl cells off) x):Ow Ae w own S lim k p (.rptr fl cells off) x
 | fn {p:List Nat} {g:Nat} {caps:List V} {x:Value} (h2:1<=lim) (h:Rd Ae w (S 1) (.fn g caps) x):Ow Ae w own S lim k p (.fn g caps) x
 | agg {p:List Nat} {cs:List V} {vs:List Value} (h1:Fj vs) (hv:vs.length=cs.length)
  (hc:∀(i:Nat) (v:V) (x:Value),cs[i]? =some v->vs[i]? =some x->Ow Ae w own S lim k (p++ [i]) v x):Ow Ae w own S lim k p (.agg cs) (.agg vs.toArray)
 | tup {p:List Nat} {cs:List V} {vs:List Value} (hv:vs.length=cs.length)
  (hc:∀(i:Nat) (v:V) (x:Value),cs[i]? =some v->vs[i]? =some x->Ow Ae w own S lim k (p++ [i]) v x):Ow Ae w own S lim k p (.tup cs) (.tuple vs.toArray)
 | undef {p:List Nat} {x:Value}:Ow Ae w own S lim k p .undef x
theorem Ow.move {Ae:Nat->Option FuncId} {w w':World} {own own':Nat->Option (Nat×List Nat)} {S S':Nat->Nat->Prop} {lim lim' k k':Nat} {p p':List Nat} {v:V} {x:Value}
 (h:Ow Ae w own S lim k p v x) (hl:lim<=lim') (hS:∀fl b,1<=fl->lv fl<=lim->S fl b->S' fl b) (hSw:∀fl b,1<=fl->lv fl<=lim->S fl b->w'.heap[b]? =w.heap[b]?)
 (ho:∀b q,own b=some (k,p++q)->own' b=some (k',p'++q)/\w'.heap[b]? =w.heap[b]?):Ow Ae w' own' S' lim' k' p' v x:=by
 induction h generalizing p' with
 | sc h1=>exact .sc h1
 | own hl' hn hv hm hc ih=>
  refine .own hl' hn hv ?_ (fun i v x hv hx=>ih i v x hv hx fun b q hb=> ?_)
  ·rcases hm with hm | ⟨b,o,ha,hb,hr⟩
   ·exact .inl hm
   ·obtain⟨h1,h2⟩:=ho b [] (by simpa using hb)
    exact .inr ⟨b,o,ha,by simpa using h1,EU hr h2⟩
  ·have:=ho b ([i]++q) (by simpa using hb)
   simpa using this
 | ro h1 h2 h=>exact .ro h1 (Nat.le_trans h2 hl) (h.move (fun b=>hS _ b h1 h2) (fun b=>hSw _ b h1 h2))
 | ptr hv hb hm hc ih=>
  obtain⟨h1,h2⟩:=ho _ [] (by simpa using hb)
  refine .ptr hv (by simpa using h1) (EU hm h2) (fun i v x hv hx=>ih i v x hv hx fun b q hb=> ?_)
  have:=ho b ([i]++q) (by simpa using hb)
  simpa using this
 | rptr h1 h2 h=>exact .rptr h1 (Nat.le_trans h2 hl) (h.move (fun b=>hS _ b h1 h2) (fun b=>hSw _ b h1 h2))
 | fn h2 h=>exact .fn (Nat.le_trans h2 hl) (h.move (fun b=>hS _ b (Nat.le_refl 1) h2) (fun b=>hSw _ b (Nat.le_refl 1) h2))
 | agg h1 hv hc ih=>
  refine .agg h1 hv (fun i v x hv hx=>ih i v x hv hx fun b q hb=> ?_)
  have:=ho b ([i]++q) (by simpa using hb)
  simpa using this
 | tup hv hc ih=>
  refine .tup hv (fun i v x hv hx=>ih i v x hv hx fun b q hb=> ?_)
  have:=ho b ([i]++q) (by simpa using hb)
  simpa using this
 | undef=>exact .undef
end Go.Eng
namespace Go.Eng
inductive Src where
 | loc (i:Nat)
 | slot (i:Nat)
 | con (v:V)
 deriving Inhabited
inductive LG where
 | mv (x:Src)
 | pick (c a b:Src)
 | alloc (k:Nat) (zero:List V)
 | box (k:Nat) (x:Src)
 | build (zero:List V) (parts:List (Nat×Nat×Src))
 | buildSlice (k e len:Nat) (parts:List Src)
 | lend (kv k e len:Nat) (parts:List Src)
 | load (n:Option Nat) (x:Src)
 | take (s:Nat) (x:Src)
 | store (n:Nat) (x v:Src)
 | bin (op:BinOp) (x y:Src)
 | beq (ne:Bool) (x y:Src)
 | un (op:UnOp) (x:Src)
 | conv (k:IntKind) (x:Src)
 | bstr (x:Src)
 | len (str:Bool) (x:Src)
 | minmax (mx:Bool) (x:Src) (r:List Src)
 | append (k e b:Nat) (mvsrc:Bool) (x y:Src)
 | slice (e:Nat) (x:Src) (lo hi:Option Src)
 | fieldAddr (x:Src) (off:Nat)
 | indexAddr (e:Nat) (x i:Src)
 | indexS (x i:Src)
 | indexA (n e:Nat) (x i:Src)
 | field (n:Option Nat) (x:Src) (off:Nat)
 | extract (x:Src) (i:Nat)
 | makeSlice (k e b:Nat) (zero:List V) (n:Src)
 | makeFunc (g:Nat) (caps:List Src)
 | call (g:Nat) (args:List (Bool×Src)) (sites:List Nat)
 | callv (f:Src) (args:List (Bool×Src)) (sites:List Nat)
 | callp (g:Nat) (args:List (Bool×Src)) (sites:List Nat)
 deriving Inhabited
def evs (vals env:List V):Src->V
 | .loc i=>vals.getD i .undef
 | .slot i=>env.getD i .undef
 | .con v=>v
abbrev Hp:=Nat->O
def Mr:V->Bool
 | .sc _=>true
 | _=>false
def cellsOf:V->Option (List V)
 | .agg cs=>some cs
 | .tup _=>none
 | .undef=>none
 | v=>some [v]
def putAt {α:Type}:List α->Nat->List α->List α
 | cs,_,[]=>cs
 | cs,off,v::r=>putAt (cs.set off v) (off+1) r
def ER (cs:List V) (off n:Nat):Option (List V):=
 if off+n<=cs.length then some ((cs.drop off).take n)else none
def AO (fl:Nat):V->V
 | .sl _ e len cs=> .sl fl e len cs
 | .rptr _ cs off=> .rptr fl cs off
 | .nil e=> .sl fl e 0 []
 | .sc v=> .sc v
 | _=> .undef
def Lx (bor:Bool):V->Option V
 | .sc v=>some (.sc v)
 | .sl 0 e len cs=>if bor then some (.sl 2 e len cs)else none
 | .sl fl e len cs=>some (.sl fl e len cs)
 | _=>none
def II (bor:Bool):List V->Option (List V)
 | []=>some []
 | v::r=>match Lx bor v,II bor r with
  | some a,some b=>some (a::b)
  | _,_=>none
def SL (bor:Bool) (H:Hp) (n:Nat):V->Option (List V)
 | .ptr k off=>match H k with
  | .var cs=>ER cs off n
  | .arr _ _ _ cs=>match ER cs off n with
   | some c=>II bor c
   | none=>none
  | .tarr _ _ _ _ _ cs=>match ER cs off n with
   | some c=>II bor c
   | none=>none
  | _=>none
 | .rptr fl cs off=>if 1<=fl then(match ER cs off n with
  | some c=>some (c.map (AO fl))
  | none=>none)else none
 | _=>none
def X4 (bor:Bool) (H:Hp) (n:Option Nat) (x:V):Option V:=
 match n with
 | none=>match SL bor H 1 x with
  | some [v]=>some v
  | _=>none
 | some n=>match SL bor H n x with
  | some cs=>some (.agg cs)
  | none=>none
def BK (ks:List Nat) (H:Hp):Hp:=fun k=>if ks.contains k then .dead else H k
def Ac:O->Option (Nat×Nat×Nat×List V)
 | .arr e t len cs=>some (e,t,len,cs)
 | .tarr _ _ e t len cs=>some (e,t,len,cs)
 | _=>none
def MX (H:Hp):V->Option (V×Nat×List Nat)
 | .sc x=>some (.sc x,0,[])
 | .nil e=>some (.sl 0 e 0 [],0,[])
 | .sl 0 _ _ _=>none
 | .sl fl e len cs=>some (.sl fl e len cs,lv fl,[])
 | .arr k=>match Ac (H k)with
  | some (e,t,len,cs)=>some (.sl 0 e len cs,t,[k])
  | none=>none
 | _=>none
def Kn (H:Hp):List V->Option (List V×Nat×List Nat)
 | []=>some ([],0,[])
 | v::r=>match MX H v with
  | none=>none
  | some (v',t,ks)=>match Kn (BK ks H) r with
   | none=>none
   | some (r',t',ks')=>some (v'::r',max t t',ks++ks')
def Agk (H:Hp):V->Option (V×Nat×List Nat)
 | .agg cs=>match Kn H cs with
  | some (cs',t,ks)=>some (.agg cs',t,ks)
  | none=>none
 | .ptr k 0=>match H k with
  | .var cs=>match Kn (BK [k] H) cs with
   | some (cs',t,ks)=>some (.rptr 0 cs' 0,t,k::ks)
   | none=>none
  | _=>none
 | v=>MX H v
def AaK (H:Hp):List V->Option (List V×Nat×List Nat)
 | []=>some ([],0,[])
 | v::r=>match Agk H v with
  | none=>none
  | some (v',t,ks)=>match AaK (BK ks H) r with
   | none=>none
   | some (r',t',ks')=>some (v'::r',max t t',ks++ks')
def give (H:Hp):V->Option (V×Nat×List Nat)
 | .tup vs=>match AaK H vs with
  | some (vs',t,ks)=>some (.tup vs',t,ks)
  | none=>none
 | v=>Agk H v
def part (cs:List V) (e off len:Nat):List V:=(cs.drop (off*e)).take (len*e)
def ro1 (H:Hp):V->Option V
 | .sc x=>some (.sc x)
 | .nil e=>some (.sl 1 e 0 [])
 | .sl 0 _ _ _=>none
 | .sl 3 e len cs=>some (.sl 3 e len cs)
 | .sl _ e len cs=>some (.sl 1 e len (cs.map (AO 0)))
 | .arr k=>match Ac (H k)with
  | some (e,_,len,cs)=>some (.sl 1 e len (cs.map (AO 0)))
  | none=>none
 | .sub k off len=>match Ac (H k)with
  | some (e,_,_,cs)=>some (.sl 1 e len ((part cs e off len).map (AO 0)))
  | none=>none
 | .undef=>some .undef
 | _=>none
def roL (H:Hp):List V->Option (List V)
 | []=>some []
 | v::r=>match ro1 H v,roL H r with
  | some a,some b=>some (a::b)
  | _,_=>none
def ro2 (H:Hp):V->Option V
 | .ptr k off=>match H k with
  | .var cs=>match roL H cs with
   | some cs'=>some (.rptr 1 (cs'.map (AO 0)) off)
   | none=>none
  | _=>none
 | .rptr fl cs off=>if fl=0 then none else some (if fl=3 then .rptr 3 cs off else .rptr 1 (cs.map (AO 0)) off)
 | v=>ro1 H v
def AlY (H:Hp):List V->Option (List V)
 | []=>some []
 | v::r=>match ro2 H v,AlY H r with
  | some a,some b=>some (a::b)
  | _,_=>none
def ro (H:Hp):V->Option V
 | .fn g caps=>match AlY H caps with
  | some cs=>some (.fn g cs)
  | none=>none
 | .agg cs=>match roL H cs with
  | some cs'=>some (.agg cs')
  | none=>none
 | v=>ro2 H v
def Acb (op:BinOp):Value->Value->Option Value
 | .int k a,.int k' b=>
  if op= .shl then(if b<0 then none else some (.int k (k.wrap (a*2 ^ (min b.toNat k.bits)))))
  else if op= .shr then(if b<0 then none else some (.int k (a.fdiv (2 ^ (min b.toNat k.bits)))))
  else if k=k' then
   match op with
   | .add=>some (.int k (k.wrap (a+b)))
   | .sub=>some (.int k (k.wrap (a-b)))
   | .mul=>some (.int k (k.wrap (a*b)))
   | .quo=>if b=0 then none else some (.int k (k.wrap (a.tdiv b)))
   | .rem=>if b=0 then none else some (.int k (a.tmod b))
   | .and=>some (.int k (k.wrap (BitVec.ofInt k.bits a&&&BitVec.ofInt k.bits b).toNat))
   | .or=>some (.int k (k.wrap (BitVec.ofInt k.bits a|||BitVec.ofInt k.bits b).toNat))
   | .xor=>some (.int k (k.wrap (BitVec.ofInt k.bits a ^^^ BitVec.ofInt k.bits b).toNat))
   | .eql=>some (.bool (a==b))
   | .neq=>some (.bool (a !=b))
   | .lss=>some (.bool (a<b))
   | .leq=>some (.bool (a<=b))
   | .gtr=>some (.bool (a>b))
   | .geq=>some (.bool (a>=b))
   | _=>none
  else none
 | .string a,.string b=>
  match op with
  | .add=>if a.size+b.size<=2 ^ 40 then some (.string (a++b))else none
  | .eql=>some (.bool (a.toList==b.toList))
  | .neq=>some (.bool (!(a.toList==b.toList)))
  | _=>none
 | _,_=>none
def AlX (ne:Bool):Value->Value->Option Value
 | .bool a,.bool b=>some (.bool (if ne then !(a==b)else a==b))
 | _,_=>none
def unV (op:UnOp):Value->Option Value
 | .int k n=>match op with
  | .neg=>some (.int k (k.wrap (0-n)))
  | _=>none
 | .bool b=>match op with
  | .not=>some (.bool (!b))
  | _=>none
 | _=>none
def mmV (mx:Bool):Value->Value->Option Value
 | .int k a,.int k' b=>if k=k' then some (.int k (if mx then(if b>a then b else a)else(if b<a then b else a)))else none
 | _,_=>none
def content (H:Hp):V->Option (Nat×Nat×List V)
 | .nil e=>some (e,0,[])
 | .sl 0 _ _ _=>none
 | .sl fl e len cs=>some (e,len,cs.map (AO fl))
 | .arr k=>match Ac (H k)with
  | some (e,_,len,cs)=>some (e,len,cs)
  | none=>none
 | .sub k off len=>match Ac (H k)with
  | some (e,_,_,cs)=>some (e,len,part cs e off len)
  | none=>none
 | _=>none
def Aex :V->Option UInt8
 | .sc (.int .u8 n)=>some (UInt8.ofNat n.toNat)
 | _=>none
def Km :List V->Option (List UInt8)
 | []=>some []
 | v::r=>match Aex v,Km r with
  | some a,some b=>some (a::b)
  | _,_=>none
def Yp:V->Option Int
 | .sc (.int _ n)=>some n
 | _=>none
abbrev DL:=List (Nat×O)
def C8 (ks:List Nat):DL:=ks.map fun k=>(k,.dead)
def Di (H:Hp) (takes:List Nat) (k off n:Nat):DL:=
 takes.filterMap fun s=>match H s with
  | .tarr k' o' e t len cs=>if k' =k/\off<=o'/\o' <off+n then some (s,.arr e t len cs)else none
  | _=>none
def OO (ev:Src->V) (cs:List V):List (Nat×Nat×Src)->Option (List V)
 | []=>some cs
 | (off,n,x)::r=>match cellsOf (ev x)with
  | some ps=>if ps.length=n/\off+n<=cs.length then OO ev (putAt cs off ps) r else none
  | none=>none
def Adf (ev:Src->V) (e:Nat) (H:Hp):List Src->Option (List V×Nat×List Nat)
 | []=>some ([],0,[])
 | x::r=>match cellsOf (ev x)with
  | none=>none
  | some ps=>if ps.length=e then(match Kn H ps with
   | none=>none
   | some (ps',t,ks)=>match Adf ev e (BK ks H) r with
    | none=>none
    | some (r',t',ks')=>some (ps'++r',max t t',ks++ks'))else none
def AlN (ev:Src->V) (mx:Bool) (a:V):List Src->Option V
 | []=>some a
 | y::r=>match a,ev y with
  | .sc u,.sc v=>match mmV mx u v with
   | some z=>AlN ev mx (.sc z) r
   | none=>none
  | _,_=>none
def Pt (H:Hp) (e:Nat):V->Option (Nat×Nat×List V×List Nat)
 | .nil _=>some (0,0,[],[])
 | .arr k0=>match Ac (H k0)with
  | some (e',t,len,cs)=>if e' =e then some (t,len,cs,[k0])else none
  | none=>none
 | _=>none
def Np (H:Hp) (e:Nat) (mvsrc:Bool):V->Option (Nat×Nat×List V×List Nat)
 | .arr k1=>match Ac (H k1)with
  | some (e',t',n,c)=>if e' =e then(if mvsrc then some (t',n,c,[k1])else if c.all Mr then some (0,n,c,[])else none)else none
  | none=>none
 | .sl 0 _ _ _=>none
 | .sl fl e' n c=>if e' =e then(if c.all Mr then some (0,n,c,[])else some (lv fl,n,c.map (AO fl),[]))else none
 | .nil _=>some (0,0,[],[])
 | .sub k1 off n=>match Ac (H k1)with
  | some (e',_,_,c)=>if e' =e/\(part c e off n).all Mr then some (0,n,part c e off n,[])else none
  | none=>none
 | _=>none
def GL (cs:List V) (e off n:Nat):List V:=cs.take (off*e)++(List.replicate (n*e) .undef++cs.drop ((off+n)*e))
def Sd (H:Hp) (e:Nat):V->Option (Nat×Nat×List V×Nat×O)
 | .sub k1 off n=>match H k1 with
  | .arr e' t' m c=>if e' =e/\off+n<=m then some (t',n,part c e off n,k1,.arr e t' m (GL c e off n))else none
  | _=>none
 | _=>none
def Zz (H:Hp) (k e b:Nat) (mvsrc:Bool) (x y:V):Option (V×DL):=
 match H k with
 | .free=>match Pt H e x with
  | none=>none
  | some (t,len,cs,ks)=>match(if mvsrc then Sd (BK ks H) e y else none)with
   | some (t',n,c,k1,o1)=>if(len+n)*b<=2 ^ 40 then some (.arr k,(k1,o1)::(C8 ks++ [(k,.arr e (max t t') (len+n) (cs++c))]))else none
   | none=>match Np (BK ks H) e mvsrc y with
    | none=>none
    | some (t',n,c,ks')=>if(len+n)*b<=2 ^ 40 then some (.arr k,C8 (ks++ks')++ [(k,.arr e (max t t') (len+n) (cs++c))])else none
 | _=>none
def bounds (l:Option Int) (h:Option Int) (n:Nat):Option (Nat×Nat):=
 match l with
 | none=>none
 | some l=>if 0<=l/\l<=h.getD n/\h.getD n<=n then some (l.toNat,(h.getD n).toNat)else none
def IV (H:Hp) (e:Nat) (x:V) (l h:Option Int):Option V:=
 match x with
 | .sc (.string s)=>match bounds l h s.size with
  | some (l,h)=>some (.sc (.string (s.extract l h)))
  | none=>none
 | .sl 0 _ _ _=>none
 | .sl fl e' len cs=>match bounds l h len with
  | some (l,h)=>if e' =e then some (.sl fl e (h-l) (part cs e l (h-l)))else none
  | none=>none
 | .arr k=>match Ac (H k)with
  | some (e',_,len,_)=>match bounds l h len with
   | some (l,h)=>if e' =e then some (.sub k l (h-l))else none
   | none=>none
  | none=>none
 | .sub k off len=>match Ac (H k)with
  | some (e',_,_,_)=>match bounds l h len with
   | some (l,h)=>if e' =e then some (.sub k (off+l) (h-l))else none
   | none=>none
  | none=>none
 | _=>none
def OH (x:V) (off:Nat):Option V:=
 match x with
 | .ptr k o=>some (.ptr k (o+off))
 | .rptr fl cs o=>some (.rptr fl cs (o+off))
 | _=>none
def Gu (H:Hp) (e:Nat) (x:V) (i:Int):Option V:=
 match x with
 | .sl fl e' len cs=>if e' =e/\0<=i/\i<len/\1<=fl then some (.rptr fl cs (i.toNat*e))else none
 | .arr k=>match Ac (H k)with
  | some (e',_,len,_)=>if e' =e/\0<=i/\i<len then some (.ptr k (i.toNat*e))else none
  | none=>none
 | .sub k off len=>match Ac (H k)with
  | some (e',_,_,_)=>if e' =e/\0<=i/\i<len then some (.ptr k ((off+i.toNat)*e))else none
  | none=>none
 | _=>none
def AcM (H:Hp) (x:V):Option Nat:=
 match x with
 | .sc (.string s)=>some s.size
 | .nil _=>some 0
 | .sl fl _ len _=>if fl=0 then none else some len
 | .arr k=>match Ac (H k)with
  | some (_,_,len,_)=>some len
  | none=>none
 | .sub k _ len=>match Ac (H k)with
  | some _=>some len
  | none=>none
 | _=>none
def isStr:V->Bool
 | .sc (.string _)=>true
 | _=>false
def Ajw (s:Bool) (H:Hp) (x:V):Option Nat:=if isStr x=s then AcM H x else none
def Pn (H:Hp) (e:Nat) (x:V) (l h:Option Int):Option V:=if isStr x=(e==0)then IV H e x l h else none
def PW (x:V) (i:Int):Option V:=
 match x with
 | .sc (.string s)=>if 0<=i then(match s.data[i.toNat]? with
  | some c=>some (.sc (.int .u8 c.toNat))
  | none=>none)else none
 | _=>none
def Vv (n e:Nat) (x:V) (i:Int):Option V:=
 match x with
 | .agg cs=>if 0<=i/\i<n/\e=1 then cs[i.toNat]? else none
 | _=>none
def Ae3 (n:Option Nat) (x:V) (off:Nat):Option V:=
 match x with
 | .agg cs=>match n with
  | none=>cs[off]?
  | some n=>match ER cs off n with
   | some c=>some (.agg c)
   | none=>none
 | _=>none
def VU (x:V) (i:Nat):Option V:=
 match x with
 | .tup vs=>vs[i]?
 | _=>none
def Ajo (k:IntKind) (x:V):Option V:=
 match x with
 | .sc (.int _ n)=>some (.sc (.int k (k.wrap n)))
 | _=>none
def AmL (H:Hp) (x:V):Option V:=
 match content H x with
 | some (e,_,cs)=>if e=1 then(match Km cs with
  | some l=>some (.sc (.string ⟨l.toArray⟩))
  | none=>none)else none
 | none=>none
def AoA (op:UnOp) (x:V):Option V:=
 match x with
 | .sc a=>match unV op a with
  | some r=>some (.sc r)
  | none=>none
 | _=>none
def AjD (op:BinOp) (x y:V):Option V:=
 match x,y with
 | .sc a,.sc b=>match Acb op a b with
  | some r=>some (.sc r)
  | none=>none
 | _,_=>none
def AjR (ne:Bool) (x y:V):Option V:=
 match x,y with
 | .sc a,.sc b=>match AlX ne a b with
  | some r=>some (.sc r)
  | none=>none
 | _,_=>none
def AjK (c a b:V):Option V:=
 match c with
 | .sc (.bool t)=>some (if t then a else b)
 | _=>none
def Agr (bor:Bool) (H:Hp) (s:Nat) (x:V):Option (V×DL):=
 if bor then none else match H s,x with
  | .free,.ptr k off=>match H k with
   | .arr e' t len' cs=>match cs[off]? with
    | some (.sl 0 e len c)=>some (.arr s,[(k,.arr e' t len' (cs.set off .undef)),(s,.tarr k off e t len c)])
    | _=>none
   | .tarr k' o' e' t len' cs=>match cs[off]? with
    | some (.sl 0 e len c)=>some (.arr s,[(k,.tarr k' o' e' t len' (cs.set off .undef)),(s,.tarr k off e t len c)])
    | _=>none
   | _=>none
  | _,_=>none
def ZU (takes:List Nat) (H:Hp) (n:Nat) (x v:V):Option DL:=
 match x,cellsOf v with
 | .ptr k off,some vs=>if vs.length=n then(match H k with
  | .var cs=>if off+n<=cs.length then some [(k,.var (putAt cs off vs))]else none
  | .arr e t len cs=>if off+n<=cs.length then(match Kn (BK [k] H) vs with
   | some (vs',t',ks)=>some (Di H takes k off n++C8 ks++ [(k,.arr e (max t t') len (putAt cs off vs'))])
   | none=>none)else none
  | .tarr k' o' e t len cs=>if off+n<=cs.length then(match Kn (BK [k] H) vs with
   | some (vs',t',ks)=>some (Di H takes k off n++C8 ks++ [(k,.tarr k' o' e (max t t') len (putAt cs off vs'))])
   | none=>none)else none
  | _=>none)else none
 | _,_=>none
def Ab3 (H:Hp) (k:Nat) (cs:Option (List V)):Option (V×DL):=
 match H k,cs with
 | .free,some cs=>some (.ptr k 0,[(k,.var cs)])
 | _,_=>none
def Me (H:Hp) (k e b:Nat) (zero:List V) (n:Int):Option (V×DL):=
 match H k with
 | .free=>if 0<=n/\n*b<=2 ^ 40/\zero.length=e then some (.arr k,[(k,.arr e 0 n.toNat (List.replicate n.toNat zero).flatten)])else none
 | _=>none
def Ii (H:Hp) (ev:Src->V) (k e len:Nat) (parts:List Src):Option (V×DL):=
 match H k,Adf ev e H parts with
 | .free,some (cs,t,ks)=>if parts.length=len then some (.arr k,C8 ks++ [(k,.arr e t len cs)])else none
 | _,_=>none
def Ajt (H:Hp) (ks:List Nat):V->V
 | .arr j=>if ks.contains j then(match H j with
  | .arr e 0 len cs=>if cs.all Mr then .sl 2 e len cs else .arr j
  | _=> .arr j)else .arr j
 | v=>v
def Ahp (bor:Bool) (H:Hp) (ev:Src->V) (kv k e len:Nat) (parts:List Src):Option (V×DL):=
 match Ii H ev k e len parts,H kv with
 | some (v,u),.var cs=>if bor then(if(u.map (·.1)).contains kv then none else some (v,u++ [(kv,.var (cs.map (Ajt H (u.map (·.1)))))]))else none
 | _,_=>none
def noU (v:Option V):Option (V×DL):=
 match v with
 | some v=>some (v,[])
 | none=>none
def op1 (bor:Bool) (takes:List Nat) (H:Hp) (ev:Src->V):LG->Option (V×DL)
 | .mv x=>some (ev x,[])
 | .pick c a b=>noU (AjK (ev c) (ev a) (ev b))
 | .alloc k zero=>Ab3 H k (some zero)
 | .box k x=>Ab3 H k (cellsOf (ev x))
 | .build zero parts=>noU (match OO ev zero parts with
  | some cs=>some (.agg cs)
  | none=>none)
 | .buildSlice k e len parts=>Ii H ev k e len parts
 | .lend kv k e len parts=>Ahp bor H ev kv k e len parts
 | .load n x=>noU (X4 bor H n (ev x))
 | .take s x=>Agr bor H s (ev x)
 | .store n x v=>match ZU takes H n (ev x) (ev v)with
  | some u=>some (.undef,u)
  | none=>none
 | .bin op x y=>noU (AjD op (ev x) (ev y))
 | .beq ne x y=>noU (AjR ne (ev x) (ev y))
 | .un op x=>noU (AoA op (ev x))
 | .conv k x=>noU (Ajo k (ev x))
 | .bstr x=>noU (AmL H (ev x))
 | .len s x=>match Ajw s H (ev x)with
  | some n=>some (.sc (.int .i64 n),[])
  | none=>none
 | .minmax mx x r=>noU (AlN ev mx (ev x) r)
 | .append k e b mvsrc x y=>Zz H k e b mvsrc (ev x) (ev y)
 | .slice e x lo hi=>match lo.map (fun s=>Yp (ev s)),hi.map (fun s=>Yp (ev s))with
  | some none,_=>none
  | _,some none=>none
  | l,h=>noU (Pn H e (ev x) (l.getD (some 0)) (h.getD none))
 | .fieldAddr x off=>noU (OH (ev x) off)
 | .indexAddr e x i=>match Yp (ev i)with
  | some i=>noU (Gu H e (ev x) i)
  | none=>none
 | .indexS x i=>match Yp (ev i)with
  | some i=>noU (PW (ev x) i)
  | none=>none
 | .indexA n e x i=>match Yp (ev i)with
  | some i=>noU (Vv n e (ev x) i)
  | none=>none
 | .field n x off=>noU (Ae3 n (ev x) off)
 | .extract x i=>noU (VU (ev x) i)
 | .makeSlice k e b zero n=>match Yp (ev n)with
  | some n=>Me H k e b zero n
  | none=>none
 | .makeFunc g caps=>some (.fn g (caps.map ev),[])
 | .call .. =>none
 | .callv .. =>none
 | .callp .. =>none
end Go.Eng
namespace Go.Eng
structure Cf where
 bor:Bool
 takes:List Nat
structure I7 where
 op:LG
 guard:Option (Nat×Bool):=none
 tau:Option (List Nat):=none
 om:List Nat:=[]
 deriving Inhabited
inductive Gh where
 | own (slot k:Nat)
 | ownc (kv off k:Nat)
 | ren (k' k:Nat)
 | untake (s:Nat)
 | drop (k:Nat)
 deriving Inhabited
structure Ce where
 id:Nat
 draw:Bool:=false
 fresh:List Nat:=[]
 ops:List I7
 sets:List (Nat×Nat):=[]
 Gc:List Gh:=[]
 clr:List Nat:=[]
 deriving Inhabited
inductive SC where
 | skip
 | reg (r:Ce)
 | seq (a b:SC)
 | cond (c:Nat) (a b:SC)
 | block (id:Nat) (a:SC)
 | loop (a:SC)
 | exit (id:Nat)
 | ret
 | stuck
 deriving Inhabited
inductive Out where
 | normal
 | exit (id:Nat)
 | ret
 deriving DecidableEq
structure St where
 env:List V
 H:List O
def hp (H:List O):Hp:=fun k=>H.getD k .free
def Aa0:List O->Nat->O->List O
 | [],0,o=> [o]
 | [],k+1,o=> .free::Aa0 [] k o
 | _::r,0,o=>o::r
 | a::r,k+1,o=>a::Aa0 r k o
def Si (H:List O):DL->List O
 | []=>H
 | (k,o)::r=>Si (Aa0 H k o) r
def m1 (k:Nat):V->Bool
 | .sc _=>false
 | .nil _=>false
 | .sl .. =>false
 | .rptr .. =>false
 | .undef=>false
 | .arr j=>j==k
 | .sub j _ _=>j==k
 | .ptr j _=>j==k
 | _=>true
def m2 (k:Nat):V->Bool
 | .fn _ cs=>cs.any (m1 k)
 | .agg cs=>cs.any (m1 k)
 | v=>m1 k v
def m3 (k:Nat):V->Bool
 | .tup vs=>vs.any (m2 k)
 | v=>m2 k v
def OB (k:Nat) (v:V):V:=if m3 k v then .undef else v
def M5 (k:Nat):O->O
 | .var cs=> .var (cs.map (OB k))
 | .tarr j off e t len cs=>if j=k then .arr e t len cs else .tarr j off e t len cs
 | o=>o
def kill (s:St) (k:Nat):St:=⟨s.env.map (OB k),(s.H.map (M5 k)).set k .free⟩
def Y0 (k' k:Nat) (v:V):V:=
 match v with
 | .arr j=>if j=k' then .arr k else v
 | .sub j o l=>if j=k' then .sub k o l else v
 | .ptr j o=>if j=k' then .ptr k o else v
 | v=>if m3 k' v then .undef else v
def O3 (k' k:Nat):O->O
 | .var cs=> .var (cs.map (Y0 k' k))
 | .tarr j off e t len cs=>if j=k' then .tarr k off e t len cs else .tarr j off e t len cs
 | o=>o
def Ns:O->O
 | .tarr _ _ e t len cs=> .arr e t len cs
 | o=>o
def rename (s:St) (k' k:Nat):St:=
 let s:=kill s k
 let o:=s.H.getD k' .free
 ⟨s.env.map (Y0 k' k),((s.H.map (O3 k' k)).set k (Ns (O3 k' k o))).set k' .free⟩
def ghost (s:St):Gh->Option St
 | .own slot k=>match s.env.getD slot .undef,s.H.getD k .dead with
  | .nil e,.free=>some ⟨s.env.set slot (.arr k),s.H.set k (.arr e 0 0 [])⟩
  | _,_=>none
 | .ownc kv off k=>match s.H.getD kv .free,s.H.getD k .dead with
  | .var cs,.free=>match cs.getD off .undef with
   | .nil e=>some ⟨s.env,(s.H.set kv (.var (cs.set off (.arr k)))).set k (.arr e 0 0 [])⟩
   | _=>none
  | _,_=>none
 | .ren k' k=>if k' =k∨s.H.length<=k'∨s.H.length<=k then none else some (rename s k' k)
 | .untake t=>match s.H.getD t .free with
  | .tarr k off e t' len cs=>match s.H.getD k .free with
   | .arr e2 t2 len2 cs2=>if k=t then none else if off<cs2.length then some ⟨s.env,(s.H.set k (.arr e2 (max t2 t') len2 (cs2.set off (.sl 0 e len cs)))).set t .dead⟩else none
   | .tarr k3 o3 e2 t2 len2 cs2=>if k=t then none else if off<cs2.length then some ⟨s.env,(s.H.set k (.tarr k3 o3 e2 (max t2 t') len2 (cs2.set off (.sl 0 e len cs)))).set t .dead⟩else none
   | _=>none
  | _=>none
 | .drop k=>some ⟨s.env,s.H.set k .dead⟩
def Gc (s:St):List Gh->Option St
 | []=>some s
 | g::r=>match ghost s g with
  | some s'=>Gc s' r
  | none=>none
def clear (env:List V):List Nat->List V
 | []=>env
 | k::r=>clear (env.set k .undef) r
def sets (vals:List V) (env:List V):List (Nat×Nat)->List V
 | []=>env
 | (k,j)::r=>sets vals (env.set k (vals.getD j .undef)) r
def MK (H:Hp) (n:Nat):V->Option (V×List Nat)
 | .sc x=>some (.sc x,[])
 | .sl 3 e len cs=>some (.sl 3 e len cs,[])
 | .arr k=>match Ac (H k)with
  | some (_,0,_,_)=>some (.arr n,[k])
  | _=>none
 | _=>none
def QO (H:Hp) (n:Nat):List V->Option (List V×List Nat)
 | []=>some ([],[])
 | v::r=>match MK H n v with
  | none=>none
  | some (v',ks)=>match QO (BK ks H) (n+ks.length) r with
   | none=>none
   | some (r',ks')=>some (v'::r',ks++ks')
def Ab:List V->Bool
 | []=>true
 | .sc _::r=>Ab r
 | .sl 3 _ _ _::r=>Ab r
 | _=>false
def AbD (H:Hp) (n:Nat):V->Option (V×List Nat)
 | .agg cs=>match QO H n cs with
  | some (cs',ks)=>some (.agg cs',ks)
  | none=>none
 | .ptr k 0=>match H k with
  | .var cs=>if Ab cs then some (.ptr n 0,[k])else none
  | _=>none
 | v=>MK H n v
def Gi (H:Hp) (n:Nat):List (Bool×V)->Option (List Nat)
 | []=>some []
 | (true,v)::r=>match AbD H n v with
  | none=>none
  | some (_,ks)=>match Gi (BK ks H) (n+ks.length) r with
   | none=>none
   | some ks'=>some (ks++ks')
 | (false,_)::r=>Gi H n r
def F6 (H Hr:Hp) (n:Nat):List (Bool×V)->Option (List V)
 | []=>some []
 | (true,v)::r=>match AbD H n v with
  | none=>none
  | some (v',ks)=>match F6 (BK ks H) Hr (n+ks.length) r with
   | none=>none
   | some r'=>some (v'::r')
 | (false,v)::r=>match ro Hr v with
  | none=>none
  | some v'=>match F6 H Hr n r with
   | none=>none
   | some r'=>some (v'::r')
def GX:O->O
 | .tarr _ _ e t len cs=> .arr e t len cs
 | o=>o
def Adz:O->O->Option O
 | _,.dead=>some .dead
 | .arr e _ len cs,.arr e' 0 len' cs'=>if e' =e/\len' =len/\cs'.length=cs.length then some (.arr e 0 len cs')else none
 | .tarr k o e _ len cs,.arr e' 0 len' cs'=>if e' =e/\len' =len/\cs'.length=cs.length then some (.tarr k o e 0 len cs')else none
 | .var cs,.var cs'=>if cs'.length=cs.length/\Ab cs' then some (.var cs')else none
 | _,_=>none
def P9 (H:Hp):List Nat->List O->Option DL
 | [],[]=>some []
 | k::r,o::s=>match Adz (H k) o,P9 H r s with
  | some o',some u=>some ((k,o')::u)
  | _,_=>none
 | _,_=>none
def Amu (H:Hp):List Nat->V->Option (V×DL×List Nat)
 | ss,.sc x=>some (.sc x,[],ss)
 | s::ss,.sl 0 e len cs=>match H s with
  | .free=>some (.arr s,[(s,.arr e 0 len cs)],ss)
  | _=>none
 | ss,.sl 3 e len cs=>some (.sl 3 e len cs,[],ss)
 | _,_=>none
def Alg (H:Hp):List Nat->List V->Option (List V×DL×List Nat)
 | ss,[]=>some ([],[],ss)
 | ss,v::r=>match Amu H ss v with
  | none=>none
  | some (v',u,ss')=>match Alg (BK (u.map (·.1)) H) ss' r with
   | none=>none
   | some (r',u',ss'')=>some (v'::r',u++u',ss'')
def Al0 (H:Hp):List Nat->V->Option (V×DL×List Nat)
 | ss,.agg cs=>match Alg H ss cs with
  | some (cs',u,ss')=>some (.agg cs',u,ss')
  | none=>none
 | s::ss,.rptr 0 cs 0=>match H s with
  | .free=>if Ab cs then some (.ptr s 0,[(s,.var cs)],ss)else none
  | _=>none
 | ss,v=>Amu H ss v
def AdW (H:Hp):List Nat->List V->Option (List V×DL×List Nat)
 | ss,[]=>some ([],[],ss)
 | ss,v::r=>match Al0 H ss v with
  | none=>none
  | some (v',u,ss')=>match AdW (BK (u.map (·.1)) H) ss' r with
   | none=>none
   | some (r',u',ss'')=>some (v'::r',u++u',ss'')
def imp (H:Hp):List Nat->V->Option (V×DL×List Nat)
 | ss,.tup vs=>match AdW H ss vs with
  | some (vs',u,ss')=>some (.tup vs',u,ss')
  | none=>none
 | ss,v=>Al0 H ss v
abbrev Dn:=Nat->List V->List O->V->List O->Prop
def Nh (c:Cf) (H:Hp) (ks:List Nat):Bool:=
 (!c.bor||ks.all fun k=>match H k with | .var _=>true | _=>false)&&c.takes.all fun s=>match H s with
  | .tarr k _ _ _ _ _=> !ks.contains k
  | _=>true
def LZ (r:Option (V×DL)) (K:V->DL->Prop):Prop:=
 match r with
 | some (v,u)=>K v u
 | none=>False
def EX (D:Dn) (c:Cf) (H:Hp) (K:V->DL->Prop) (g:Nat) (args:List (Bool×V)) (sites:List Nat):Prop:=
 match Gi H 0 args with
 | none=>False
 | some ks=>if Nh c H ks=false then False else match F6 H (BK ks H) 0 args with
  | none=>False
  | some args'=>∃res outs,D g args' (ks.map fun k=>GX (H k)) res outs/\
   match P9 H ks outs,imp H sites res with
   | some u,some (v,u',_)=>K v (u++u')
   | _,_=>False
def stepW (D:Dn) (c:Cf) (H:Hp) (ev:Src->V) (op:LG) (K:V->DL->Prop):Prop:=
 match op with
 | .call g args sites=>EX D c H K g (args.map fun(b,x)=>(b,ev x)) sites
 | .callv f args sites=>match ev f with
  | .fn g caps=>EX D c H K g ((args.map fun(b,x)=>(b,ev x))++caps.map fun v=>(false,v)) sites
  | _=>False
 | .callp g args sites=>EX D ⟨true,c.takes⟩ H K g (args.map fun(b,x)=>(b,ev x)) sites
 | op=>LZ (op1 c.bor c.takes H ev op) K
def masked (t:Option (List Nat)) (H:Hp):Hp:=
 match t with
 | none=>H
 | some l=>fun k=>if l.contains k then H k else .dead
def X7 (o:O):Option (Nat×Nat):=(Ac o).map fun x=>(x.1,x.2.2.1)
def okU (t:Option (List Nat)) (om:List Nat) (H:Hp) (u:DL):Bool:=
 match t with
 | none=>true
 | some _=>u.all fun p=>om.contains p.1&&(!om.contains (p.1+100000)||decide (X7 (H p.1)=X7 p.2))
def Dk (D:Dn) (c:Cf) (env:List V):List I7->List V->List O->(List V->List O->Prop)->Prop
 | [],vals,H,Q=>Q vals H
 | o::r,vals,H,Q=>
  let go:Prop:=stepW D c (masked o.tau (hp H)) (evs vals env) o.op fun v u=>okU o.tau o.om (hp H) u=true/\Dk D c env r (vals++ [v]) (Si H u) Q
  match o.guard with
  | none=>go
  | some (j,t)=>match vals.getD j .undef with
   | .sc (.bool b)=>if b=t then go else Dk D c env r (vals++ [.tup []]) H Q
   | .tup []=>Dk D c env r (vals++ [.tup []]) H Q
   | _=>False
def Dp (s:St) (ks:List Nat):St:=ks.foldl kill s
def AhA (D:Dn) (c:Cf) (r:Ce) (Q:St->Prop) (s:St):Prop:=
 let s:=Dp s r.fresh
 Dk D c s.env r.ops [] s.H fun vals H=>
  match Gc ⟨clear (sets vals s.env r.sets) r.clr,H⟩ r.Gc with
  | some s'=>Q s'
  | none=>False
def swp (D:Dn) (c:Cf):SC->(Out->St->Prop)->St->Prop
 | .skip,Q,s=>Q .normal s
 | .reg r,Q,s=>AhA D c r (Q .normal) s
 | .seq a b,Q,s=>swp D c a (fun o s'=>match o with | .normal=>swp D c b Q s' | o=>Q o s') s
 | .cond k a b,Q,s=>match s.env.getD k .undef with
  | .sc (.bool t)=>if t then swp D c a Q ⟨s.env.set k .undef,s.H⟩else swp D c b Q ⟨s.env.set k .undef,s.H⟩
  | _=>False
 | .block id a,Q,s=>swp D c a (fun o s'=>match o with | .exit i=>if i=id then Q .normal s' else Q (.exit i) s' | o=>Q o s') s
 | .loop a,Q,s=>∃n,Nat.rec (motive:=fun _=>St->Prop) (fun _=>False)
  (fun _ ih s=>swp D c a (fun o s'=>match o with | .normal=>ih s' | o=>Q o s') s) n s
 | .exit id,Q,s=>Q (.exit id) s
 | .ret,Q,s=>Q .ret s
 | .stuck,_,_=>False
inductive Res where
 | slot (i:Nat)
 | cell (i:Nat) (n:Option Nat)
 deriving Inhabited
structure Cm where
 nslots:Nat
 nobjs:Nat
 params:List Nat
 ngiven:Nat
 bor:Bool
 takes:List Nat
 body:SC
 results:List Res
def Ang (s:St):Res->Option V
 | .slot i=>some (s.env.getD i .undef)
 | .cell i n=>match s.env.getD i .undef,n with
  | .ptr k off,none=>match hp s.H k with
   | .var cs=>cs[off]?
   | _=>none
  | .ptr k off,some n=>match hp s.H k with
   | .var cs=>match ER cs off n with
    | some c=>some (.agg c)
    | none=>none
   | _=>none
  | _,_=>none
def Tf (s:St):List Res->Option (List V)
 | []=>some []
 | r::t=>match Ang s r,Tf s t with
  | some v,some l=>some (v::l)
  | _,_=>none
def tie:List V->V
 | [v]=>v
 | l=> .tup l
def Cu:O->O
 | .arr e 0 len cs=> .arr e 0 len cs
 | .var cs=>if Ab cs then .var cs else .dead
 | _=> .dead
def finish (f:Cm) (s:St) (res:V) (outs:List O):Prop:=
 match Tf s f.results with
 | none=>False
 | some l=>match give (hp s.H) (tie l)with
  | some (v,0,ks)=>v=res/\outs=(List.range f.ngiven).map fun i=>if ks.contains i then .dead else Cu (hp s.H i)
  | _=>False
def ZF (f:Cm) (args:List V):List V:=sets args (List.replicate f.nslots .undef) (f.params.zipIdx)
def Xc (f:Cm) (args:List V) (given:List O):St:=⟨ZF f args,given++List.replicate (f.nobjs-given.length) .free⟩
def Body (D:Dn) (f:Cm) (args:List V) (given:List O) (res:V) (outs:List O):Prop:=
 args.length=f.params.length/\given.length=f.ngiven/\swp D ⟨f.bor,f.takes⟩ f.body (fun o s=>match o with | .exit _=>False | _=>finish f s res outs) (Xc f args given)
end Go.Eng
namespace Go.Eng
structure Gl where
 on:Nat->Prop
 is:Nat->Option Obj
instance:CoeFun Gl (fun _=>Nat->Prop):=⟨Gl.on⟩
structure Fr where
 Ae:Nat->Option FuncId
 w0:World
 own0:Nat->Option (Nat×List Nat)
 β0:Nat->Base
 ngiven:Nat
 G:Gl
 bor:Bool
 takes:List Nat
def Fr.S (F:Fr) (w:World) (own:Nat->Option (Nat×List Nat)):Nat->Nat->Prop:=fun fl b=>
 match fl with
 | 1=>b<F.w0.heap.size/\F.own0 b=none
 | 3=>F.G b
 | _=>F.bor=true/\b<w.heap.size/\∀k,own b≠some (k,[])
def GK:O->Bool
 | .arr .. =>true
 | .tarr .. =>true
 | _=>false
def Anc (a:Option Addr) (cap off e len:Nat) (x:Value):Prop:=
 ∃a',x= .slice a' len (cap-off)/\off+len<=cap/\(cap-off=0∨a' =a.map (·.add (off*e)))
inductive VR (F:Fr) (β:Nat->Base) (own:Nat->Option (Nat×List Nat)) (H:Hp) (w:World):V->Value->Prop where
 | sc {v:Value} (h1:v.oneCell' =true):VR F β own H w (.sc v) v
 | nil (e:Nat):VR F β own H w (.nil e) (.slice none 0 0)
 | rd {fl e len:Nat} {cells:List V} {x:Value} (h1:1<=fl) (h:Rd F.Ae w (F.S w own fl) (.sl fl e len cells) x):VR F β own H w (.sl fl e len cells) x
 | rptr {fl off:Nat} {cells:List V} {x:Value} (h1:1<=fl) (h:Rd F.Ae w (F.S w own fl) (.rptr fl cells off) x):VR F β own H w (.rptr fl cells off) x
 | arr {k e t len:Nat} {cs:List V} (h:Ac (H k)=some (e,t,len,cs)):VR F β own H w (.arr k) (.slice (β k).a len (β k).cap)
 | sub {k off e t len n:Nat} {cs:List V} {x:Value} (h:Ac (H k)=some (e,t,n,cs)) (hn:off+len<=n) (hx:Anc (β k).a (β k).cap off e len x):VR F β own H w (.sub k off len) x
 | ptr {k off b o:Nat} (h:GK (H k)=true∨∃cs,H k= .var cs) (hb:(β k).a=some ⟨b,o,none⟩):VR F β own H w (.ptr k off) (.pointer (some ⟨b,o+off,none⟩))
 | goneA {k l c:Nat} {a:Option Addr} (h:H k= .dead):VR F β own H w (.arr k) (.slice a l c)
 | goneS {k off len l c:Nat} {a:Option Addr} (h:H k= .dead):VR F β own H w (.sub k off len) (.slice a l c)
 | goneP {k off b o:Nat} (h:H k= .dead):VR F β own H w (.ptr k off) (.pointer (some ⟨b,o,none⟩))
 | fn {g:Nat} {caps:List V} {f:FuncId} {vs:List Value} (hf:F.Ae g=some f) (hv:vs.length=caps.length)
  (hc:∀(i:Nat) (v:V) (x:Value),caps[i]? =some v->vs[i]? =some x->VR F β own H w v x):VR F β own H w (.fn g caps) (.func (.func f) #[] vs.toArray)
 | agg {cs:List V} {vs:List Value} (h1:Fj vs) (hv:vs.length=cs.length)
  (hc:∀(i:Nat) (v:V) (x:Value),cs[i]? =some v->vs[i]? =some x->VR F β own H w v x):VR F β own H w (.agg cs) (.agg vs.toArray)
 | tup {cs:List V} {vs:List Value} (hv:vs.length=cs.length)
  (hc:∀(i:Nat) (v:V) (x:Value),cs[i]? =some v->vs[i]? =some x->VR F β own H w v x):VR F β own H w (.tup cs) (.tuple vs.toArray)
 | undef {x:Value}:VR F β own H w .undef x
def AR (F:Fr) (own:Nat->Option (Nat×List Nat)) (w:World) (k:Nat) (B:Base) (e t len:Nat) (cs:List V):Prop:=
 ∃vs:List Value,vs.length=cs.length/\cs.length=len*e/\(len<=B.cap/\B.cap<=9223372036854775807)/\
  (B.cap*e=0∨∃b o,B.a=some ⟨b,o,none⟩/\own b=some (k,[])/\Has w b o vs (B.cap*e))/\
  ∀(i:Nat) (v:V) (x:Value),cs[i]? =some v->vs[i]? =some x->Ow F.Ae w own (F.S w own) t k [i] v x
def OR (F:Fr) (β:Nat->Base) (own:Nat->Option (Nat×List Nat)) (H:Hp) (w:World) (k:Nat):O->Prop
 | .free=>True
 | .dead=>True
 | .var cs=>∃(b o:Nat) (vs:List Value),(β k).a=some ⟨b,o,none⟩/\own b=some (k,[])/\vs.length=cs.length/\Has w b o vs vs.length/\
  ∀(i:Nat) (v:V) (x:Value),cs[i]? =some v->vs[i]? =some x->VR F β own H w v x
 | .arr e t len cs=>AR F own w k (β k) e t len cs
 | .tarr k' off e t len cs=>AR F own w k (β k) e t len cs/\k∈F.takes/\(k'≠k/\H k'≠ .free)/\
  (GK (H k')=true->∃b o,(β k').a=some ⟨b,o,none⟩/\own b=some (k',[])/\w.cell? ⟨b,o+off,none⟩=some (.slice (β k).a len (β k).cap))
structure Inv (F:Fr) (β:Nat->Base) (own:Nat->Option (Nat×List Nat)) (H:Hp) (w:World):Prop where
 size:F.w0.heap.size<=w.heap.size
 keep:∀b,b<F.w0.heap.size->F.own0 b=none->w.heap[b]? =F.w0.heap[b]?
 os:w.os=F.w0.os
 tape:w.tape=F.w0.tape
 output:w.output=F.w0.output
 ownb:∀b p,own b=some p->b<w.heap.size/\(b<F.w0.heap.size->F.own0 b≠none)
 glob:∀b,F.G b->b<F.w0.heap.size/\F.own0 b=none/\F.w0.heap[b]? =F.G.is b
 objs:∀k,OR F β own H w k (H k)
 given:∀k,k<F.ngiven->H k≠ .dead->β k=F.β0 k
 gfree:∀k,k<F.ngiven->H k≠ .free
theorem VR.move {F:Fr} {β β':Nat->Base} {own own':Nat->Option (Nat×List Nat)} {H H':Hp} {w w':World} {v:V} {x:Value} (h:VR F β own H w v x)
 (hS:∀fl b,1<=fl->F.S w own fl b->F.S w' own' fl b) (hw:∀fl b,1<=fl->F.S w own fl b->w'.heap[b]? =w.heap[b]?)
 (ha:∀k e t len cs,Ac (H k)=some (e,t,len,cs)->H' k= .dead∨(β' k=β k/\∃t' cs',Ac (H' k)=some (e,t',len,cs')))
 (hp:∀k cs,H k= .var cs->H' k= .dead∨(β' k=β k/\∃cs',H' k= .var cs'))
 (hd:∀k,H k= .dead->H' k= .dead):VR F β' own' H' w' v x:=by
 induction h with
 | sc h1=>exact .sc h1
 | nil e=>exact .nil e
 | rd h1 h=>exact .rd h1 (h.move (fun b=>hS _ b h1) (fun b=>hw _ b h1))
 | rptr h1 h=>exact .rptr h1 (h.move (fun b=>hS _ b h1) (fun b=>hw _ b h1))
 | @arr k e t len cs h=>
  rcases ha k e t len cs h with h' | ⟨hb,t',cs',h'⟩
  ·exact .goneA h'
  ·rw[<-hb];exact .arr h'
 | @sub k off e t len n cs x h hn hx=>
  rcases ha k e t n cs h with h' | ⟨hb,t',cs',h'⟩
  ·obtain⟨a',rfl,_⟩:=hx;exact .goneS h'
  ·exact .sub h' hn (by rw[hb];exact hx)
 | @ptr k off b o h hb=>
  rcases h with h | ⟨cs,h⟩
  ·obtain⟨e,t,len,cs,hk⟩:∃e t len cs,Ac (H k)=some (e,t,len,cs):=by
    cases hk:H k<;>simp_all[GK,Ac]
   rcases ha k e t len cs hk with h' | ⟨hb',t',cs',h'⟩
   ·exact .goneP h'
   ·refine .ptr (.inl ?_) (by rw[hb'];exact hb)
    cases hk':H' k<;>simp_all[GK,Ac]
  ·rcases hp k cs h with h' | ⟨hb',cs',h'⟩
   ·exact .goneP h'
   ·exact .ptr (.inr ⟨cs',h'⟩) (by rw[hb'];exact hb)
 | goneA h=>exact .goneA (hd _ h)
 | goneS h=>exact .goneS (hd _ h)
 | goneP h=>exact .goneP (hd _ h)
 | fn hf hv hc ih=>exact .fn hf hv ih
 | agg h1 hv hc ih=>exact .agg h1 hv ih
 | tup hv hc ih=>exact .tup hv ih
 | undef=>exact .undef
end Go.Eng
namespace Go.Eng
structure Step (F:Fr) (β:Nat->Base) (own:Nat->Option (Nat×List Nat)) (H:Hp) (w:World)
 (β':Nat->Base) (own':Nat->Option (Nat×List Nat)) (H':Hp) (w':World) (K:Nat->Prop):Prop where
 size:w.heap.size<=w'.heap.size
 os:w'.os=w.os
 tape:w'.tape=w.tape
 output:w'.output=w.output
 blk:∀b,b<w.heap.size->(∀k p,own b=some (k,p)->¬K k)->w'.heap[b]? =w.heap[b]?
 bork:F.bor=true->∀b,b<w.heap.size->(∀k,own b≠some (k,[]))->w'.heap[b]? =w.heap[b]? /\∀k,own' b≠some (k,[])
 lab:∀b k p,own b=some (k,p)->¬K k->own' b=some (k,p)
 labn:∀b p,own' b=some p->b<w'.heap.size/\(b<w.heap.size->own b≠none)
 same:∀k,¬K k->β' k=β k/\H' k=H k
 arrs:∀k e t len cs,K k->Ac (H k)=some (e,t,len,cs)->H' k= .dead∨(β' k=β k/\∃t' cs',Ac (H' k)=some (e,t',len,cs'))
 vars:∀k cs,K k->H k= .var cs->H' k= .dead∨(β' k=β k/\∃cs',H' k= .var cs')
 deads:∀k,K k->H k= .dead->H' k= .dead
 frees:∀k,K k->H k≠ .free->H' k≠ .free
 home:∀s k off e t len cs,¬K s->H s= .tarr k off e t len cs->K k->GK (H' k)=true->
  GK (H k)=true/\∀b o,(β k).a=some ⟨b,o,none⟩->own b=some (k,[])->own' b=some (k,[])/\w'.cell? ⟨b,o+off,none⟩=w.cell? ⟨b,o+off,none⟩
section
variable {F:Fr} {β β':Nat->Base} {own own':Nat->Option (Nat×List Nat)} {H H':Hp} {w w':World} {K:Nat->Prop}
theorem Step.sS (st:Step F β own H w β' own' H' w' K) (inv:Inv F β own H w) (fl b:Nat) (hfl:1<=fl) (h:F.S w own fl b):
 F.S w' own' fl b/\w'.heap[b]? =w.heap[b]? :=by
 have key:b<F.w0.heap.size->F.own0 b=none->w'.heap[b]? =w.heap[b]? :=by
  intro h1 h2
  refine st.blk b (Nat.lt_of_lt_of_le h1 inv.size) ?_
  intro k p hp
  exact absurd h2 ((inv.ownb b _ hp).2 h1)
 match fl,hfl with
 | 1,_=>exact⟨h,key h.1 h.2⟩
 | 2,_=>
  obtain⟨h1,h2,h3⟩:=h
  obtain⟨h4,h5⟩:=st.bork h1 b h2 h3
  exact⟨⟨h1,Nat.lt_of_lt_of_le h2 st.size,h5⟩,h4⟩
 | 3,_=>
  have:=inv.glob b h
  exact⟨h,key this.1 this.2.1⟩
 | n+4,_=>
  obtain⟨h1,h2,h3⟩:=h
  obtain⟨h4,h5⟩:=st.bork h1 b h2 h3
  exact⟨⟨h1,Nat.lt_of_lt_of_le h2 st.size,h5⟩,h4⟩
theorem EA {o:O}:GK o=true↔∃e t len cs,Ac o=some (e,t,len,cs):=by
 cases o<;>simp[GK,Ac]
theorem Step.vr (st:Step F β own H w β' own' H' w' K) (inv:Inv F β own H w) {v:V} {x:Value} (h:VR F β own H w v x):
 VR F β' own' H' w' v x:=by
 refine h.move (fun fl b h1 hs=>(st.sS inv fl b h1 hs).1) (fun fl b h1 hs=>(st.sS inv fl b h1 hs).2) ?_ ?_ ?_
 ·intro k e t len cs hk
  by_cases hK:K k
  ·exact st.arrs k e t len cs hK hk
  ·obtain⟨h1,h2⟩:=st.same k hK
   exact .inr ⟨h1,t,cs,by rw[h2];exact hk⟩
 ·intro k cs hk
  by_cases hK:K k
  ·exact st.vars k cs hK hk
  ·obtain⟨h1,h2⟩:=st.same k hK
   exact .inr ⟨h1,cs,by rw[h2];exact hk⟩
 ·intro k hk
  by_cases hK:K k
  ·exact st.deads k hK hk
  ·obtain⟨h1,h2⟩:=st.same k hK
   rw[h2];exact hk
theorem Step.ow (st:Step F β own H w β' own' H' w' K) (inv:Inv F β own H w) {k:Nat} (hk:¬K k) {t:Nat} {p:List Nat} {v:V} {x:Value}
 (h:Ow F.Ae w own (F.S w own) t k p v x):Ow F.Ae w' own' (F.S w' own') t k p v x:=by
 have hR:∀ {v:V} {x:Value} {fl:Nat},1<=fl->Rd F.Ae w (F.S w own fl) v x->Rd F.Ae w' (F.S w' own' fl) v x:=
  fun h1 h=>h.move (fun b hb=>(st.sS inv _ b h1 hb).1) (fun b hb=>(st.sS inv _ b h1 hb).2)
 have hB:∀b q,own b=some (k,q)->own' b=some (k,q)/\w'.heap[b]? =w.heap[b]? :=by
  intro b q hb
  refine⟨st.lab b k q hb hk,st.blk b (inv.ownb b _ hb).1 ?_⟩
  intro k2 p2 h2
  rw[hb]at h2
  cases h2
  exact hk
 induction h with
 | sc h1=>exact .sc h1
 | own hl hw hv hm hc ih=>
  refine .own hl hw hv ?_ ih
  rcases hm with hm | ⟨b,o,ha,hb,hr⟩
  ·exact .inl hm
  ·exact .inr ⟨b,o,ha,(hB b _ hb).1,EU hr (hB b _ hb).2⟩
 | ro h1 h2 h=>exact .ro h1 h2 (hR h1 h)
 | ptr hv hb hm hc ih=>exact .ptr hv (hB _ _ hb).1 (EU hm (hB _ _ hb).2) ih
 | rptr h1 h2 h=>exact .rptr h1 h2 (hR h1 h)
 | fn h2 h=>exact .fn h2 (hR (Nat.le_refl 1) h)
 | agg h1 hv hc ih=>exact .agg h1 hv ih
 | tup hv hc ih=>exact .tup hv ih
 | undef=>exact .undef
theorem Step.ar (st:Step F β own H w β' own' H' w' K) (inv:Inv F β own H w) {k:Nat} (hk:¬K k) {B:Base} {e t len:Nat} {cs:List V}
 (h:AR F own w k B e t len cs):AR F own' w' k B e t len cs:=by
 obtain⟨vs,h1,h2,h3,h4,h5⟩:=h
 refine⟨vs,h1,h2,h3,?_,fun i v x hv hx=>st.ow inv hk (h5 i v x hv hx)⟩
 rcases h4 with h4 | ⟨b,o,ha,hb,hr⟩
 ·exact .inl h4
 ·refine .inr ⟨b,o,ha,st.lab b k [] hb hk,EU hr ?_⟩
  refine st.blk b (inv.ownb b _ hb).1 ?_
  intro k2 p2 h2
  rw[hb]at h2;cases h2;exact hk
theorem Step.or (st:Step F β own H w β' own' H' w' K) (inv:Inv F β own H w) {k:Nat} (hk:¬K k):OR F β' own' H' w' k (H' k):=by
 obtain⟨hβ,hH⟩:=st.same k hk
 have ho:=inv.objs k
 rw[hH]
 cases ho':H k with
 | free=>trivial
 | dead=>trivial
 | var cs=>
  rw[ho']at ho
  obtain⟨b,o,vs,h1,h2,h3,h4,h5⟩:=ho
  refine⟨b,o,vs,by rw[hβ];exact h1,st.lab b k [] h2 hk,h3,EU h4 ?_,fun i v x hv hx=>st.vr inv (h5 i v x hv hx)⟩
  refine st.blk b (inv.ownb b _ h2).1 ?_
  intro k2 p2 hh
  rw[h2]at hh;cases hh;exact hk
 | arr e t len cs=>
  rw[ho']at ho
  show AR F own' w' k (β' k) e t len cs
  rw[hβ]
  exact st.ar inv hk ho
 | tarr k2 off e t len cs=>
  rw[ho']at ho
  obtain⟨h1,h2,⟨hne,hf⟩,h3⟩:=ho
  refine⟨by rw[hβ];exact st.ar inv hk h1,h2,⟨hne,?_⟩,?_⟩
  ·by_cases hK2:K k2
   ·exact st.frees k2 hK2 hf
   ·rw[(st.same k2 hK2).2];exact hf
  intro ha
  rw[hβ]
  by_cases hK2:K k2
  ·obtain⟨g1,g2⟩:=st.home k k2 off e t len cs hk ho' hK2 ha
   obtain⟨b,o,g3,gl,g4⟩:=h3 g1
   obtain⟨e2,t2,len2,cs2,hcs2⟩:=EA.1 g1
   rcases st.arrs k2 e2 t2 len2 cs2 hK2 hcs2 with g5 | ⟨g5,_⟩
   ·rw[g5]at ha;simp[GK]at ha
   ·exact⟨b,o,by rw[g5];exact g3,(g2 b o g3 gl).1,by rw[(g2 b o g3 gl).2];exact g4⟩
  ·obtain⟨g1,g2⟩:=st.same k2 hK2
   rw[g2]at ha
   obtain⟨b,o,g3,hb,g4⟩:=h3 ha
   refine⟨b,o,by rw[g1];exact g3,st.lab b k2 [] hb hK2,?_⟩
   rw[<-g4]
   simp only[World.cell?]
   rw[st.blk b (inv.ownb b _ hb).1 (by intro k3 p3 hh;rw[hb]at hh;cases hh;exact hK2)]
theorem Step.inv (st:Step F β own H w β' own' H' w' K) (inv:Inv F β own H w) (hn:∀k,K k->OR F β' own' H' w' k (H' k))
 (hg:∀k,K k->k<F.ngiven->H' k≠ .dead->β' k=β k/\H k≠ .dead):Inv F β' own' H' w':=by
 refine⟨Nat.le_trans inv.size st.size,?_,st.os.trans inv.os,st.tape.trans inv.tape,st.output.trans inv.output,?_,inv.glob,?_,?_,?_⟩
 ·intro b h1 h2
  rw[<-inv.keep b h1 h2]
  refine st.blk b (Nat.lt_of_lt_of_le h1 inv.size) ?_
  intro k p hp
  exact absurd h2 ((inv.ownb b _ hp).2 h1)
 ·intro b p hp
  obtain⟨h1,h2⟩:=st.labn b p hp
  refine⟨h1,fun h=> ?_⟩
  have:=h2 (Nat.lt_of_lt_of_le h inv.size)
  cases ho:own b with
  | none=>exact absurd ho this
  | some q=>exact(inv.ownb b q ho).2 h
 ·intro k
  by_cases hk:K k
  ·exact hn k hk
  ·exact st.or inv hk
 ·intro k hk h1
  by_cases hK:K k
  ·obtain⟨g1,g2⟩:=hg k hK hk h1
   rw[g1];exact inv.given k hk g2
  ·obtain⟨g1,g2⟩:=st.same k hK
   rw[g1];rw[g2]at h1;exact inv.given k hk h1
 ·intro k hk
  by_cases hK:K k
  ·exact st.frees k hK (inv.gfree k hk)
  ·rw[(st.same k hK).2];exact inv.gfree k hk
end
end Go.Eng
namespace Go.Eng
def Al (H:Hp):DL->Hp
 | []=>H
 | (k,o)::r=>Al (fun j=>if j=k then o else H j) r
def Z8 (F:Fr) (β:Nat->Base) (own:Nat->Option (Nat×List Nat)) (H:Hp) (w:World) (r:Result Next) (v:V) (u:DL):Prop:=
 ∃x w' β' own',(r= .ok (.value x) w'∨(r= .ok .skip w'/\x=undef))/\(∀z y,VR F β own H w z y->VR F β' own' (Al H u) w' z y)/\
  Inv F β' own' (Al H u) w'/\VR F β' own' (Al H u) w' v x
section
variable {P:Program} {F:Fr} {β:Nat->Base} {own:Nat->Option (Nat×List Nat)} {H:Hp} {w w':World}
theorem Step.refl' (inv:Inv F β own H w) (hh:w'.heap=w.heap) (ho:w'.os=w.os) (ht:w'.tape=w.tape) (hu:w'.output=w.output):
 Step F β own H w β own H w' (fun k=>k∈([]:DL).map (·.1)) where
 size:=by rw[hh];exact Nat.le_refl _
 os:=ho
 tape:=ht
 output:=hu
 blk:=fun b _ _=>by rw[hh]
 bork:=fun _ b _ h=>⟨by rw[hh],h⟩
 lab:=fun _ _ _ h _=>h
 labn:=fun b p h=>⟨by rw[hh];exact(inv.ownb b p h).1,fun _=>by rw[h];simp⟩
 same:=fun _ _=>⟨rfl,rfl⟩
 arrs:=fun _ _ _ _ _ h=>by simp at h
 vars:=fun _ _ h=>by simp at h
 deads:=fun _ h=>by simp at h
 frees:=fun _ h=>by simp at h
 home:=fun _ _ _ _ _ _ _ _ _ h=>by simp at h
theorem Z8.pure' (inv:Inv F β own H w) {r:Result Next} {v:V} {x:Value} (hr:r= .ok (.value x) w') (hh:w'.heap=w.heap) (ho:w'.os=w.os) (ht:w'.tape=w.tape)
 (hu:w'.output=w.output) (hv:VR F β own H w v x):Z8 F β own H w r v []:=by
 have st:=Step.refl' inv hh ho ht hu
 exact⟨x,w',β,own,.inl hr,fun _ _ h=>st.vr inv h,st.inv inv (fun _ h=>by simp at h) (fun _ h=>by simp at h),st.vr inv hv⟩
theorem Z8.pure (inv:Inv F β own H w) {r:Result Next} {v:V} {x:Value} (hr:r= .ok (.value x) w) (hv:VR F β own H w v x):Z8 F β own H w r v []:=
 Z8.pure' inv hr rfl rfl rfl rfl hv
theorem ArN (inv:Inv F β own H w) (hb:F.bor=true) {fl b:Nat} (h1:1<=fl) (h:F.S w own fl b):F.S w own 2 b:=by
 have key:b<F.w0.heap.size->F.own0 b=none->F.S w own 2 b:=by
  intro h1 h2
  refine⟨hb,Nat.lt_of_lt_of_le h1 inv.size,fun k hk=> ?_⟩
  exact absurd h2 ((inv.ownb b _ hk).2 h1)
 match fl,h1 with
 | 1,_=>exact key h.1 h.2
 | 2,_=>exact h
 | 3,_=>exact key (inv.glob b h).1 (inv.glob b h).2.1
 | n+4,_=>exact h
theorem Ow.Ass (inv:Inv F β own H w) (hb:F.bor=true) {lim k:Nat} {p:List Nat} {v:V} {x:Value} (hp:p≠ [])
 (h:Ow F.Ae w own (F.S w own) lim k p v x):Rd F.Ae w (F.S w own 2) v x:=by
 have hS:∀ {fl:Nat} {v:V} {x:Value},1<=fl->Rd F.Ae w (F.S w own fl) v x->Rd F.Ae w (F.S w own 2) v x:=
  fun h1 h=>h.move (fun b hb'=>ArN inv hb h1 hb') (fun _ _=>rfl)
 induction h with
 | sc h1=>exact .sc h1
 | @own p e len cells a cap vs hl hw hv hm hc ih=>
  refine .sl hl.1 hw hv ?_ (fun i v x hv hx=>ih i v x hv hx (by simp))
  rcases hm with hm | ⟨b,o,ha,hbk,hr⟩
  ·left
   have:len*e<=cap*e:=Nat.mul_le_mul_right _ hl.1
   exact List.eq_nil_of_length_eq_zero (by omega)
  ·refine .inr ⟨b,o,ha,⟨hb,TT hr,fun k' hk'=> ?_⟩,DF hr⟩
   rw[hbk]at hk'
   cases hk'
   exact hp rfl
 | ro h1 h2 h=>exact hS h1 h
 | @ptr p cells b o vs hv hbk hm hc ih=>
  have:=Rd.rptr (Ae:=F.Ae) (w:=w) (P:=F.S w own 2) (fl:=0) (cells:=cells) (off:=0) (b:=b) (o:=o) (vs:=vs) hv
   ⟨hb,TT hm,fun k' hk'=>by rw[hbk]at hk';cases hk';exact hp rfl⟩ (DF hm) (fun i v x hv hx=>ih i v x hv hx (by simp))
  simpa using this
 | rptr h1 h2 h=>exact hS h1 h
 | fn h2 h=>exact hS (Nat.le_refl 1) h
 | agg h1 hv hc ih=>exact .agg h1 hv (fun i v x hv hx=>ih i v x hv hx (by simp))
 | tup hv hc ih=>exact .tup hv (fun i v x hv hx=>ih i v x hv hx (by simp))
 | undef=>exact .undef
theorem Rd.flag {Ae:Nat->Option FuncId} {Q:Nat->Prop} {v:V} {x:Value} (fl:Nat) (h:Rd Ae w Q v x):Rd Ae w Q (AO fl v) x:=by
 cases h with
 | sc h1=>exact .sc h1
 | nil e=>exact .sl (vs:=[]) (Nat.le_refl 0) (by simp) rfl (.inl rfl) (by simp)
 | sl hl hn hv hm hc=>exact .sl hl hn hv hm hc
 | rptr hv hP hm hc=>exact .rptr hv hP hm hc
 | fn hf hv hc=>exact .undef
 | agg h1 hv hc=>exact .undef
 | tup hv hc=>exact .undef
 | undef=>exact .undef
theorem VR.AsB {fl:Nat} (h1:1<=fl) {v:V} {x:Value} (h:Rd F.Ae w (F.S w own fl) v x):VR F β own H w (AO fl v) x:=by
 have h':=h.flag fl
 cases v with
 | sc v=>cases h;exact .sc ‹_›
 | nil e=>exact .rd h1 h'
 | sl fl' e len cs=>exact .rd h1 h'
 | rptr fl' cs off=>exact .rptr h1 h'
 | _=>exact .undef
theorem VR.ArE (inv:Inv F β own H w) {t k:Nat} {p:List Nat} (hp:p≠ []) {v v':V} {x:Value} (h:Ow F.Ae w own (F.S w own) t k p v x)
 (hc:Lx F.bor v=some v'):VR F β own H w v' x:=by
 cases v with
 | sc v=>cases h;simp[Lx]at hc;subst hc;exact .sc ‹_›
 | sl fl e len cs=>
  match fl with
  | 0=>
   simp only[Lx]at hc
   split at hc
   ·rename_i hb
    cases hc
    exact .rd (by omega) ((h.Ass inv hb hp).flag 2)
   ·cases hc
  | n+1=>
   simp only[Lx]at hc
   cases hc
   cases h with
   | ro h1 h2 h=>exact .rd h1 h
 | _=>simp[Lx]at hc
theorem JI (b o n:Nat):(⟨b,o,none⟩:Addr).add n=⟨b,o+n,none⟩:=by unfold Addr.add;split<;>simp_all
theorem AgO {b o:Nat} {vs:List Value} (h:Rds w b o vs) {off n:Nat} (hn:off+n<=vs.length):
 (loadCells ⟨b,o+off,none⟩ n).run P w= .ok ((vs.drop off).take n).toArray w:=by
 have:=run_loadCells_list (P:=P) w ⟨b,o+off,none⟩ ((vs.drop off).take n) (fun j v hj=>by
  rw[JI]
  have hj':j<n:=by
   have:=List.getElem?_eq_some_iff.1 hj
   obtain⟨h1,_⟩:=this
   simp at h1;omega
  have h2:=h.2 (off+j) (by omega)
  rw[show o+off+j=o+(off+j)by omega,h2]
  simpa[List.getElem?_take,hj',List.getElem?_drop]using hj)
 simpa[List.length_take,List.length_drop,Nat.min_eq_left (show n<=vs.length-off by omega)]using this
theorem Am7 {b o:Nat} {vs:List Value} (h:Rds w b o vs) {off:Nat} {x:Value} (hx:vs[off]? =some x):
 (load ⟨b,o+off,none⟩).run P w= .ok x w:=by
 have hlt:off<vs.length:=(List.getElem?_eq_some_iff.1 hx).1
 have:=h.2 off hlt
 rw[run_load,this,hx]
theorem AaC {vs:List Value} (h:Fj vs) (off n:Nat):Fj ((vs.drop off).take n):=
 fun x hx=>h x (List.mem_of_mem_drop (List.mem_of_mem_take hx))
theorem PU {cs c:List V} {off n:Nat} (h:ER cs off n=some c):off+n<=cs.length/\c=(cs.drop off).take n:=by
 unfold ER at h
 split at h
 ·cases h;exact⟨‹_›,rfl⟩
 ·cases h
theorem EH {α:Type} (l:List α) (off n i:Nat):((l.drop off).take n)[i]? =if i<n then l[off+i]? else none:=by
 rw[List.getElem?_take]
 split
 ·rw[List.getElem?_drop]
 ·rfl
theorem Tg {bor:Bool}:∀ {c c':List V},II bor c=some c'->c'.length=c.length/\∀(i:Nat) (v':V),c'[i]? =some v'->∃v,c[i]? =some v/\Lx bor v=some v'
 | [],c',h=>by simp[II]at h;subst h;simp
 | a::r,c',h=>by
  simp only[II]at h
  cases ha:Lx bor a with
  | none=>simp[ha]at h
  | some a'=>
   cases hr:II bor r with
   | none=>simp[ha,hr]at h
   | some r'=>
    simp[ha,hr]at h
    subst h
    obtain⟨h1,h2⟩:=Tg hr
    refine⟨by simp[h1],?_⟩
    intro i v' hv
    cases i with
    | zero=>simp at hv;subst hv;exact⟨a,by simp,ha⟩
    | succ i=>simpa using h2 i v' (by simpa using hv)
theorem AbM (inv:Inv F β own H w) {Hm:Hp} (hm:∀k,Hm k=H k∨Hm k= .dead) {n:Nat} {v:V} {x:Value} {cs:List V} (hv:VR F β own H w v x)
 (h:SL F.bor Hm n v=some cs):∃b o off vs,x= .pointer (some ⟨b,o+off,none⟩)/\Rds w b o vs/\off+n<=vs.length/\cs.length=n/\
  ∀(i:Nat) (v:V) (x:Value),cs[i]? =some v->vs[off+i]? =some x->VR F β own H w v x:=by
 have arrcase:∀ {k off e t len:Nat} {acs:List V} {c:List V},VR F β own H w (.ptr k off) x->Ac (H k)=some (e,t,len,acs)->ER acs off n=some c->II F.bor c=some cs->
  ∃b o off vs,x= .pointer (some ⟨b,o+off,none⟩)/\Rds w b o vs/\off+n<=vs.length/\cs.length=n/\
  ∀(i:Nat) (v:V) (x:Value),cs[i]? =some v->vs[off+i]? =some x->VR F β own H w v x:=by
  intro k off e t len acs c hv hk hg hc
  obtain⟨hle,rfl⟩:=PU hg
  obtain⟨hl,hcs⟩:=Tg hc
  have ho:AR F own w k (β k) e t len acs:=by
   have:=inv.objs k
   cases hk':H k<;>rw[hk']at hk this<;>simp[Ac]at hk
   ·obtain⟨rfl,rfl,rfl,rfl⟩:=hk;exact this
   ·obtain⟨rfl,rfl,rfl,rfl⟩:=hk;exact this.1
  cases hv with
  | goneP h1=>rw[h1]at hk;simp[Ac]at hk
  | @ptr _ _ b o h1 hb=>
   obtain⟨vs,h2,h3,h4,h5,h6⟩:=ho
   rcases h5 with h5 | ⟨b',o',ha,hbk,hr⟩
   ·have:len*e<=(β k).cap*e:=Nat.mul_le_mul_right _ h4.1
    have h0:acs.length=0:=by omega
    have hn0:n=0:=by omega
    have ho0:off=0:=by omega
    subst hn0
    refine⟨b,o,off,[],rfl,⟨by simp[Fj],by simp⟩,by simp[ho0],by simp at hl;simp[hl],?_⟩
    intro i v x hv hx
    simp at hx
   ·rw[hb]at ha
    cases ha
    refine⟨b,o,off,vs,rfl,DF hr,by omega,by rw[hl];simp;omega,?_⟩
    intro i v x hv hx
    obtain⟨u,hu,huc⟩:=hcs i v hv
    rw[EH]at hu
    split at hu
    ·exact VR.ArE inv (p:=[off+i]) (by simp) (h6 (off+i) u x hu hx) huc
    ·cases hu
 cases v with
 | ptr k off=>
  simp only[SL]at h
  rcases hm k with hk | hk<;>rw[hk]at h
  ·cases hk':H k with
   | free=>simp[hk']at h
   | dead=>simp[hk']at h
   | var vcs=>
    simp only[hk']at h
    obtain⟨hle,rfl⟩:=PU h
    have ho:=inv.objs k
    rw[hk']at ho
    obtain⟨b,o,vs,h1,h2,h3,h4,h5⟩:=ho
    cases hv with
    | goneP g1=>rw[hk']at g1;cases g1
    | @ptr _ _ b' o' g1 g2=>
     rw[h1]at g2
     cases g2
     refine⟨b,o,off,vs,rfl,DF h4,by omega,by simp;omega,?_⟩
     intro i v x hv hx
     rw[EH]at hv
     split at hv
     ·exact h5 (off+i) v x hv hx
     ·cases hv
   | arr e t len acs=>
    simp only[hk']at h
    cases hg:ER acs off n with
    | none=>simp[hg]at h
    | some c=>simp only[hg]at h;exact arrcase hv (by rw[hk'];rfl) hg h
   | tarr k' o' e t len acs=>
    simp only[hk']at h
    cases hg:ER acs off n with
    | none=>simp[hg]at h
    | some c=>simp only[hg]at h;exact arrcase hv (by rw[hk'];rfl) hg h
  ·simp at h
 | rptr fl rcs off=>
  simp only[SL]at h
  split at h
  ·rename_i h1
   cases hg:ER rcs off n with
   | none=>simp[hg]at h
   | some c=>
    simp only[hg]at h
    cases h
    obtain⟨hle,rfl⟩:=PU hg
    cases hv with
    | rptr h1' hr=>
     cases hr with
     | @rptr _ _ _ b o vs hvl hP hmem hc=>
      refine⟨b,o,off,vs,rfl,hmem,by omega,by simp;omega,?_⟩
      intro i v x hv hx
      simp only[List.getElem?_map]at hv
      rw[EH]at hv
      split at hv
      ·cases hv':rcs[off+i]? with
       | none=>simp[hv']at hv
       | some u=>
        simp[hv']at hv
        subst hv
        exact VR.AsB h1 (hc (off+i) u x hv' hx)
      ·simp at hv
  ·cases h
 | _=>simp[SL]at h
end
end Go.Eng
namespace Go.Eng
def vq:Value->Value->Bool
 | .bool a,.bool b=>a==b
 | .int k a,.int k' b=>k==k'&&a==b
 | .string a,.string b=>a.data.toList==b.data.toList
 | .pointer none,.pointer none=>true
 | .nilIface,.nilIface=>true
 | .slice none 0 0,.slice none 0 0=>true
 | _,_=>false
theorem Apv {a b:Value} (h:vq a b=true):a=b/\a.oneCell' =true:=by
 unfold vq at h
 split at h
 ·simp at h;subst h;exact⟨rfl,rfl⟩
 ·simp at h;obtain⟨rfl,rfl⟩:=h;exact⟨rfl,rfl⟩
 ·rename_i a b
  simp at h
  have:a=b:=by cases a;cases b;simp_all
  subst this;exact⟨rfl,rfl⟩
 ·exact⟨rfl,rfl⟩
 ·exact⟨rfl,rfl⟩
 ·exact⟨rfl,rfl⟩
 ·cases h
def cV (Ae:Nat->Option FuncId):V->Value->Bool
 | .sc v,x=>vq v x
 | .nil _,.slice none 0 0=>true
 | .sl fl _ 0 [],.slice none 0 0=>fl==1
 | .fn g [],.func (.func f) a b=>Ae g==some f&&a.isEmpty&&b.isEmpty
 | .undef,_=>true
 | _,_=>false
def cVs (Ae:Nat->Option FuncId):List V->List Value->Bool
 | [],[]=>true
 | v::r,x::s=>cV Ae v x&&cVs Ae r s
 | _,_=>false
def Value.one (x:Value):Bool:=x.oneCell'
def AbF (P:Program) (t:TypeId):Option Bool:=
 match P.underlying t with
 | some (.struct _)=>some true
 | some (.array _ _)=>some true
 | some _=>some false
 | none=>none
def szB (P:Program) (t:TypeId):Option Nat:=(P.info? t).map (·.size)
def nB (P:Program) (t:TypeId) (n:Option Nat):Bool:=
 match n with
 | none=>AbF P t==some false
 | some n=>AbF P t==some true&&szB P t==some n
def slB (P:Program) (t:TypeId) (e:Nat):Bool:=
 match P.underlying t with
 | some (.slice et)=>szB P et==some e&&e !=0
 | _=>false
section
variable {P:Program} {F:Fr} {β:Nat->Base} {own:Nat->Option (Nat×List Nat)} {H:Hp} {w w':World}
theorem Ams {v:V} {x:Value} (h:cV F.Ae v x=true):VR F β own H w v x:=by
 unfold cV at h
 split at h
 ·obtain⟨rfl,h1⟩:=Apv h;exact .sc h1
 ·exact .nil _
 ·simp at h;subst h
  exact .rd (Nat.le_refl 1) (.sl (Nat.le_refl 0) (by simp) (vs:=[]) rfl (.inl rfl) (by simp))
 ·rename_i g f a b
  simp at h
  obtain⟨⟨h1,h2⟩,h3⟩:=h
  subst h2;subst h3
  exact .fn (vs:=[]) h1 rfl (by simp)
 ·exact .undef
 ·cases h
theorem Aqf {vs:List V} {xs:List Value} (h:cVs F.Ae vs xs=true):
 xs.length=vs.length/\∀(i:Nat) (v:V) (x:Value),vs[i]? =some v->xs[i]? =some x->VR F β own H w v x:=by
 induction vs generalizing xs with
 | nil=>cases xs<;>simp_all[cVs]
 | cons v r ih=>
  cases xs with
  | nil=>simp[cVs]at h
  | cons x s=>
   simp[cVs]at h
   obtain⟨h1,h2⟩:=ih h.2
   refine⟨by simp[h1],?_⟩
   intro i v' x' hv hx
   cases i with
   | zero=>simp at hv hx;subst hv;subst hx;exact Ams h.1
   | succ i=>exact h2 i v' x' (by simpa using hv) (by simpa using hx)
theorem LC {t:TypeId} {b:Bool} (h:AbF P t=some b):(isAgg t).run P w= .ok b w:=by
 unfold AbF at h
 unfold isAgg
 cases hd:P.underlying t with
 | none=>simp[hd]at h
 | some d=>
  rw[Sem.run_bind,run_underlying hd]
  cases d<;>simp_all
theorem Et {t:TypeId} {n:Nat} (h:szB P t=some n):(sizeOf t).run P w= .ok n w:=by
 unfold szB at h
 cases hi:P.info? t with
 | none=>simp[hi]at h
 | some i=>
  simp[hi]at h
  unfold sizeOf typeInfo
  simp[hi,h]
theorem NS {t:TypeId} {e:Nat} (h:slB P t e=true):∃et,P.underlying t=some (.slice et)/\szB P et=some e/\0<e:=by
 unfold slB at h
 split at h
 ·rename_i et he;simp at h;exact⟨et,he,h.1,by omega⟩
 ·cases h
theorem AjB (inv:Inv F β own H w) {Hm:Hp} (hm:∀k,Hm k=H k∨Hm k= .dead) {t:TypeId} {n:Option Nat} (hn:nB P t n=true) {a:Value} {va v:V}
 (ha:VR F β own H w va a) (h:X4 F.bor Hm n va=some v):
 ∃x,(Instr.loadAt t a).run P w= .ok x w/\VR F β own H w v x:=by
 cases n with
 | none=>
  simp only[nB,beq_iff_eq]at hn
  simp only[X4]at h
  split at h
  ·rename_i u hl
   cases h
   obtain⟨b,o,off,vs,rfl,hr,hle,hlen,hc⟩:=AbM inv hm ha hl
   obtain⟨y,hy⟩:∃y,vs[off]? =some y:=⟨vs[off],by simp⟩
   refine⟨y,?_,hc 0 _ y (by simp) (by simpa using hy)⟩
   simp only[Instr.loadAt,Instr.sureAddr,Sem.run_bind,Sem.run_pure,Result.andThen_ok,loadVar,LC hn,Bool.false_eq_true,if_false]
   exact Am7 hr hy
  ·cases h
 | some m=>
  simp only[nB,Bool.and_eq_true,beq_iff_eq]at hn
  simp only[X4]at h
  cases hl:SL F.bor Hm m va with
  | none=>simp[hl]at h
  | some cs=>
   simp[hl]at h
   subst h
   obtain⟨b,o,off,vs,rfl,hr,hle,hlen,hc⟩:=AbM inv hm ha hl
   refine⟨.agg ((vs.drop off).take m).toArray,?_,.agg (AaC hr.1 off m) (by simp[hlen];omega) ?_⟩
   ·simp only[Instr.loadAt,Instr.sureAddr,Sem.run_bind,Sem.run_pure,Result.andThen_ok,loadVar,LC hn.1,if_true,Et hn.2,AgO hr hle]
   ·intro i v x hv hx
    rw[EH]at hx
    split at hx
    ·exact hc i v x hv hx
    ·cases hx
def Ad6 (P:Program) (s:TypeId) (f off:Nat):Bool:=
 match P.underlying s with
 | some (.struct fs)=>match fs[f]? with
  | some fd=>fd.offset==off&&(match szB P fd.type with | some (_+1)=>true | _=>false)
  | none=>false
 | _=>false
theorem Qw {s:TypeId} {f off:Nat} (hf:Ad6 P s f off=true) (b o:Nat):
 (Instr.fieldAt s (.pointer (some ⟨b,o,none⟩)) f).run P w= .ok (.pointer (some ⟨b,o+off,none⟩)) w:=by
 unfold Ad6 at hf
 cases hu:P.underlying s with
 | none=>simp[hu]at hf
 | some d=>
  cases d with
  | struct fs=>
   simp only[hu]at hf
   cases hfd:fs[f]? with
   | none=>simp[hfd]at hf
   | some fd=>
    simp only[hfd,Bool.and_eq_true,beq_iff_eq]at hf
    obtain⟨h1,h2⟩:=hf
    cases hs:szB P fd.type with
    | none=>simp[hs]at h2
    | some n=>
     cases n with
     | zero=>simp[hs]at h2
     | succ n=>
      subst h1
      simp only[Instr.fieldAt,Sem.run_bind,run_underlying hu,Result.andThen_ok,hfd,Instr.sureAddr,Sem.run_pure,fieldPlace,Et hs,Nat.succ_ne_zero,
       if_false,Sem.run_ite,JI]
  | _=>simp[hu]at hf
theorem AeX {s:TypeId} {f off:Nat} (hf:Ad6 P s f off=true) {a:Value} {va v:V} (ha:VR F β own H w va a)
 (h:OH va off=some v):∃x,(Instr.fieldAt s a f).run P w= .ok x w/\VR F β own H w v x:=by
 cases va with
 | ptr k o=>
  cases h
  cases ha with
  | goneP hd=>exact⟨_,Qw hf _ _,.goneP hd⟩
  | ptr hk hb=>exact⟨_,Qw hf _ _,by rw[Nat.add_assoc];exact .ptr hk hb⟩
 | rptr fl cs o=>
  cases h
  cases ha with
  | rptr h1 hr=>
   cases hr with
   | rptr hv hP hmem hc=>exact⟨_,Qw hf _ _,.rptr h1 (by rw[Nat.add_assoc];exact .rptr hv hP hmem hc)⟩
 | _=>cases h
theorem Ao9 {a:Value} {va v:V} (ha:VR F β own H w va a) (h:OH va 0=some v):(∃ad,a= .pointer (some ad))/\VR F β own H w v a:=by
 cases va with
 | ptr k o=>
  cases h
  cases ha with
  | goneP hd=>exact⟨⟨_,rfl⟩,.goneP hd⟩
  | ptr hk hb=>exact⟨⟨_,rfl⟩,.ptr hk hb⟩
 | rptr fl cs o=>
  cases h
  cases ha with
  | rptr h1 hr=>
   cases hr with
   | rptr hv hP hmem hc=>exact⟨⟨_,rfl⟩,.rptr h1 (.rptr hv hP hmem hc)⟩
 | _=>cases h
theorem Hz (inv:Inv F β own H w) {k e t len:Nat} {cs:List V} (h:Ac (H k)=some (e,t,len,cs)):AR F own w k (β k) e t len cs:=by
 have:=inv.objs k
 cases hk':H k<;>rw[hk']at h this<;>simp[Ac]at h
 ·obtain⟨rfl,rfl,rfl,rfl⟩:=h;exact this
 ·obtain⟨rfl,rfl,rfl,rfl⟩:=h;exact this.1
theorem Fe {Hm:Hp} (hm:∀k,Hm k=H k∨Hm k= .dead) {k:Nat} {r:Nat×Nat×Nat×List V} (h:Ac (Hm k)=some r):Ac (H k)=some r:=by
 rcases hm k with h1 | h1
 ·rw[<-h1];exact h
 ·rw[h1]at h;simp[Ac]at h
theorem run_indexAt_slice {t:TypeId} {e:Nat} (ht:slB P t e=true) {b o len cap:Nat} {k:IntKind} {i:Int} (h0:0<=i) (h1:i<len):
 (Instr.indexAt t (.slice (some ⟨b,o,none⟩) len cap) (.int k i)).run P w= .ok (.pointer (some ⟨b,o+i.toNat*e,none⟩)) w:=by
 obtain⟨et,hu,hs,_⟩:=NS ht
 simp only[Instr.indexAt,asIntOf,Sem.run_bind,Sem.run_pure,Result.andThen_ok,run_underlying hu,h0,h1,and_self,if_true,Sem.run_ite,Et hs,JI]
theorem EZ {k:Nat} {x:Value} (h:VR F β own H w (.arr k) x) {e t len:Nat} {cs:List V} (hk:Ac (H k)=some (e,t,len,cs)):
 x= .slice (β k).a len (β k).cap:=by
 cases h with
 | goneA h1=>rw[h1]at hk;simp[Ac]at hk
 | arr h1=>rw[h1]at hk;cases hk;rfl
theorem Jm {k off len:Nat} {x:Value} (h:VR F β own H w (.sub k off len) x) {e t n:Nat} {cs:List V} (hk:Ac (H k)=some (e,t,n,cs)):
 off+len<=n/\Anc (β k).a (β k).cap off e len x:=by
 cases h with
 | goneS h1=>rw[h1]at hk;simp[Ac]at hk
 | sub h1 h2 h3=>rw[h1]at hk;cases hk;exact⟨h2,h3⟩
theorem RX {v:V} {x:Value} {i:Int} (h:VR F β own H w v x) (hi:Yp v=some i):∃k,x= .int k i:=by
 cases v with
 | sc y=>cases y<;>simp[Yp]at hi;subst hi;cases h;exact⟨_,rfl⟩
 | _=>simp[Yp]at hi
theorem Afe (inv:Inv F β own H w) {Hm:Hp} (hm:∀k,Hm k=H k∨Hm k= .dead) {t:TypeId} {e:Nat} (ht:slB P t e=true) {a ix:Value} {va vi v:V} {i:Int}
 (ha:VR F β own H w va a) (hi:VR F β own H w vi ix) (hii:Yp vi=some i) (h:Gu Hm e va i=some v):
 ∃x,(Instr.indexAt t a ix).run P w= .ok x w/\VR F β own H w v x:=by
 obtain⟨_,_,_,he0⟩:=NS ht
 obtain⟨ik,rfl⟩:=RX hi hii
 cases va with
 | sl fl e' len cs=>
  simp only[Gu]at h
  split at h
  ·rename_i hc
   obtain⟨rfl,h0,h1,hfl⟩:=hc
   cases h
   cases ha with
   | rd hfl' hr=>
    cases hr with
    | @sl _ _ _ _ a cap vs hl hw' hv hmm hcc=>
     rcases hmm with hmm | ⟨b,o,rfl,hP,hrd⟩
     ·subst hmm
      have:len*e' =0:=by simpa using hw'.symm
      rcases Nat.mul_eq_zero.1 this with h8 | h8<;>omega
     ·exact⟨_,run_indexAt_slice ht h0 h1,.rptr hfl (.rptr hv hP hrd hcc)⟩
  ·cases h
 | arr k=>
  simp only[Gu]at h
  cases hk:Ac (Hm k)with
  | none=>simp[hk]at h
  | some r=>
   obtain⟨e',t',len,cs⟩:=r
   simp only[hk]at h
   split at h
   ·rename_i hc
    obtain⟨rfl,h0,h1⟩:=hc
    cases h
    have hk':=Fe hm hk
    rw[EZ ha hk']
    obtain⟨vs,g1,g2,g3,g4,g5⟩:=Hz inv hk'
    rcases g4 with g4 | ⟨b,o,gb,go,gr⟩
    ·rcases Nat.mul_eq_zero.1 g4 with g4 | g4<;>omega
    ·rw[gb]
     exact⟨_,run_indexAt_slice ht h0 h1,.ptr (.inl (EA.2 ⟨_,_,_,_,hk'⟩)) gb⟩
   ·cases h
 | sub k off len=>
  simp only[Gu]at h
  cases hk:Ac (Hm k)with
  | none=>simp[hk]at h
  | some r=>
   obtain⟨e',t',n,cs⟩:=r
   simp only[hk]at h
   split at h
   ·rename_i hc
    obtain⟨rfl,h0,h1⟩:=hc
    cases h
    have hk':=Fe hm hk
    obtain⟨hn,a',rfl,hx1,hx2⟩:=Jm ha hk'
    obtain⟨vs,g1,g2,g3,g4,g5⟩:=Hz inv hk'
    rcases g4 with g4 | ⟨b,o,gb,go,gr⟩
    ·rcases Nat.mul_eq_zero.1 g4 with g4 | g4<;>omega
    ·rcases hx2 with hx2 | hx2
     ·omega
     ·subst hx2
      rw[gb]
      simp only[Option.map_some,JI]
      refine⟨_,run_indexAt_slice ht h0 h1,?_⟩
      rw[show o+off*e'+i.toNat*e' =o+(off+i.toNat)*e' by rw[Nat.add_mul];omega]
      exact .ptr (.inl (EA.2 ⟨_,_,_,_,hk'⟩)) gb
   ·cases h
 | _=>simp[Gu]at h
theorem Aqc {Hm:Hp} (hm:∀k,Hm k=H k∨Hm k= .dead) {ts:Array TypeId} {t ty:TypeId} (h0:ts[0]? =some t) {a:Value} {va:V} {n:Nat}
 (ht:(P.underlying t=some .string)∨∃e,P.underlying t=some (.slice e)) (ha:VR F β own H w va a) (h:AcM Hm va=some n)
 (hs:(∃s,va= .sc (.string s))↔P.underlying t=some .string):
 (Builtin.len_ ts ty #[a]).run P w= .ok (.int .i64 n) w:=by
 have hsl:∀(ad:Option Addr) (l c:Nat),(¬∃s,va= .sc (.string s))->(Builtin.len_ ts ty #[.slice ad l c]).run P w= .ok (.int .i64 l) w:=by
  intro ad l c hns
  rcases ht with ht | ⟨e,ht⟩
  ·exact absurd (hs.2 ht) hns
  ·simp[Builtin.len_,h0,run_underlying ht,goInt]
 cases va with
 | sc v=>
  cases v with
  | string s=>
   simp[AcM]at h
   subst h
   cases ha
   simp[Builtin.len_,h0,run_underlying (hs.1 ⟨s,rfl⟩),goInt]
  | _=>simp[AcM]at h
 | nil e=>simp[AcM]at h;subst h;cases ha;exact hsl _ _ _ (by simp)
 | sl fl e len cs=>
  simp only[AcM]at h
  split at h
  ·cases h
  ·cases h
   cases ha with
   | rd h1 hr=>cases hr with | sl hl hw' hv hmm hcc=>exact hsl _ _ _ (by simp)
 | arr k=>
  simp only[AcM]at h
  cases hk:Ac (Hm k)with
  | none=>simp[hk]at h
  | some r=>
   obtain⟨e',t',len,cs⟩:=r
   simp[hk]at h;subst h
   rw[EZ ha (Fe hm hk)]
   exact hsl _ _ _ (by simp)
 | sub k off len=>
  simp only[AcM]at h
  cases hk:Ac (Hm k)with
  | none=>simp[hk]at h
  | some r=>
   obtain⟨e',t',n',cs⟩:=r
   simp[hk]at h;subst h
   obtain⟨hn,a',rfl,hx1,hx2⟩:=Jm ha (Fe hm hk)
   exact hsl _ _ _ (by simp)
 | _=>simp[AcM]at h
end
end Go.Eng
