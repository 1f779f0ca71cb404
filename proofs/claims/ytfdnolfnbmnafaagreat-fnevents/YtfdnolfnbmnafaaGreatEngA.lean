/- Own work: part 1 of the proof of FnEvents. -/
import Derived.Orders
import Derived.Laws.Sem
import Derived.Laws.World
set_option linter.unusedSimpArgs false
set_option linter.unusedVariables false
namespace Go.Eng
inductive V where
 | sc (v:Value)
 | nil (e:Nat)
 | sl (fl e len:Nat) (cells:List V)
 | arr (k:Nat)
 | sub (k off len:Nat)
 | ptr (k off:Nat)
 | rptr (fl:Nat) (cells:List V) (off:Nat)
 | fn (g:Nat) (caps:List V)
 | agg (cs:List V)
 | tup (vs:List V)
 | undef
 deriving Inhabited
inductive O where
 | free
 | dead
 | var (cs:List V)
 | arr (e t len:Nat) (cs:List V)
 | tarr (k off:Nat) (e t len:Nat) (cs:List V)
 deriving Inhabited
structure Base where
 a:Option Addr
 cap:Nat
 deriving Inhabited
def GY (vs:List Value):Prop:=∀x,x∈vs→x.oneCell' =true
def Has (w:World) (b o:Nat) (vs:List Value) (n:Nat):Prop:=
 GY vs∧∃c et,w.heap[b]? =some (.cells c et (0,0))∧o+n≤c.size∧vs.length≤n∧∀i,i<vs.length→c[o+i]? =vs[i]?
def Rds (w:World) (b o:Nat) (vs:List Value):Prop:=
 GY vs∧∀i,i<vs.length→w.cell? ⟨b,o+i,none⟩=vs[i]?
theorem EF {w:World} {b o n:Nat} {vs:List Value} (h:Has w b o vs n):Rds w b o vs:=by
 obtain⟨h1,c,et,hb,_,_,hc⟩:=h
 refine⟨h1,?_⟩
 intro i hi
 simp only[World.cell?,hb]
 simpa using hc i hi
theorem IE {w w':World} {b o n:Nat} {vs:List Value} (h:Has w b o vs n) (e:w'.heap[b]? =w.heap[b]?):Has w' b o vs n:=by
 obtain⟨h1,c,et,hb,r⟩:=h
 exact⟨h1,c,et,e.trans hb,r⟩
theorem Abd {w w':World} {b o:Nat} {vs:List Value} (h:Rds w b o vs) (e:w'.heap[b]? =w.heap[b]?):Rds w' b o vs:=by
 refine⟨h.1,fun i hi=> ?_⟩
 rw[←h.2 i hi]
 simp only[World.cell?,e]
theorem Sj {w:World} {b o n:Nat} {vs:List Value} (h:Has w b o vs n):b<w.heap.size:=by
 obtain⟨_,c,et,hb,_⟩:=h
 rcases Nat.lt_or_ge b w.heap.size with h | h
 ·exact h
 ·simp[Array.getElem?_eq_none h]at hb
theorem ANP {w:World} {b o:Nat} {vs:List Value} (h:Rds w b o vs) (hn:vs≠ []):b<w.heap.size:=by
 have h0:=h.2 0 (by cases vs<;>simp_all)
 rcases Nat.lt_or_ge b w.heap.size with h | h
 ·exact h
 ·simp only[World.cell?,Array.getElem?_eq_none h]at h0
  cases vs<;>simp_all
inductive Rd (Ah:Nat→Option FuncId) (w:World) (P:Nat→Prop):V→Value→Prop where
 | sc {v:Value} (h1:v.oneCell' =true):Rd Ah w P (.sc v) v
 | nil (e:Nat):Rd Ah w P (.nil e) (.slice none 0 0)
 | sl {fl e len:Nat} {cells:List V} {a:Option Addr} {cap:Nat} {vs:List Value} (hl:len≤cap) (hw:cells.length=len*e) (hv:vs.length=cells.length)
  (hm:cells=[]∨∃b o,a=some ⟨b,o,none⟩∧P b∧Rds w b o vs)
  (hc:∀(i:Nat) (v:V) (x:Value),cells[i]? =some v→vs[i]? =some x→Rd Ah w P v x):Rd Ah w P (.sl fl e len cells) (.slice a len cap)
 | rptr {fl:Nat} {cells:List V} {off b o:Nat} {vs:List Value} (hv:vs.length=cells.length) (hP:P b) (hm:Rds w b o vs)
  (hc:∀(i:Nat) (v:V) (x:Value),cells[i]? =some v→vs[i]? =some x→Rd Ah w P v x):Rd Ah w P (.rptr fl cells off) (.pointer (some ⟨b,o+off,none⟩))
 | fn {g:Nat} {caps:List V} {f:FuncId} {vs:List Value} (hf:Ah g=some f) (hv:vs.length=caps.length)
  (hc:∀(i:Nat) (v:V) (x:Value),caps[i]? =some v→vs[i]? =some x→Rd Ah w P v x):Rd Ah w P (.fn g caps) (.func (.func f) #[] vs.toArray)
 | agg {cs:List V} {vs:List Value} (h1:GY vs) (hv:vs.length=cs.length)
  (hc:∀(i:Nat) (v:V) (x:Value),cs[i]? =some v→vs[i]? =some x→Rd Ah w P v x):Rd Ah w P (.agg cs) (.agg vs.toArray)
 | tup {cs:List V} {vs:List Value} (hv:vs.length=cs.length)
  (hc:∀(i:Nat) (v:V) (x:Value),cs[i]? =some v→vs[i]? =some x→Rd Ah w P v x):Rd Ah w P (.tup cs) (.tuple vs.toArray)
 | undef {x:Value}:Rd Ah w P .undef x
theorem Rd.move {Ah:Nat→Option FuncId} {w w':World} {P P':Nat→Prop} {v:V} {x:Value} (h:Rd Ah w P v x)
 (hP:∀b,P b→P' b) (hw:∀b,P b→w'.heap[b]? =w.heap[b]?):Rd Ah w' P' v x:=by
 induction h with
 | sc h1=>exact .sc h1
 | nil e=>exact .nil e
 | sl hl hn hv hm hc ih=>
  refine .sl hl hn hv ?_ ih
  rcases hm with hm | ⟨b,o,ha,hb,hr⟩
  ·exact .inl hm
  ·exact .inr ⟨b,o,ha,hP b hb,Abd hr (hw b hb)⟩
 | rptr hv hb hm hc ih=>exact .rptr hv (hP _ hb) (Abd hm (hw _ hb)) ih
 | fn hf hv hc ih=>exact .fn hf hv ih
 | agg h1 hv hc ih=>exact .agg h1 hv ih
 | tup hv hc ih=>exact .tup hv ih
 | undef=>exact .undef
def lv:Nat→Nat
 | 0=>0
 | 3=>0
 | n=>n
inductive Ow (Ah:Nat→Option FuncId) (w:World) (own:Nat→Option (Nat×List Nat)) (S:Nat→Nat→Prop) (lim:Nat) (k:Nat):List Nat→V→Value→Prop where
 | sc {p:List Nat} {v:Value} (h1:v.oneCell' =true):Ow Ah w own S lim k p (.sc v) v
 | own {p:List Nat} {e len:Nat} {cells:List V} {a:Option Addr} {cap:Nat} {vs:List Value} (hl:len≤cap∧cap≤9223372036854775807) (hw:cells.length=len*e) (hv:vs.length=cells.length)
  (hm:cap*e=0∨∃b o,a=some ⟨b,o,none⟩∧own b=some (k,p)∧Has w b o vs (cap*e))
  (hc:∀(i:Nat) (v:V) (x:Value),cells[i]? =some v→vs[i]? =some x→Ow Ah w own S lim k (p++ [i]) v x):Ow Ah w own S lim k p (.sl 0 e len cells) (.slice a len cap)
 | ro {p:List Nat} {fl e len:Nat} {cells:List V} {x:Value} (h1:1≤fl) (h2:lv fl≤lim) (h:Rd Ah w (S fl) (.sl fl e len cells) x):Ow Ah w own S lim k p (.sl fl e len cells) x
 | ptr {p:List Nat} {cells:List V} {b o:Nat} {vs:List Value} (hv:vs.length=cells.length) (hb:own b=some (k,p)) (hm:Has w b o vs vs.length)
  (hc:∀(i:Nat) (v:V) (x:Value),cells[i]? =some v→vs[i]? =some x→Ow Ah w own S lim k (p++ [i]) v x):Ow Ah w own S lim k p (.rptr 0 cells 0) (.pointer (some ⟨b,o,none⟩))
 | rptr {p:List Nat} {fl off:Nat} {cells:List V} {x:Value} (h1:1≤fl) (h2:lv fl≤lim) (h:Rd Ah w (S fl) (.rptr fl cells off) x):Ow Ah w own S lim k p (.rptr fl cells off) x
 | fn {p:List Nat} {g:Nat} {caps:List V} {x:Value} (h2:1≤lim) (h:Rd Ah w (S 1) (.fn g caps) x):Ow Ah w own S lim k p (.fn g caps) x
 | agg {p:List Nat} {cs:List V} {vs:List Value} (h1:GY vs) (hv:vs.length=cs.length)
  (hc:∀(i:Nat) (v:V) (x:Value),cs[i]? =some v→vs[i]? =some x→Ow Ah w own S lim k (p++ [i]) v x):Ow Ah w own S lim k p (.agg cs) (.agg vs.toArray)
 | tup {p:List Nat} {cs:List V} {vs:List Value} (hv:vs.length=cs.length)
  (hc:∀(i:Nat) (v:V) (x:Value),cs[i]? =some v→vs[i]? =some x→Ow Ah w own S lim k (p++ [i]) v x):Ow Ah w own S lim k p (.tup cs) (.tuple vs.toArray)
 | undef {p:List Nat} {x:Value}:Ow Ah w own S lim k p .undef x
theorem Ow.move {Ah:Nat→Option FuncId} {w w':World} {own own':Nat→Option (Nat×List Nat)} {S S':Nat→Nat→Prop} {lim lim' k k':Nat} {p p':List Nat} {v:V} {x:Value}
 (h:Ow Ah w own S lim k p v x) (hl:lim≤lim') (hS:∀fl b,1≤fl→lv fl≤lim→S fl b→S' fl b) (hSw:∀fl b,1≤fl→lv fl≤lim→S fl b→w'.heap[b]? =w.heap[b]?)
 (ho:∀b q,own b=some (k,p++q)→own' b=some (k',p'++q)∧w'.heap[b]? =w.heap[b]?):Ow Ah w' own' S' lim' k' p' v x:=by
 induction h generalizing p' with
 | sc h1=>exact .sc h1
 | own hl' hn hv hm hc ih=>
  refine .own hl' hn hv ?_ (fun i v x hv hx=>ih i v x hv hx fun b q hb=> ?_)
  ·rcases hm with hm | ⟨b,o,ha,hb,hr⟩
   ·exact .inl hm
   ·obtain⟨h1,h2⟩:=ho b [] (by simpa using hb)
    exact .inr ⟨b,o,ha,by simpa using h1,IE hr h2⟩
  ·have:=ho b ([i]++q) (by simpa using hb)
   simpa using this
 | ro h1 h2 h=>exact .ro h1 (Nat.le_trans h2 hl) (h.move (fun b=>hS _ b h1 h2) (fun b=>hSw _ b h1 h2))
 | ptr hv hb hm hc ih=>
  obtain⟨h1,h2⟩:=ho _ [] (by simpa using hb)
  refine .ptr hv (by simpa using h1) (IE hm h2) (fun i v x hv hx=>ih i v x hv hx fun b q hb=> ?_)
  have:=ho b ([i]++q) (by simpa using hb)
  simpa using this
 | rptr h1 h2 h=>exact .rptr h1 (Nat.le_trans h2 hl) (h.move (fun b=>hS _ b h1 h2) (fun b=>hSw _ b h1 h2))
 | fn h2 h=>exact .fn (Nat.le_trans h2 hl) (h.move (fun b=>hS _ b (Nat.le_refl 1) h2) (fun b=>hSw _ b (Nat.le_refl 1) h2))
 | agg h1 hv hc ih=>
  refine .agg h1 hv (fun i v x hv hx=>ih i v x hv hx fun b q hb=> ?_)
  have:=ho b ([i]++q) (by simpa using hb)
  simpa using this
 | tup hv hc ih=>
  refine .tup hv (fun i v x hv hx=>ih i v x hv hx fun b q hb=> ?_)
  have:=ho b ([i]++q) (by simpa using hb)
  simpa using this
 | undef=>exact .undef
end Go.Eng
