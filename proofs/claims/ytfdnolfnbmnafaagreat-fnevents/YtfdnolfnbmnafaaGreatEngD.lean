/- Own work: part 4 of the proof of FnEvents. -/
import Derived.Test.YtfdnolfnbmnafaaGreatEngC
set_option linter.unusedSimpArgs false
set_option linter.unusedVariables false
namespace Go.Eng
structure Gl where
 on:Nat→Prop
 is:Nat→Option Obj
instance:CoeFun Gl (fun _=>Nat→Prop):=⟨Gl.on⟩
structure Fr where
 Ah:Nat→Option FuncId
 w0:World
 own0:Nat→Option (Nat×List Nat)
 β0:Nat→Base
 ngiven:Nat
 G:Gl
 bor:Bool
 takes:List Nat
def Fr.S (F:Fr) (w:World) (own:Nat→Option (Nat×List Nat)):Nat→Nat→Prop:=fun fl b=>
 match fl with
 | 1=>b<F.w0.heap.size∧F.own0 b=none
 | 3=>F.G b
 | _=>F.bor=true∧b<w.heap.size∧∀k,own b≠some (k,[])
def Mj:O→Bool
 | .arr .. =>true
 | .tarr .. =>true
 | _=>false
def AH5 (a:Option Addr) (cap off e len:Nat) (x:Value):Prop:=
 ∃a',x= .slice a' len (cap-off)∧off+len≤cap∧(cap-off=0∨a' =a.map (·.add (off*e)))
inductive VR (F:Fr) (β:Nat→Base) (own:Nat→Option (Nat×List Nat)) (H:Hp) (w:World):V→Value→Prop where
 | sc {v:Value} (h1:v.oneCell' =true):VR F β own H w (.sc v) v
 | nil (e:Nat):VR F β own H w (.nil e) (.slice none 0 0)
 | rd {fl e len:Nat} {cells:List V} {x:Value} (h1:1≤fl) (h:Rd F.Ah w (F.S w own fl) (.sl fl e len cells) x):VR F β own H w (.sl fl e len cells) x
 | rptr {fl off:Nat} {cells:List V} {x:Value} (h1:1≤fl) (h:Rd F.Ah w (F.S w own fl) (.rptr fl cells off) x):VR F β own H w (.rptr fl cells off) x
 | arr {k e t len:Nat} {cs:List V} (h:Al (H k)=some (e,t,len,cs)):VR F β own H w (.arr k) (.slice (β k).a len (β k).cap)
 | sub {k off e t len n:Nat} {cs:List V} {x:Value} (h:Al (H k)=some (e,t,n,cs)) (hn:off+len≤n) (hx:AH5 (β k).a (β k).cap off e len x):VR F β own H w (.sub k off len) x
 | ptr {k off b o:Nat} (h:Mj (H k)=true∨∃cs,H k= .var cs) (hb:(β k).a=some ⟨b,o,none⟩):VR F β own H w (.ptr k off) (.pointer (some ⟨b,o+off,none⟩))
 | goneA {k l c:Nat} {a:Option Addr} (h:H k= .dead):VR F β own H w (.arr k) (.slice a l c)
 | goneS {k off len l c:Nat} {a:Option Addr} (h:H k= .dead):VR F β own H w (.sub k off len) (.slice a l c)
 | goneP {k off b o:Nat} (h:H k= .dead):VR F β own H w (.ptr k off) (.pointer (some ⟨b,o,none⟩))
 | fn {g:Nat} {caps:List V} {f:FuncId} {vs:List Value} (hf:F.Ah g=some f) (hv:vs.length=caps.length)
  (hc:∀(i:Nat) (v:V) (x:Value),caps[i]? =some v→vs[i]? =some x→VR F β own H w v x):VR F β own H w (.fn g caps) (.func (.func f) #[] vs.toArray)
 | agg {cs:List V} {vs:List Value} (h1:GY vs) (hv:vs.length=cs.length)
  (hc:∀(i:Nat) (v:V) (x:Value),cs[i]? =some v→vs[i]? =some x→VR F β own H w v x):VR F β own H w (.agg cs) (.agg vs.toArray)
 | tup {cs:List V} {vs:List Value} (hv:vs.length=cs.length)
  (hc:∀(i:Nat) (v:V) (x:Value),cs[i]? =some v→vs[i]? =some x→VR F β own H w v x):VR F β own H w (.tup cs) (.tuple vs.toArray)
 | undef {x:Value}:VR F β own H w .undef x
def AR (F:Fr) (own:Nat→Option (Nat×List Nat)) (w:World) (k:Nat) (B:Base) (e t len:Nat) (cs:List V):Prop:=
 ∃vs:List Value,vs.length=cs.length∧cs.length=len*e∧(len≤B.cap∧B.cap≤9223372036854775807)∧
  (B.cap*e=0∨∃b o,B.a=some ⟨b,o,none⟩∧own b=some (k,[])∧Has w b o vs (B.cap*e))∧
  ∀(i:Nat) (v:V) (x:Value),cs[i]? =some v→vs[i]? =some x→Ow F.Ah w own (F.S w own) t k [i] v x
def OR (F:Fr) (β:Nat→Base) (own:Nat→Option (Nat×List Nat)) (H:Hp) (w:World) (k:Nat):O→Prop
 | .free=>True
 | .dead=>True
 | .var cs=>∃(b o:Nat) (vs:List Value),(β k).a=some ⟨b,o,none⟩∧own b=some (k,[])∧vs.length=cs.length∧Has w b o vs vs.length∧
  ∀(i:Nat) (v:V) (x:Value),cs[i]? =some v→vs[i]? =some x→VR F β own H w v x
 | .arr e t len cs=>AR F own w k (β k) e t len cs
 | .tarr k' off e t len cs=>AR F own w k (β k) e t len cs∧k∈F.takes∧(k'≠k∧H k'≠ .free)∧
  (Mj (H k')=true→∃b o,(β k').a=some ⟨b,o,none⟩∧own b=some (k',[])∧w.cell? ⟨b,o+off,none⟩=some (.slice (β k).a len (β k).cap))
structure Inv (F:Fr) (β:Nat→Base) (own:Nat→Option (Nat×List Nat)) (H:Hp) (w:World):Prop where
 size:F.w0.heap.size≤w.heap.size
 keep:∀b,b<F.w0.heap.size→F.own0 b=none→w.heap[b]? =F.w0.heap[b]?
 os:w.os=F.w0.os
 tape:w.tape=F.w0.tape
 output:w.output=F.w0.output
 ownb:∀b p,own b=some p→b<w.heap.size∧(b<F.w0.heap.size→F.own0 b≠none)
 glob:∀b,F.G b→b<F.w0.heap.size∧F.own0 b=none∧F.w0.heap[b]? =F.G.is b
 objs:∀k,OR F β own H w k (H k)
 given:∀k,k<F.ngiven→H k≠ .dead→β k=F.β0 k
 gfree:∀k,k<F.ngiven→H k≠ .free
theorem VR.move {F:Fr} {β β':Nat→Base} {own own':Nat→Option (Nat×List Nat)} {H H':Hp} {w w':World} {v:V} {x:Value} (h:VR F β own H w v x)
 (hS:∀fl b,1≤fl→F.S w own fl b→F.S w' own' fl b) (hw:∀fl b,1≤fl→F.S w own fl b→w'.heap[b]? =w.heap[b]?)
 (ha:∀k e t len cs,Al (H k)=some (e,t,len,cs)→H' k= .dead∨(β' k=β k∧∃t' cs',Al (H' k)=some (e,t',len,cs')))
 (hp:∀k cs,H k= .var cs→H' k= .dead∨(β' k=β k∧∃cs',H' k= .var cs'))
 (hd:∀k,H k= .dead→H' k= .dead):VR F β' own' H' w' v x:=by
 induction h with
 | sc h1=>exact .sc h1
 | nil e=>exact .nil e
 | rd h1 h=>exact .rd h1 (h.move (fun b=>hS _ b h1) (fun b=>hw _ b h1))
 | rptr h1 h=>exact .rptr h1 (h.move (fun b=>hS _ b h1) (fun b=>hw _ b h1))
 | @arr k e t len cs h=>
  rcases ha k e t len cs h with h' | ⟨hb,t',cs',h'⟩
  ·exact .goneA h'
  ·rw[←hb];exact .arr h'
 | @sub k off e t len n cs x h hn hx=>
  rcases ha k e t n cs h with h' | ⟨hb,t',cs',h'⟩
  ·obtain⟨a',rfl,_⟩:=hx;exact .goneS h'
  ·exact .sub h' hn (by rw[hb];exact hx)
 | @ptr k off b o h hb=>
  rcases h with h | ⟨cs,h⟩
  ·obtain⟨e,t,len,cs,hk⟩:∃e t len cs,Al (H k)=some (e,t,len,cs):=by
    cases hk:H k<;>simp_all[Mj,Al]
   rcases ha k e t len cs hk with h' | ⟨hb',t',cs',h'⟩
   ·exact .goneP h'
   ·refine .ptr (.inl ?_) (by rw[hb'];exact hb)
    cases hk':H' k<;>simp_all[Mj,Al]
  ·rcases hp k cs h with h' | ⟨hb',cs',h'⟩
   ·exact .goneP h'
   ·exact .ptr (.inr ⟨cs',h'⟩) (by rw[hb'];exact hb)
 | goneA h=>exact .goneA (hd _ h)
 | goneS h=>exact .goneS (hd _ h)
 | goneP h=>exact .goneP (hd _ h)
 | fn hf hv hc ih=>exact .fn hf hv ih
 | agg h1 hv hc ih=>exact .agg h1 hv ih
 | tup hv hc ih=>exact .tup hv ih
 | undef=>exact .undef
end Go.Eng
