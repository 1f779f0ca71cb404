/- Own work: part 51 of the proof of FnEvents. -/
import Derived.Test.YtfdnolfnbmnafaaGreatP50
import Derived.Shelf.Small.Bits
import Derived.Shelf.Strconv.Itoa0
import Derived.Shelf.Sort.Plain
import Derived.Shelf.Bits.Mul64
import Derived.Shelf.Slices.Turned
import Derived.Shelf.Slices.Reverse
import Derived.Ground.Names2Prog
import Derived.Shelf.Slices.Clone
import Derived.Shelf.Slices.SearchI
import Derived.Shelf.Slices.Cells
import Derived.Shelf.Slices.In.SortNone
import Derived.Ground.SlgnProg
import Derived.Shelf.SlicesE.Clone
import Derived.Shelf.Spec.SlicesInsertGrow
import Derived.Test.YtfdnolfnbmnafaaGreatProg
import Derived.KernelRfl
import Derived.LoopN
set_option linter.unusedSimpArgs false
set_option linter.unusedVariables false
namespace Go.Eng
open Go.Lib Go.RowKit Go.Sort
theorem ADv {F:Fr} {given:List O} {k e len:Nat} {cs:List V} {x:Value} (inv:Inv F F.β0 F.own0 (hp given) F.w0) (hk:hp given k= .arr e 0 len cs) (h:VR F F.β0 F.own0 (hp given) F.w0 (.arr k) x):
 ∃a cap vs,x= .slice a len cap∧(len≤cap∧cap≤9223372036854775807)∧vs.length=cs.length∧cs.length=len*e∧
  (cap*e=0∨∃b o,a=some ⟨b,o,none⟩∧F.own0 b=some (k,[])∧Has F.w0 b o vs (cap*e))∧
  ∀(i:Nat) (v:V) (x:Value),cs[i]? =some v→vs[i]? =some x→Ow F.Ah F.w0 F.own0 (F.S F.w0 F.own0) 0 k [i] v x:=by
 have ho:=inv.objs k
 rw[hk]at ho
 obtain⟨vs,h1,h2,h3,h4,h5⟩:=ho
 cases h with
 | @arr _ e' t len' cs' he=>
  rw[hk]at he
  simp only[Al,Option.some.injEq,Prod.mk.injEq]at he
  obtain⟨rfl,rfl,rfl,rfl⟩:=he
  exact⟨_,_,vs,rfl,h3,h1,h2,h4,h5⟩
 | goneA hd=>rw[hk]at hd;cases hd
def AM2 (P:Program) (k:Nat):Prop:=∀(a:Option Addr) (n cap i vb vo vc:Nat) (vs ds:List Value) (w:World),i≤n→n≤4194304→(n≤cap∧cap≤9223372036854775807)→vs.length=n*2→ds.length=2→
 (cap=0∨∃b o,a=some ⟨b,o,none⟩∧Has w b o vs (cap*2)∧b≠vb)→Has w vb vo ds (vc*2)→1≤vc→
 Calls P k #[.slice a n cap,.int .i64 i,.slice (some ⟨vb,vo,none⟩) 1 vc] w fun e w'=>∃b' o' cap',e= .returned (.slice (some ⟨b',o',none⟩) (n+1) cap')∧(n+1≤cap'∧cap'≤9223372036854775807)∧
  Has w' b' o' (vs.take (i*2)++ds++vs.drop (i*2)) (cap'*2)∧(w.heap.size≤b'∨∃o,a=some ⟨b',o,none⟩∧cap≠0)∧
  w.heap.size≤w'.heap.size∧w'.os=w.os∧w'.tape=w.tape∧w'.output=w.output∧∀b,b<w.heap.size→b≠b'→w'.heap[b]? =w.heap[b]?
def Abn (own:Nat→Option (Nat×List Nat)) (b' i:Nat):Nat→Option (Nat×List Nat):=fun b=>
 if b=b' then some (2,[])else match own b with
 | some (0,j::q)=>some (2,(if j<i*2 then j else j+2)::q)
 | some (1,j::q)=>some (2,(i*2+j)::q)
 | _=>none
theorem AHE {P:Program} {Ah:Nat→Option FuncId} {G:Gl} {g k:Nat} (hid:Ah g=some k) (hC:AM2 P k) {cs ds:List V} {n i:Nat} (hn:n≤4194304) (hi:i≤n) (hcs:cs.length=n*2) (hds:ds.length=2):
 Den P Ah G g [.arr 0,.sc (.int .i64 i),.arr 1] [.arr 2 0 n cs,.arr 2 0 1 ds] (.sl 0 2 (n+1) (cs.take (i*2)++ds++cs.drop (i*2))) [.dead,.dead]:=by
 intro id hid' F hF hG hb ht hgn inv xs hx
 rw[hid]at hid'
 cases hid'
 obtain⟨x0,r0,rfl,h1,h2⟩:=hx.Ju
 obtain⟨x1,r1,rfl,h3,h4⟩:=h2.Ju
 obtain⟨x2,r2,rfl,h5,h6⟩:=h4.Ju
 obtain rfl:=h6.PO
 obtain⟨a,cap,vs,rfl,hcap,hv1,_,hm,hel⟩:=ADv (k:=0) inv rfl h1
 obtain⟨a2,cap2,ws,rfl,hcap2,hw1,_,hm2,hel2⟩:=ADv (k:=1) inv rfl h5
 cases h3
 obtain⟨vb,vo,rfl,hvown,hvhas⟩:∃vb vo,a2=some ⟨vb,vo,none⟩∧F.own0 vb=some (1,[])∧Has F.w0 vb vo ws (cap2*2):=by
  rcases hm2 with h | h
  ·omega
  ·exact h
 have hm':cap=0∨∃b o,a=some ⟨b,o,none⟩∧Has F.w0 b o vs (cap*2)∧b≠vb:=by
  rcases hm with h | ⟨b,o,e1,e2,e3⟩
  ·exact .inl (by omega)
  ·exact .inr ⟨b,o,e1,e3,fun e=>by rw[e,hvown]at e2;cases e2⟩
 refine(hC a n cap i vb vo cap2 vs ws F.w0 hi hn hcap (by omega) (by omega) hm' hvhas hcap2.1).mono fun e w' ⟨b',o',cap',he,hcap',hhas,hpl,hsz,hos,htp,hou,hkeep⟩=> ?_
 subst he
 have hb':b' <F.w0.heap.size→F.own0 b' =some (0,[]):=by
  intro hlt
  rcases hpl with h | ⟨o,e1,e0⟩
  ·omega
  ·rcases hm with h | ⟨b,o2,e2,e3,_⟩
   ·omega
   ·rw[e2]at e1;cases e1;exact e3
 have hne:∀b k j q,F.own0 b=some (k,j::q)→b≠b'∧b<F.w0.heap.size:=by
  intro b k j q h
  have hlt:=(inv.ownb b _ h).1
  refine⟨fun e=> ?_,hlt⟩
  subst e
  rw[hb' hlt]at h
  cases h
 refine⟨Abn F.own0 b' i,⟨hsz,hos,htp,hou,fun b h1 h2=> ?_,fun b p h=> ?_,?_,by rw[hgn];rfl,fun j o hj=> ?_⟩⟩
 ·refine hkeep b h1 (fun e=> ?_)
  subst e
  rw[hb' h1]at h2;cases h2
 ·unfold Abn at h
  split at h
  ·rename_i e;subst e
   exact⟨Sj hhas,fun hlt=>by rw[hb' hlt];simp⟩
  ·split at h
   ·rename_i j q e;exact⟨Nat.lt_of_lt_of_le (inv.ownb b _ e).1 hsz,fun _=>by rw[e];simp⟩
   ·rename_i j q e;exact⟨Nat.lt_of_lt_of_le (inv.ownb b _ e).1 hsz,fun _=>by rw[e];simp⟩
   ·cases h
 ·have hng:F.ngiven=2:=by rw[hgn];rfl
  rw[hng]
  refine .own hcap' ?_ ?_ (.inr ⟨b',o',rfl,by unfold Abn;rw[if_pos rfl],hhas⟩) ?_
  ·simp[hcs,hds];omega
  ·simp[hcs,hds,hv1,hw1]
  ·intro j v x hv hx
   simp only[List.nil_append]
   have mv:∀(k j0:Nat),Ow F.Ah F.w0 F.own0 (F.S F.w0 F.own0) 0 k [j0] v x→(∀b q,F.own0 b=some (k,j0::q)→Abn F.own0 b' i b=some (2,j::q))→
    Ow F.Ah w' (Abn F.own0 b' i) (fun _ b=>F.G b) 0 2 [j] v x:=by
    intro k j0 h hl
    refine h.move (Nat.le_refl 0) (fun fl b h1 h2 h3=> ?_) (fun fl b h1 h2 h3=> ?_) (fun b q hb=> ?_)
    ·have:fl=3:=by
      match fl,h1,h2 with
      | 1,_,h2=>simp[lv]at h2
      | 2,_,h2=>simp[lv]at h2
      | 3,_,_=>rfl
      | m+4,_,h2=>simp[lv]at h2
     subst this
     exact h3
    ·have:fl=3:=by
      match fl,h1,h2 with
      | 1,_,h2=>simp[lv]at h2
      | 2,_,h2=>simp[lv]at h2
      | 3,_,_=>rfl
      | m+4,_,h2=>simp[lv]at h2
     subst this
     have hg:=inv.glob b h3
     refine hkeep b hg.1 (fun e=> ?_)
     subst e
     rw[hb' hg.1]at hg;cases hg.2.1
    ·have hb2:F.own0 b=some (k,j0::q):=hb
     have hn:=hne b k j0 q hb2
     exact⟨hl b q hb2,hkeep b hn.2 hn.1⟩
   have hlen1:(cs.take (i*2)).length=i*2:=by simp[hcs];omega
   have hlen2:(vs.take (i*2)).length=i*2:=by simp[hv1,hcs];omega
   by_cases g1:j<i*2
   ·rw[List.append_assoc,List.getElem?_append_left (by omega),List.getElem?_take,if_pos g1]at hv hx
    refine mv 0 j (hel j v x hv hx) (fun b q hb=> ?_)
    unfold Abn
    rw[if_neg (hne b _ _ q hb).1,hb]
    simp[g1]
   ·by_cases g2:j<i*2+2
    ·rw[List.append_assoc,List.getElem?_append_right (by omega),List.getElem?_append_left (by omega)]at hv hx
     rw[hlen1]at hv
     rw[hlen2]at hx
     refine mv 1 (j-i*2) (hel2 _ v x hv hx) (fun b q hb=> ?_)
     unfold Abn
     rw[if_neg (hne b _ _ q hb).1,hb]
     simp;omega
    ·rw[List.append_assoc,List.getElem?_append_right (by omega),List.getElem?_append_right (by omega),List.getElem?_drop]at hv hx
     rw[hlen1,hds]at hv
     rw[hlen2,hw1,hds]at hx
     have e:i*2+(j-i*2-2)=j-2:=by omega
     rw[e]at hv hx
     refine mv 0 (j-2) (hel _ v x hv hx) (fun b q hb=> ?_)
     unfold Abn
     rw[if_neg (hne b _ _ q hb).1,hb]
     have:¬j-2<i*2:=by omega
     simp[this];omega
 ·match j,hj with
  | 0,hj=>simp only[List.getElem?_cons_zero,Option.some.injEq]at hj;subst hj;trivial
  | 1,hj=>simp only[List.getElem?_cons_succ,List.getElem?_cons_zero,Option.some.injEq]at hj;subst hj;trivial
  | j+2,hj=>simp at hj
end Go.Eng
namespace Go.Eng.T
open Go.Lib Go.RowKit Go.Sort
theorem AyL {P:Program} {Ah:Nat→Option FuncId} {G:Gl} {g k:Nat} (hid:Ah g=some k) (hC:AM2 P k):AvV (Den P Ah G g):=by
 intro l i x hl hi
 have h:=AHE (G:=G) (g:=g) hid hC (cs:=l.flatMap Ce) (ds:=Ce x) (n:=l.length) (i:=i) hl hi (Uq l) rfl
 have e1:l.flatMap Ce=(l.take i).flatMap Ce++(l.drop i).flatMap Ce:=by rw[←List.flatMap_append,List.take_append_drop]
 have h1:((l.take i).flatMap Ce).length=i*2:=by rw[Uq];simp;omega
 have e2:(l.flatMap Ce).take (i*2)=(l.take i).flatMap Ce:=by rw[e1,List.take_left' h1]
 have e3:(l.flatMap Ce).drop (i*2)=(l.drop i).flatMap Ce:=by rw[e1,List.drop_left' h1]
 rw[e2,e3]at h
 have e4:(l.take i++x::l.drop i).flatMap Ce=(l.take i).flatMap Ce++Ce x++(l.drop i).flatMap Ce:=by simp
 rw[e4]
 exact h
theorem AFJ {P:Program} {Ah:Nat→Option FuncId} {G:Gl} {g k:Nat} {t:TypeId} (hid:Ah g=some k)
 (h0:∀w,Calls P k #[.slice none 0 0,.int .i64 0] w fun e w'=>e= .returned (.slice none 0 0)∧w' =w)
 (h1:∀(n:Nat) (w:Go.World),0<n→n≤16777216→Calls P k #[.slice none 0 0,.int .i64 n] w fun e w'=>e= .returned (.slice (some ⟨w.heap.size,0,none⟩) 0 (grownCap w n 0 t))∧
  w' =w.drew.alloc (.cells (([]:List Value).toArray++Builtin.zeroCells #[.int .i64 0] n++Builtin.zeroCells #[.int .i64 0] (grownCap w n 0 t-n)) t)):AHZ (Den P Ah G g):=by
 intro n hn
 refine AbK (given:=[]) (l':=[]) fun id hi F hF inv xs hx=> ?_
 rw[hid]at hi
 cases hi
 obtain⟨x0,r0,rfl,g1,g2⟩:=hx.Ju
 obtain⟨x1,r1,rfl,g3,g4⟩:=g2.Ju
 obtain rfl:=g4.PO
 cases g1
 cases g3
 by_cases hz:n=0
 ·subst hz
  refine(h0 F.w0).mono fun e w' ⟨he,hw⟩=>⟨none,0,he,⟨by simp,by omega⟩,.inl rfl,?_⟩
  rw[hw];exact Kept.refl F
 ·refine(h1 n F.w0 (by omega) hn).mono fun e w' ⟨he,hw⟩=> ?_
  have hgc:=V7 F.w0 n 0 t
  have hgb:=Ub F.w0 n 0 t (by omega)
  subst hw
  refine⟨_,_,he,⟨by simp,hgb⟩,.inr ⟨_,_,rfl,⟨J7 [],_,t,alloc_at F.w0.drew _,?_,by simp,fun i hi=>by simp at hi⟩,fun h=>absurd h (by omega)⟩,?_⟩
  ·simp[Builtin.zeroCells];omega
  ·exact⟨by rw[La];simp,rfl,rfl,rfl,fun b hb _=>QT F.w0.drew _ hb⟩
theorem Aqq {F:Fr} {w':Go.World} (h1:w'.heap.size=F.w0.heap.size+1) (h2:w'.os=F.w0.os) (h3:w'.tape=F.w0.tape) (h4:w'.output=F.w0.output) (h5:∀b,b<F.w0.heap.size→w'.heap[b]? =F.w0.heap[b]?):Kept F w':=
 ⟨by omega,h2,h3,h4,fun b hb _=>h5 b hb⟩
theorem Azk {P:Program} {Ah:Nat→Option FuncId} {G:Gl} {g k:Nat} {t:TypeId} (hid:Ah g=some k)
 (h0:∀(b o cap:Nat) (w:Go.World),Calls P k #[.slice (some ⟨b,o,none⟩) 1 cap,.int .i64 0] w fun e w'=>e= .returned (.slice (some ⟨w.heap.size,0,none⟩) 0 0)∧w' =w.alloc (.cells #[] t))
 (h1:∀(b o cap:Nat) (v:Int) (w:Go.World),w.cell? ⟨b,o,none⟩=some (.int .i64 v)→Calls P k #[.slice (some ⟨b,o,none⟩) 1 cap,.int .i64 1] w fun e w'=>e= .returned (.slice (some ⟨w.heap.size,0,none⟩) 1 1)∧w' =(w.alloc (.cells #[.int .i64 0] t)).setCells w.heap.size 0 [.int .i64 v])
 (h2:∀(b o cap:Nat) (v:Int) (w:Go.World),w.cell? ⟨b,o,none⟩=some (.int .i64 v)→Calls P k #[.slice (some ⟨b,o,none⟩) 1 cap,.int .i64 2] w fun e w'=>e= .returned (.slice (some ⟨w.heap.size,0,none⟩) 2 2)∧
  w' =(((w.alloc (.cells #[.int .i64 0,.int .i64 0] t)).setCells w.heap.size 0 [.int .i64 v]).drew).setCells w.heap.size 1 [.int .i64 v]):AvJ (Den P Ah G g):=by
 intro v n hn
 have hll:(List.replicate n v).length=n:=List.length_replicate
 have key:Den P Ah G g [.sl 1 1 1 (ints [v]),I n] [] (.sl 0 1 (List.replicate n v).length (ints (List.replicate n v))) []:=by
  refine AbK (given:=[]) (l':=List.replicate n v) fun id hi F hF inv xs hx=> ?_
  rw[hid]at hi
  cases hi
  obtain⟨x0,r0,rfl,g1,g2⟩:=hx.Ju
  obtain⟨x1,r1,rfl,g3,g4⟩:=g2.Ju
  obtain rfl:=g4.PO
  cases g3
  cases g1 with
  | rd _ g1=>
  obtain⟨a,cap,rfl,hle,hm⟩:=AvR (l:=[v]) g1
  rcases hm with hm | ⟨b,o,rfl,hb,hcell⟩
  ·cases hm
  have hc:=hcell 0 (by simp)
  simp only[Nat.add_zero,List.getD_cons_zero]at hc
  have off:∀(f:Array Value→Array Value) (W:Go.World) (ob:Obj),W.heap=(F.w0.alloc ob).heap→∀b,b<F.w0.heap.size→(mapBlock W F.w0.heap.size f).heap[b]? =F.w0.heap[b]? :=fun f W ob hW b hb=>by rw[T9 _ _ (by omega),hW];exact QT F.w0 ob hb
  match n,hn with
  | 0,_=>
   refine(h0 b o cap F.w0).mono fun e w' ⟨he,hw⟩=>⟨_,0,he,⟨by simp,by omega⟩,.inl rfl,?_⟩
   rw[hw]
   exact Aqq (La _ _) rfl rfl rfl (fun b hb=>QT _ _ hb)
  | 1,_=>
   refine(h1 b o cap v F.w0 hc).mono fun e w' ⟨he,hw⟩=>⟨_,1,he,⟨by simp,by omega⟩,.inr ⟨_,_,rfl,?_,fun h=>absurd h (by omega)⟩,?_⟩
   ·rw[hw,Dh]
    refine⟨J7 _,KS 0 [Value.int .i64 v] #[Value.int .i64 0],t,?_,?_,by simp,fun i hi=> ?_⟩
    ·rw[Te,alloc_at];rfl
    ·rw[Eh];simp
    ·simp at hi;subst hi;rfl
   ·rw[hw,Dh]
    exact Aqq (by rw[JO,La]) rfl rfl rfl (fun b hb=>off _ _ _ rfl b hb)
  | 2,_=>
   refine(h2 b o cap v F.w0 hc).mono fun e w' ⟨he,hw⟩=>⟨_,2,he,⟨by simp,by omega⟩,.inr ⟨_,_,rfl,?_,fun h=>absurd h (by omega)⟩,?_⟩
   ·rw[hw,Dh,Dh]
    refine⟨J7 _,KS 1 [Value.int .i64 v] (KS 0 [Value.int .i64 v] #[Value.int .i64 0,Value.int .i64 0]),t,?_,?_,by simp,fun i hi=> ?_⟩
    ·rw[Te]
     simp only[World.drew]
     rw[Te,alloc_at];rfl
    ·rw[Eh,Eh];simp
    ·simp at hi
     match i,hi with
     | 0,_=>rfl
     | 1,_=>rfl
   ·rw[hw,Dh,Dh]
    refine Aqq ?_ rfl rfl rfl (fun b hb=> ?_)
    ·rw[JO];simp only[World.drew];rw[JO,La]
    ·rw[T9 _ _ (by omega)]
     simp only[World.drew]
     exact off _ _ _ rfl b hb
 rw[hll]at key
 exact key
end Go.Eng.T
namespace Go.Proofs
open Go.Shelf
def Tryz.AzU:Go.Shelf.Ren:=⟨fun | 189=>144 | 125=>200 | 257=>199 | 128=>243 | 129=>244 | 294=>234 | 295=>235 | 296=>236 | 297=>237 | 298=>238 | 299=>239 | 216=>240 | 300=>241 | 301=>242 | 328=>273 | 329=>274 | 330=>275 | 331=>276 | 332=>277 | 215=>278 | 343=>320 | n=>n,fun | 28=>24 | 3=>3 | 46=>192 | 0=>0 | 51=>230 | 53=>232 | 4=>4 | 183=>223 | 182=>222 | 131=>227 | 5=>5 | 9=>9 | 218=>247 | 222=>251 | 228=>279 | 229=>156 | n=>n,fun | n=>n⟩
theorem Tryz.AD3:Go.Proofs.Lays.n189 Tryz.prog Tryz.AzU:={
 mixed:=by kernel_rfl
 f125:=Tryz.func200.trans (congrArg some (by kernel_rfl))
 f128:=Tryz.func243.trans (congrArg some (by kernel_rfl))
 f129:=Tryz.func244.trans (congrArg some (by kernel_rfl))
 f189:=Tryz.func144.trans (congrArg some (by kernel_rfl))
 f215:=Tryz.func278.trans (congrArg some (by kernel_rfl))
 f216:=Tryz.func240.trans (congrArg some (by kernel_rfl))
 f257:=Tryz.func199.trans (congrArg some (by kernel_rfl))
 f294:=Tryz.func234.trans (congrArg some (by kernel_rfl))
 f295:=Tryz.func235.trans (congrArg some (by kernel_rfl))
 f296:=Tryz.func236.trans (congrArg some (by kernel_rfl))
 f297:=Tryz.func237.trans (congrArg some (by kernel_rfl))
 f298:=Tryz.func238.trans (congrArg some (by kernel_rfl))
 f299:=Tryz.func239.trans (congrArg some (by kernel_rfl))
 f300:=Tryz.func241.trans (congrArg some (by kernel_rfl))
 f301:=Tryz.func242.trans (congrArg some (by kernel_rfl))
 f328:=Tryz.func273.trans (congrArg some (by kernel_rfl))
 f329:=Tryz.func274.trans (congrArg some (by kernel_rfl))
 f330:=Tryz.func275.trans (congrArg some (by kernel_rfl))
 f331:=Tryz.func276.trans (congrArg some (by kernel_rfl))
 f332:=Tryz.func277.trans (congrArg some (by kernel_rfl))
 f343:=Tryz.func320.trans (congrArg some (by kernel_rfl))
 t0:=Tryz.underlying0
 a0:=Tryz.isAgg0
 z0:=Tryz.sizeOf0
 v0:=Tryz.zeroValue0
 t3:=Tryz.underlying3
 a3:=Tryz.isAgg3
 z3:=Tryz.sizeOf3
 v3:=Tryz.zeroValue3
 t4:=Tryz.underlying4
 a4:=Tryz.isAgg4
 z4:=Tryz.sizeOf4
 v4:=Tryz.zeroValue4
 t5:=Tryz.underlying5
 a5:=Tryz.isAgg5
 z5:=Tryz.sizeOf5
 v5:=Tryz.zeroValue5
 t9:=Tryz.underlying9
 a9:=Tryz.isAgg9
 z9:=Tryz.sizeOf9
 v9:=Tryz.zeroValue9
 t28:=Tryz.underlying24
 a28:=Tryz.isAgg24
 z28:=Tryz.sizeOf24
 v28:=Tryz.zeroValue24
 t46:=Tryz.underlying192
 a46:=Tryz.isAgg192
 z46:=Tryz.sizeOf192
 v46:=Tryz.zeroValue192
 t51:=Tryz.underlying230
 a51:=Tryz.isAgg230
 z51:=Tryz.sizeOf230
 v51:=Tryz.zeroValue230
 t53:=Tryz.underlying232
 a53:=Tryz.isAgg232
 z53:=Tryz.sizeOf232
 v53:=Tryz.zeroValue232
 t131:=Tryz.underlying227
 a131:=Tryz.isAgg227
 z131:=Tryz.sizeOf227
 v131:=Tryz.zeroValue227
 t182:=Tryz.underlying222
 a182:=Tryz.isAgg222
 z182:=Tryz.sizeOf222
 v182:=Tryz.zeroValue222
 t183:=Tryz.underlying223
 a183:=Tryz.isAgg223
 z183:=Tryz.sizeOf223
 v183:=Tryz.zeroValue223
 t218:=Tryz.underlying247
 a218:=Tryz.isAgg247
 z218:=Tryz.sizeOf247
 v218:=Tryz.zeroValue247
 t222:=Tryz.underlying251
 a222:=Tryz.isAgg251
 z222:=Tryz.sizeOf251
 v222:=Tryz.zeroValue251
 t228:=Tryz.underlying279
 a228:=Tryz.isAgg279
 z228:=Tryz.sizeOf279
 v228:=Tryz.zeroValue279
 t229:=Tryz.underlying156
 a229:=Tryz.isAgg156
 z229:=Tryz.sizeOf156
 v229:=Tryz.zeroValue156}
open Go.Sort Go.RowKit in
theorem Tryz.slices_Sort_int (blk off cap:Nat) (zs:List Int) (w:World) (hH:Holds (Value.int .i64) w blk off zs.toArray) (hblk:blk<w.heap.size) (hsz:zs.length<4611686018427387904):
 Calls Tryz.prog 144 #[.slice (some ⟨blk,off,none⟩) zs.length cap] w fun e w'=>
  e= .returned (.tuple #[])∧∃n os,w' =grow (putRow (Value.int .i64) (Sort.ahead w n) blk off (zs.mergeSort fun x y=>decide (x≤y)).toArray) os:=Any.slices_Sort_int Tryz.AD3 blk off cap zs w hH hblk hsz
def Tryz.Ax7:Go.Shelf.Ren:=⟨fun | 113=>357 | n=>n,fun | 28=>24 | 3=>3 | 4=>4 | 9=>9 | 20=>20 | 0=>0 | n=>n,fun | n=>n⟩
theorem Tryz.AKI:Go.Proofs.Lays.n113 Tryz.prog Tryz.Ax7:={
 mixed:=by kernel_rfl
 f113:=Tryz.func357.trans (congrArg some (by kernel_rfl))
 t0:=Tryz.underlying0
 a0:=Tryz.isAgg0
 z0:=Tryz.sizeOf0
 v0:=Tryz.zeroValue0
 t3:=Tryz.underlying3
 a3:=Tryz.isAgg3
 z3:=Tryz.sizeOf3
 v3:=Tryz.zeroValue3
 t4:=Tryz.underlying4
 a4:=Tryz.isAgg4
 z4:=Tryz.sizeOf4
 v4:=Tryz.zeroValue4
 t9:=Tryz.underlying9
 a9:=Tryz.isAgg9
 z9:=Tryz.sizeOf9
 v9:=Tryz.zeroValue9
 t20:=Tryz.underlying20
 a20:=Tryz.isAgg20
 z20:=Tryz.sizeOf20
 v20:=Tryz.zeroValue20
 t28:=Tryz.underlying24
 a28:=Tryz.isAgg24
 z28:=Tryz.sizeOf24
 v28:=Tryz.zeroValue24}
open Go.Lib in
theorem Tryz.slices_Max_int (b off n c:Nat) (zs:List Int) (w:World) (hn:0<n) (hz:n≤zs.length) (hbig:n≤9223372036854775807) (hc:∀j,j<zs.length→w.cell? ⟨b,off+j,none⟩=some (.int .i64 (zs.getD j 0))):
 Calls Tryz.prog 357 #[.slice (some ⟨b,off,none⟩) n c] w fun e w'=>e= .returned (.int .i64 (Lib.maxOf (zs.take n)))∧w' =w:=Any.slices_Max_int Tryz.AKI b off n c zs w hn hz hbig hc
def Tryz.AT3:Go.Shelf.Ren:=⟨fun | 15=>326 | n=>n,fun | 22=>24 | 3=>3 | 4=>4 | n=>n,fun | n=>n⟩
theorem Tryz.ARP:Go.Proofs.Lays2.n15 Tryz.prog Tryz.AT3:={
 mixed:=by kernel_rfl
 f15:=Tryz.func326.trans (congrArg some (by kernel_rfl))
 t3:=Tryz.underlying3
 a3:=Tryz.isAgg3
 z3:=Tryz.sizeOf3
 v3:=Tryz.zeroValue3
 t4:=Tryz.underlying4
 a4:=Tryz.isAgg4
 z4:=Tryz.sizeOf4
 v4:=Tryz.zeroValue4
 t22:=Tryz.underlying24
 a22:=Tryz.isAgg24
 z22:=Tryz.sizeOf24
 v22:=Tryz.zeroValue24
 i3:=by kernel_rfl}
open Go.RowKit Go.Lib in
theorem Tryz.slices_Clone_int (b off n c:Nat) (zs:List Int) (w:World) (hz:n≤zs.length) (hbig:n*8≤140737488355328) (hc:∀j,j<zs.length→w.cell? ⟨b,off+j,none⟩=some (.int .i64 (zs.getD j 0))):
 Calls Tryz.prog 326 #[.slice (some ⟨b,off,none⟩) n c] w fun e w'=>∃v',e= .returned v'∧w'.ownsRow w.heap.size 3 1 v' n ((zs.take n).map (Value.int .i64))∧v'≠ .slice none 0 0∧Below w.heap.size w w':=Any.slices_Clone_int Tryz.ARP b off n c zs w hz hbig hc
open Go.RowKit Go.Lib in
theorem Tryz.slices_Clone_int_nil (n c:Nat) (w:World):
 Calls Tryz.prog 326 #[.slice none n c] w fun e w'=>e= .returned (.slice none 0 0)∧w' =w:=Any.slices_Clone_int_nil Tryz.ARP n c w
open Go.RowKit Go.Lib in
theorem Tryz.slices_Clone_int_zero (a:Addr) (c:Nat) (w:World):
 Calls Tryz.prog 326 #[.slice (some a) 0 c] w fun e w'=>∃v',e= .returned v'∧w'.ownsRow w.heap.size 3 1 v' 0 []∧v'≠ .slice none 0 0∧Below w.heap.size w w':=Any.slices_Clone_int_zero Tryz.ARP a c w
open Go.RowKit Go.Sort in
theorem Tryz.slices_Sort_int_none (p:Option Addr) (cap:Nat) (w:World):
 Calls Tryz.prog 144 #[.slice p 0 cap] w fun e w'=>e= .returned (.tuple #[])∧w' =w:=Any.slices_Sort_int_none Tryz.AD3 p cap w
def Tryz.AcP:Go.Shelf.Ren:=⟨fun | 21=>195 | 27=>232 | 28=>233 | 35=>272 | 39=>319 | n=>n,fun | 22=>24 | 3=>3 | 4=>4 | 0=>0 | n=>n,fun | n=>n⟩
theorem Tryz.AbT:Go.Proofs.Lays2.n21 Tryz.prog Tryz.AcP:={
 mixed:=by kernel_rfl
 f21:=Tryz.func195.trans (congrArg some (by kernel_rfl))
 f27:=Tryz.func232.trans (congrArg some (by kernel_rfl))
 f28:=Tryz.func233.trans (congrArg some (by kernel_rfl))
 f35:=Tryz.func272.trans (congrArg some (by kernel_rfl))
 f39:=Tryz.func319.trans (congrArg some (by kernel_rfl))
 t0:=Tryz.underlying0
 a0:=Tryz.isAgg0
 z0:=Tryz.sizeOf0
 v0:=Tryz.zeroValue0
 t3:=Tryz.underlying3
 a3:=Tryz.isAgg3
 z3:=Tryz.sizeOf3
 v3:=Tryz.zeroValue3
 t4:=Tryz.underlying4
 a4:=Tryz.isAgg4
 z4:=Tryz.sizeOf4
 v4:=Tryz.zeroValue4
 t22:=Tryz.underlying24
 a22:=Tryz.isAgg24
 z22:=Tryz.sizeOf24
 v22:=Tryz.zeroValue24
 i3:=by kernel_rfl}
end Go.Proofs
namespace Go.Eng.Ins
open Go Go.Proofs Go.Shelf Go.RowKit Go.Lib Go.Sort Go.Eng
set_option maxRecDepth 100000
theorem inf:∃i:TypeInfo,Tryz.prog.info? 218=some i∧i.size=2∧i.bytes=32∧i.zero=some (.agg #[.int .i64 0,.slice none 0 0]):=by
 have h:(Tryz.prog.info? 218).isSome=true:=by kernel_rfl
 obtain⟨i,hi⟩:=Option.isSome_iff_exists.1 h
 have h1:(Tryz.prog.info? 218).map (·.size)=some 2:=by kernel_rfl
 have h2:(Tryz.prog.info? 218).map (·.bytes)=some 32:=by kernel_rfl
 have h3:(Tryz.prog.info? 218).bind (·.zero)=some (.agg #[.int .i64 0,.slice none 0 0]):=by kernel_rfl
 rw[hi]at h1 h2 h3
 simp only[Option.map_some,Option.some.injEq,Option.bind_some]at h1 h2 h3
 exact⟨i,hi,h1,h2,h3⟩
theorem IC {P:Program} (w:World) (dT sT ty elem:TypeId) (s:Nat) (b o dLen dCap:Nat) (a:Addr) (sLen sCap:Nat) (cs:List Value)
 (hu:P.underlying dT=some (.slice elem)) (hs:(P.info? elem).map (·.size)=some s) (hn:cs.length=Nat.min sLen dLen*s)
 (hsrc:∀j v,cs[j]? =some v→w.cell? (a.add j)=some v) (hc:∀j,j<cs.length→(w.cell? ⟨b,o+j,none⟩).isSome=true) (hf:∀j,j<cs.length→w.frozen? ⟨b,o+j,none⟩=false) (h1:∀v∈cs,v.oneCell' =true):
 (Builtin.copy_ #[dT,sT] ty #[.slice (some ⟨b,o,none⟩) dLen dCap,.slice (some a) sLen sCap]).run P w= .ok (goInt (Nat.min sLen dLen)) (w.setCells b o cs):=by
 have hl:=run_loadCells_list (P:=P) w a cs hsrc
 have hst:=run_storeCells_cells (P:=P) b o cs 0 w (by simpa using hc) (by simpa using hf) h1
 cases hq:P.info? elem with
 | none=>simp[hq]at hs
 | some i=>
  have hi:i.size=s:=by simpa[hq]using hs
  rw[hn]at hl
  simp[Builtin.copy_,run_underlying hu,Builtin.lenOf,Builtin.firstCells,sizeOf,typeInfo,hq,hi,hl,hst]
set_option maxHeartbeats 4000000 in
theorem AFY (b off n c i vb voff vc:Nat) (cs vs:List Value) (w:World) (hi:i<n) (hroom:n+1≤c) (hc63:c≤9223372036854775807) (hvb:vb≠b)
 (hcl:cs.length=n*2) (hvl:vs.length=2)
 (hcs:∀j v,cs[j]? =some v→w.cell? ⟨b,off+j,none⟩=some v) (hsp:∀j,j<(n+1)*2→(w.cell? ⟨b,off+j,none⟩).isSome=true) (hfz:∀j,j<(n+1)*2→w.frozen? ⟨b,off+j,none⟩=false)
 (hvs:∀j v,vs[j]? =some v→w.cell? ⟨vb,voff+j,none⟩=some v) (h1c:∀v∈cs,v.oneCell' =true) (h1v:∀v∈vs,v.oneCell' =true)
 (tA tB:TypeId) (kA kB:Nat) (hsa:w.shape? vb=some (tA,kA)) (hsb:w.shape? b=some (tB,kB)) (hkB:kB≠0) (hfa:w.frozen? ⟨vb,voff,none⟩=false) (hfe:w.frozen? ⟨vb,kA,none⟩=false):
 Calls Tryz.prog 265 #[.slice (some ⟨b,off,none⟩) n c,.int .i64 i,.slice (some ⟨vb,voff,none⟩) 1 vc] w fun e w'=>
  e= .returned (.slice (some ⟨b,off,none⟩) (n+1) c)∧w' =(w.drew.setCells b (off+(i+1)*2) (cs.drop (i*2))).setCells b (off+i*2) vs:=by
 have hz1:¬((1:Int)=0):=by omega
 have hz2:¬((i:Int)=(n:Int)):=by omega
 obtain⟨i0,hi0,hs0,hb0,hz0⟩:=inf
 have hsz:(Tryz.prog.info? 218).map (·.size)=some 2:=by rw[hi0];simp[hs0]
 have hso:∀w,(Go.sizeOf 218).run Tryz.prog w= .ok 2 w:=fun w=>by simp[Go.sizeOf,typeInfo,hi0,hs0]
 have hov:∀lb cb,(callFunc 300 #[.slice (some ⟨vb,voff,none⟩) 1 vc,.slice (some ⟨b,off+(i+1)*2,none⟩) lb cb]).run Tryz.prog w= .ok (.value (.bool false)) w:=fun lb cb=>by
  rw[run_callFunc_extern Tryz.func300 (by kernel_rfl) (by kernel_rfl) (by kernel_rfl) (e:=Extern.SlicesOverlaps.overlaps #[194,194] #[4]) (by kernel_rfl),
   Lib.run_overlaps_apart w 194 4 218 Tryz.underlying194 2 hso ⟨vb,voff,none⟩ ⟨b,off+(i+1)*2,none⟩ 1 vc lb cb hvb tA tB kA kB hsa hsb hkB hfa hfe]
  rfl
 have hdl:(cs.drop (i*2)).length=(n-i)*2:=by rw[List.length_drop,hcl];omega
 have hw1:IntKind.i64.wrap ((i:Int)+1)=(i:Int)+1:=by rw[IntKind.wrap_i64];omega
 have hb1:(0:Int)≤(i:Int)+1:=by omega
 have hin:i≤n:=by omega
 have htn:((i:Int)+1).toNat=i+1:=by omega
 have hb2:¬(c=i+1):=by omega
 have hb3:(i:Int)≤(n:Int)+1:=by omega
 have hb4:¬(c=i):=by omega
 have hb5:(i:Int)≤((n+1:Nat):Int):=by omega
 have mixed:Tryz.prog.follows .mixedOrders=true:=by kernel_rfl
 have hcp1:∀ty dc sc,(Builtin.copy_ #[194,194] ty #[.slice (some ⟨b,off+(i+1)*2,none⟩) (n-i) dc,.slice (some ⟨b,off+i*2,none⟩) (n+1-i) sc]).run Tryz.prog w.drew= .ok (goInt ((n-i:Nat):Int)) (w.drew.setCells b (off+(i+1)*2) (cs.drop (i*2))):=fun ty dc sc=>by
  have hmin:Nat.min (n+1-i) (n-i)=n-i:=by simp only[Nat.min_def];split<;>omega
  have:=IC (P:=Tryz.prog) w.drew 194 194 ty 218 2 b (off+(i+1)*2) (n-i) dc ⟨b,off+i*2,none⟩ (n+1-i) sc (cs.drop (i*2)) Tryz.underlying194 hsz (by rw[hdl,hmin])
   (fun j v hj=>by rw[Addr.add_lit,Nat.add_assoc];exact hcs (i*2+j) v (by rwa [List.getElem?_drop]at hj))
   (fun j hj=>by rw[Nat.add_assoc];exact hsp _ (by omega)) (fun j hj=>by rw[Nat.add_assoc];exact hfz _ (by omega)) (fun v hv=>h1c v (List.mem_of_mem_drop hv))
  rw[hmin]at this
  exact this
 obtain⟨W1,hW1⟩:∃W1,W1=w.drew.setCells b (off+(i+1)*2) (cs.drop (i*2)):=⟨_,rfl⟩
 have hsp1:∀k,k<(n+1)*2→(W1.cell? ⟨b,off+k,none⟩).isSome=true:=fun k hk=>by
  rw[hW1]
  exact isSome_setCells b _ _ _ (fun j hj=>by rw[Nat.add_assoc];exact hsp _ (by omega)) _ (hsp k hk)
 have hcp2:∀(W:World),(∀x,W.cell? x=W1.cell? x)→(∀x,W.frozen? x=W1.frozen? x)→∀ty dc,(Builtin.copy_ #[194,194] ty #[.slice (some ⟨b,off+i*2,none⟩) (n+1-i) dc,.slice (some ⟨vb,voff,none⟩) 1 vc]).run Tryz.prog W= .ok (goInt 1) (W.setCells b (off+i*2) vs):=fun W hWc hWf ty dc=>by
  have hmin:Nat.min 1 (n+1-i)=1:=by simp only[Nat.min_def];split<;>omega
  have:=IC (P:=Tryz.prog) W 194 194 ty 218 2 b (off+i*2) (n+1-i) dc ⟨vb,voff,none⟩ 1 vc vs Tryz.underlying194 hsz (by rw[hvl,hmin])
   (fun j v hj=>by
    rw[Addr.add_lit,hWc,hW1,World.cell?_setCells_out b _ _ _ _ (fun h _=>absurd h hvb)]
    exact hvs j v hj)
   (fun j hj=>by rw[hWc,Nat.add_assoc];exact hsp1 _ (by omega)) (fun j hj=>by rw[hWf,hW1,World.frozen?_setCells,Nat.add_assoc];exact hfz _ (by omega)) h1v
  rw[hmin]at this
  exact this
 rw[←hW1]at hcp1
 go_enter Tryz.func265,Tryz.ntmps265
 go_wp2_with (simp only[hov])
 go_region_law_o (refine step_copy_runI rfl _ _ 194 194 rfl _ _ (by simp[Act.eval,Act.put]) (by simp[Act.eval,Act.put]) (hcp1 _ _ _) ?_)
 go_wp2_with (at_builtin;refine wpList_copy_runI _ rfl _ _ 194 194 rfl _ _ rfl rfl (hcp2 _ (fun _=>rfl) (fun _=>rfl) _ _) ?_)
 go_ret
 first | exact⟨rfl,rfl⟩ | exact⟨rfl,by rw[hW1]⟩
set_option maxHeartbeats 4000000 in
theorem Axc (b off n c vb voff vc:Nat) (vs:List Value) (w:World) (hroom:n+1≤c) (hc63:c≤9223372036854775807) (hvl:vs.length=2)
 (hsp:∀j,j<2→(w.cell? ⟨b,off+n*2+j,none⟩).isSome=true) (hfz:∀j,j<2→w.frozen? ⟨b,off+n*2+j,none⟩=false)
 (hvs:∀j v,vs[j]? =some v→w.cell? ⟨vb,voff+j,none⟩=some v) (h1v:∀v∈vs,v.oneCell' =true):
 Calls Tryz.prog 265 #[.slice (some ⟨b,off,none⟩) n c,.int .i64 n,.slice (some ⟨vb,voff,none⟩) 1 vc] w fun e w'=>
  e= .returned (.slice (some ⟨b,off,none⟩) (n+1) c)∧w' =w.setCells b (off+n*2) vs:=by
 have hz1:¬((1:Int)=0):=by omega
 obtain⟨i0,hi0,hs0,hb0,hz0⟩:=inf
 have mixed:Tryz.prog.follows .mixedOrders=true:=by kernel_rfl
 have hsrc:Go.Src Tryz.prog i0.size 194 (.slice (some ⟨vb,voff,none⟩) 1 vc) 1 vs w:=Go.Src.ofSlice w Tryz.underlying194 ⟨vb,voff,none⟩ 1 vc vs (by omega) (fun j u hj=>by rw[Addr.add_lit];exact hvs j u hj) h1v
 have hrun:∀ty,(Builtin.append_ #[194,194] ty #[.slice (some ⟨b,off,none⟩) n c,.slice (some ⟨vb,voff,none⟩) 1 vc]).run Tryz.prog w= .ok (.slice (some ⟨b,off,none⟩) (n+1) c) (w.setCells b (off+n*2) vs):=fun ty=>by
  have:=run_append_room_src w 194 194 ty 218 i0 Tryz.underlying194 hi0 b off n c (.slice (some ⟨vb,voff,none⟩) 1 vc) 1 vs hsrc hroom (fun j hj=>by rw[hs0];exact hsp j (by omega)) (fun j hj=>by rw[hs0];exact hfz j (by omega))
  rw[hs0]at this
  exact this
 go_enter Tryz.func265,Tryz.ntmps265
 go_wp2_with (at_builtin;refine Lib.wpList_append_run _ rfl _ _ _ _ rfl _ _ rfl rfl _ _ (hrun _) ?_)
 go_ret
 exact⟨rfl,rfl⟩
set_option maxHeartbeats 4000000 in
theorem AwC (base:Option Addr) (n c vb voff vc:Nat) (cs vs:List Value) (w:World) (hnc:n≤c) (hroom:c<n+1) (hbig:(n+1)*32≤140737488355328)
 (hcl:cs.length=n*2) (hvl:vs.length=2) (hnil:base=none→n=0)
 (hcs:∀a,base=some a→∀j v,cs[j]? =some v→w.cell? (a.add j)=some v)
 (hvs:∀j v,vs[j]? =some v→w.cell? ⟨vb,voff+j,none⟩=some v) (h1v:∀v∈vs,v.oneCell' =true):
 Calls Tryz.prog 265 #[.slice base n c,.int .i64 n,.slice (some ⟨vb,voff,none⟩) 1 vc] w fun e w'=>
  e= .returned (.slice (some ⟨w.heap.size,0,none⟩) (n+1) (grownCap w (n+1) c 218))∧
  w' =w.drew.alloc (.cells ((cs++vs).toArray++Builtin.zeroCells #[.int .i64 0,.slice none 0 0] (grownCap w (n+1) c 218-(n+1))) 218):=by
 have hz1:¬((1:Int)=0):=by omega
 obtain⟨i0,hi0,hs0,hb0,hz0⟩:=inf
 have mixed:Tryz.prog.follows .mixedOrders=true:=by kernel_rfl
 have hsrc:Go.Src Tryz.prog i0.size 194 (.slice (some ⟨vb,voff,none⟩) 1 vc) 1 vs w:=Go.Src.ofSlice w Tryz.underlying194 ⟨vb,voff,none⟩ 1 vc vs (by omega) (fun j u hj=>by rw[Addr.add_lit];exact hvs j u hj) h1v
 have hold:(Builtin.firstCells i0.size n (.slice base n c)).run Tryz.prog w.drew= .ok cs.toArray w.drew:=by
  rw[hs0]
  cases base with
  | none=>
   have h0:=hnil rfl
   subst h0
   have hc0:cs=[]:=List.length_eq_zero_iff.1 (by simpa using hcl)
   rw[hc0]
   exact run_firstCells_none w.drew 2 0 0 c
  | some a=>exact run_firstCells_some w.drew 2 n a n c cs (by omega) (fun j v hj=>hcs a rfl j v hj)
 have hrun:∀ty,(Builtin.append_ #[194,194] ty #[.slice base n c,.slice (some ⟨vb,voff,none⟩) 1 vc]).run Tryz.prog w=
  .ok (.slice (some ⟨w.heap.size,0,none⟩) (n+1) (grownCap w (n+1) c 218)) (w.drew.alloc (.cells ((cs++vs).toArray++Builtin.zeroCells #[.int .i64 0,.slice none 0 0] (grownCap w (n+1) c 218-(n+1))) 218)):=fun ty=>
  run_append_grow_src w 194 194 ty 218 i0 _ Tryz.underlying194 hi0 hz0 base n c cs hold _ 1 vs hsrc hroom (by omega) (by rw[hb0];exact growslice_fits hroom hbig)
 go_enter Tryz.func265,Tryz.ntmps265
 cases base with
 | none=>
  have h0:=hnil rfl
  subst h0
  go_wp2_with (at_builtin;refine Lib.wpList_append_run _ rfl _ _ _ _ rfl _ _ rfl rfl _ _ (hrun _) ?_)
  go_ret
  exact⟨rfl,rfl⟩
 | some a=>
  obtain⟨ab,ao,asp⟩:=a
  go_wp2_with (at_builtin;refine Lib.wpList_append_run _ rfl _ _ _ _ rfl _ _ rfl rfl _ _ (hrun _) ?_)
  all_goals (go_ret;exact⟨rfl,rfl⟩)
set_option maxHeartbeats 4000000 in
theorem AII (b off n c i vb voff vc:Nat) (cs vs:List Value) (w:World) (hi:i<n) (hnc:n≤c) (hroom:c<n+1) (hbig:(n+1)*32≤140737488355328)
 (hcl:cs.length=n*2) (hvl:vs.length=2)
 (hcs:∀j v,cs[j]? =some v→w.cell? ⟨b,off+j,none⟩=some v)
 (hvs:∀j v,vs[j]? =some v→w.cell? ⟨vb,voff+j,none⟩=some v) (h1c:∀v∈cs,v.oneCell' =true) (h1v:∀v∈vs,v.oneCell' =true):
 Calls Tryz.prog 265 #[.slice (some ⟨b,off,none⟩) n c,.int .i64 i,.slice (some ⟨vb,voff,none⟩) 1 vc] w fun e w'=>
  e= .returned (.slice (some ⟨w.heap.size,0,none⟩) (n+1) (grownCap w (n+1) c 218))∧
  w' =(((w.alloc (.cells ((cs.take (i*2)).toArray++Builtin.zeroCells #[.int .i64 0,.slice none 0 0] (n+1-i)++Builtin.zeroCells #[.int .i64 0,.slice none 0 0] (grownCap w (n+1) c 218-(n+1))) 218)).drew.setCells w.heap.size (i*2) vs).drew).setCells w.heap.size ((i+1)*2) (cs.drop (i*2)):=by
 have hz1:¬((1:Int)=0):=by omega
 have hz2:¬((i:Int)=(n:Int)):=by omega
 have hz3:(c:Int)<(n:Int)+1:=by omega
 obtain⟨i0,hi0,hs0,hb0,hz0⟩:=inf
 have mixed:Tryz.prog.follows .mixedOrders=true:=by kernel_rfl
 have hsz:(Tryz.prog.info? 218).map (·.size)=some 2:=by rw[hi0];simp[hs0]
 have hbw:b<w.heap.size:=block_lt_of_cell (hcs 0 _ (List.getElem?_eq_getElem (by omega)))
 have hvw:vb<w.heap.size:=block_lt_of_cell (hvs 0 _ (List.getElem?_eq_getElem (by omega)))
 have hkk:(n:Int)+1-(i:Int)=((n+1-i:Nat):Int):=by omega
 have hik:i+(n+1-i)=n+1:=by omega
 have hold:(Builtin.firstCells i0.size i (.slice (some ⟨b,off,none⟩) i c)).run Tryz.prog w.drew= .ok (cs.take (i*2)).toArray w.drew:=by
  rw[hs0]
  exact run_firstCells_some w.drew 2 i ⟨b,off,none⟩ i c (cs.take (i*2)) (by rw[List.length_take];omega) (fun j v hj=>by
   rw[Addr.add_lit]
   rw[List.getElem?_take]at hj
   split at hj
   ·exact hcs j v hj
   ·cases hj)
 have hrz:∀ty,(Builtin.append_ #[194,3] ty #[.slice (some ⟨b,off,none⟩) i c,.int .i64 ((n:Int)+1-(i:Int))]).run Tryz.prog w=
  .ok (.slice (some ⟨w.heap.size,0,none⟩) (n+1) (grownCap w (n+1) c 218)) (w.drew.alloc (.cells ((cs.take (i*2)).toArray++Builtin.zeroCells #[.int .i64 0,.slice none 0 0] (n+1-i)++Builtin.zeroCells #[.int .i64 0,.slice none 0 0] (grownCap w (n+1) c 218-(n+1))) 218)):=fun ty=>by
  have h:=Lib.run_append_grow_zeros w 194 3 ty 218 i0 _ .i64 .i64 Tryz.underlying194 Tryz.underlying3 hi0 hz0 (some ⟨b,off,none⟩) i c (cs.take (i*2)) hold (n+1-i) (by omega) (by omega) (by omega) (by omega) (by rw[hb0];omega) (by rw[hb0,hik];exact growslice_fits hroom hbig)
  rw[hik]at h
  rw[hkk]
  exact h
 obtain⟨G,hG⟩:∃G,G=grownCap w (n+1) c 218:=⟨_,rfl⟩
 obtain⟨ROW,hROW⟩:∃ROW:Array Value,ROW=(cs.take (i*2)).toArray++Builtin.zeroCells #[.int .i64 0,.slice none 0 0] (n+1-i)++Builtin.zeroCells #[.int .i64 0,.slice none 0 0] (G-(n+1)):=⟨_,rfl⟩
 rw[←hG]at hrz⊢
 rw[←hROW]at hrz⊢
 have hRl:(n+1)*2≤ROW.size:=by
  rw[hROW]
  simp[Builtin.zeroCells]
  omega
 obtain⟨W1,hW1⟩:∃W1,W1=w.drew.alloc (.cells ROW 218):=⟨_,rfl⟩
 rw[←hW1]at hrz
 have hN:∀j,j<(n+1)*2→(W1.cell? ⟨w.heap.size,j,none⟩).isSome=true:=fun j hj=>by
  rw[hW1,World.cell?_alloc_at (w:=w.drew) ROW _ w.heap.size j rfl,Array.getElem?_eq_getElem (by omega)];rfl
 have hNf:∀j,W1.frozen? ⟨w.heap.size,j,none⟩=false:=fun j=>by rw[hW1];exact World.frozen?_alloc_at (w:=w.drew) ROW _ w.heap.size j rfl
 have hOb:∀j v,w.cell? ⟨b,j,none⟩=some v→W1.cell? ⟨b,j,none⟩=some v:=fun j v h=>by rw[hW1,World.cell?_alloc_past (w:=w.drew) _ b j hbw];exact h
 have hOv:∀j v,w.cell? ⟨vb,j,none⟩=some v→W1.cell? ⟨vb,j,none⟩=some v:=fun j v h=>by rw[hW1,World.cell?_alloc_past (w:=w.drew) _ vb j hvw];exact h
 have hcpA:∀(W:World),(∀x,W.cell? x=W1.cell? x)→(∀x,W.frozen? x=W1.frozen? x)→∀ty dc,(Builtin.copy_ #[194,194] ty #[.slice (some ⟨w.heap.size,i*2,none⟩) (n+1-i) dc,.slice (some ⟨vb,voff,none⟩) 1 vc]).run Tryz.prog W= .ok (goInt 1) (W.setCells w.heap.size (i*2) vs):=fun W hWc hWf ty dc=>by
  have hmin:Nat.min 1 (n+1-i)=1:=by simp only[Nat.min_def];split<;>omega
  have:=IC (P:=Tryz.prog) W 194 194 ty 218 2 w.heap.size (i*2) (n+1-i) dc ⟨vb,voff,none⟩ 1 vc vs Tryz.underlying194 hsz (by rw[hvl,hmin])
   (fun j v hj=>by rw[Addr.add_lit,hWc];exact hOv _ v (hvs j v hj))
   (fun j hj=>by rw[hWc];exact hN _ (by omega)) (fun j hj=>by rw[hWf];exact hNf _) h1v
  rw[hmin]at this
  exact this
 have hGn:n+1≤G:=by rw[hG];exact grownCap_ge w _ _ _
 have hG63:G≤9223372036854775807:=by
  have:=grownCap_le_maxLen w (n+1) c 218 (by unfold maxLen;omega)
  rw[←hG]at this
  unfold maxLen at this
  omega
 have hGi:¬(G=i):=by omega
 have hGim:¬(G=i+1):=by omega
 have hci:¬(c=i):=by omega
 have hbN:b≠w.heap.size:=by omega
 have hdl:(cs.drop (i*2)).length=(n-i)*2:=by rw[List.length_drop,hcl];omega
 have hcpB:∀(W:World),(∀x,W.cell? x=(W1.setCells w.heap.size (i*2) vs).cell? x)→(∀x,W.frozen? x=(W1.setCells w.heap.size (i*2) vs).frozen? x)→∀ty dc sc,(Builtin.copy_ #[194,194] ty #[.slice (some ⟨w.heap.size,(i+1)*2,none⟩) (n-i) dc,.slice (some ⟨b,off+i*2,none⟩) (n-i) sc]).run Tryz.prog W= .ok (goInt ((n-i:Nat):Int)) (W.setCells w.heap.size ((i+1)*2) (cs.drop (i*2))):=fun W hWc hWf ty dc sc=>by
  have hmin:Nat.min (n-i) (n-i)=n-i:=by simp only[Nat.min_def];split<;>omega
  have:=IC (P:=Tryz.prog) W 194 194 ty 218 2 w.heap.size ((i+1)*2) (n-i) dc ⟨b,off+i*2,none⟩ (n-i) sc (cs.drop (i*2)) Tryz.underlying194 hsz (by rw[hdl,hmin])
   (fun j v hj=>by
    rw[Addr.add_lit,hWc,World.cell?_setCells_out _ _ _ _ _ (fun h _=>absurd h hbN),Nat.add_assoc]
    exact hOb _ v (hcs (i*2+j) v (by rwa [List.getElem?_drop]at hj)))
   (fun j hj=>by rw[hWc];exact isSome_setCells _ _ _ _ (fun t ht=>hN _ (by omega)) _ (hN _ (by omega)))
   (fun j hj=>by rw[hWf,World.frozen?_setCells];exact hNf _) (fun v hv=>h1c v (List.mem_of_mem_drop hv))
  rw[hmin]at this
  exact this
 subst hW1
 have hE1:∀x,((w.alloc (.cells ROW 218)).drew).cell? x=(w.drew.alloc (.cells ROW 218)).cell? x:=fun x=>rfl
 have hE2:∀x,((w.alloc (.cells ROW 218)).drew).frozen? x=(w.drew.alloc (.cells ROW 218)).frozen? x:=fun x=>rfl
 have hF1:∀x,(((w.alloc (.cells ROW 218)).drew.setCells w.heap.size (i*2) vs).drew).cell? x=((w.drew.alloc (.cells ROW 218)).setCells w.heap.size (i*2) vs).cell? x:=fun x=>rfl
 have hF2:∀x,(((w.alloc (.cells ROW 218)).drew.setCells w.heap.size (i*2) vs).drew).frozen? x=((w.drew.alloc (.cells ROW 218)).setCells w.heap.size (i*2) vs).frozen? x:=fun x=>rfl
 have hw1:IntKind.i64.wrap ((i:Int)+1)=(i:Int)+1:=by rw[IntKind.wrap_i64];omega
 have hb1:(0:Int)≤(i:Int)+1:=by omega
 have hin:i≤n:=by omega
 have htn:((i:Int)+1).toNat=i+1:=by omega
 have hb3:(i:Int)≤(n:Int):=by omega
 clear hkk hik hold hROW hG hRl
 go_enter Tryz.func265,Tryz.ntmps265
 go_wp2_with (first
  | (at_builtin;refine Lib.wpList_append_run _ rfl _ _ _ _ rfl _ _ rfl rfl _ _ (hrz _) ?_)
  | (at_builtin;refine wpList_copy_runI _ rfl _ _ 194 194 rfl _ _ rfl rfl (hcpA _ hE1 hE2 _ _) ?_)
  | (at_builtin;refine wpList_copy_runI _ rfl _ _ 194 194 rfl _ _ rfl rfl (hcpB _ (fun _=>rfl) (fun _=>rfl) _ _ _) ?_))
 go_region_law_o (refine step_copy_runI rfl _ _ 194 194 rfl (.slice (some ⟨w.heap.size,(i+1)*2,none⟩) (n-i) (G-(i+1))) (.slice (some ⟨b,off+i*2,none⟩) (n-i) (c-i)) (by simp[Act.eval,Act.put]) (by simp[Act.eval,Act.put]) (hcpB _ hF1 hF2 3 (G-(i+1)) (c-i)) ?_)
 go_wp2
 go_ret
 exact⟨rfl,rfl⟩
theorem Xu {l d:List Value} {off i n:Nat} (hi:i≤l.length) (hn:l.length+d.length≤n) (c:Array Value) (hc:off+n≤c.size) (hl:∀j,j<i→c[off+j]? =l[j]?) (j:Nat) (hj:j<l.length+d.length):
 (KS (off+i) d (KS (off+i+d.length) (l.drop i) c))[off+j]? =(l.take i++d++l.drop i)[j]? :=by
 have ht:(l.take i).length=i:=by simp;omega
 by_cases h1:j<i
 ·rw[Ht _ _ _ _ (.inl (by omega)),Ht _ _ _ _ (.inl (by omega)),hl j h1,List.append_assoc,List.getElem?_append_left (by omega),List.getElem?_take,if_pos h1]
 ·by_cases h2:j<i+d.length
  ·have:=PG d (off+i) (j-i) (KS (off+i+d.length) (l.drop i) c) (by omega) (by rw[Eh];omega)
   rw[show off+i+(j-i)=off+j by omega]at this
   rw[this,List.append_assoc,List.getElem?_append_right (by omega),List.getElem?_append_left (by omega),ht]
  ·rw[Ht _ _ _ _ (.inr (by omega))]
   have:=PG (l.drop i) (off+i+d.length) (j-i-d.length) c (by simp;omega) (by simp;omega)
   rw[show off+i+d.length+(j-i-d.length)=off+j by omega]at this
   rw[this,List.append_assoc,List.getElem?_append_right (by omega),List.getElem?_append_right (by omega),ht]
theorem Ahp {l d:List Value} {i:Nat} (h1:GY l) (h2:GY d):GY (l.take i++d++l.drop i):=by
 intro v hv
 rcases List.mem_append.1 hv with hv | hv
 ·rcases List.mem_append.1 hv with hv | hv
  ·exact h1 v (List.mem_of_mem_take hv)
  ·exact h2 v hv
 ·exact h1 v (List.mem_of_mem_drop hv)
theorem AOs:AM2 Tryz.prog 265:=by
 intro a n cap i vb vo vc vs ds w hi hn hcap hvl hdl hm hV hvc
 have hds:∀j x,ds[j]? =some x→w.cell? ⟨vb,vo+j,none⟩=some x:=fun j x hj=>AfQ hV hj
 have hdo:GY ds:=hV.1
 have hgc:=V7 w (n+1) cap 218
 have hgb:=Ub w (n+1) cap 218 (by omega)
 have hlen:(vs.take (i*2)++ds++vs.drop (i*2)).length=(n+1)*2:=by simp[hvl,hdl];omega
 have zc:∀k,(Builtin.zeroCells #[Value.int .i64 0,.slice none 0 0] k).size=k*2:=fun k=>by simp[Builtin.zeroCells]
 have endGrow:cap<n+1→i=n→GY vs→(∀a0,a=some a0→∀j x,vs[j]? =some x→w.cell? (a0.add j)=some x)→(a=none→n=0)→_:=fun hc hin ho hcells hnil=>
  (AwC a n cap vb vo vc vs ds w hcap.1 hc (by omega) hvl hdl hnil hcells hds hdo).mono
   (R':=fun e w'=>∃b' o' cap',e= .returned (.slice (some ⟨b',o',none⟩) (n+1) cap')∧(n+1≤cap'∧cap'≤9223372036854775807)∧
    Has w' b' o' (vs.take (i*2)++ds++vs.drop (i*2)) (cap'*2)∧(w.heap.size≤b'∨∃o,a=some ⟨b',o,none⟩∧cap≠0)∧
    w.heap.size≤w'.heap.size∧w'.os=w.os∧w'.tape=w.tape∧w'.output=w.output∧∀b,b<w.heap.size→b≠b'→w'.heap[b]? =w.heap[b]?)
   fun e w' ⟨he,hw⟩=>by
    subst hw
    refine⟨_,_,_,he,⟨hgc,hgb⟩,⟨Ahp ho hdo,_,218,alloc_at w.drew _,?_,by rw[hlen];exact Nat.mul_le_mul_right _ hgc,fun j hj=> ?_⟩,.inl (Nat.le_refl _),by rw[La];simp,rfl,rfl,rfl,fun b hb _=>QT w.drew _ hb⟩
    ·simp[zc,hvl,hdl];omega
    ·rw[hlen]at hj
     have e1:vs.take (i*2)=vs:=List.take_of_length_le (by omega)
     have e2:vs.drop (i*2)=[]:=List.drop_eq_nil_of_le (by omega)
     rw[Nat.zero_add,e1,e2,List.append_nil,Array.getElem?_append,if_pos (by simp[hvl,hdl];omega)]
     simp
 rcases hm with hm | ⟨b,o,rfl,hhas,hbne⟩
 ·subst hm
  obtain rfl:n=0:=by omega
  obtain rfl:i=0:=by omega
  have hv0:vs=[]:=List.length_eq_zero_iff.1 (by omega)
  subst hv0
  exact endGrow (by omega) rfl (fun v hv=>by cases hv) (fun a0 _ j x hj=>by simp at hj) (fun _=>rfl)
 ·have ho:GY vs:=hhas.1
  have hcs:∀j x,vs[j]? =some x→w.cell? ⟨b,o+j,none⟩=some x:=fun j x hj=>AfQ hhas hj
  have hbl:=Sj hhas
  have keep:∀(f:Array Value→Array Value) (W:World),W.heap=w.heap→∀b2,b2<w.heap.size→b2≠b→(mapBlock W b f).heap[b2]? =w.heap[b2]? :=fun f W hW b2 _ h2=>by rw[T9 _ _ h2,hW]
  by_cases hroom:n+1≤cap
  ·by_cases hin:i=n
   ·subst hin
    refine(Axc b o i cap vb vo vc ds w hroom hcap.2 hdl (fun j hj=> ?_) (fun j _=>RA hhas _) hds hdo).mono fun e w' ⟨he,hw⟩=> ?_
    ·have:=Ahr hhas (j:=i*2+j) (by omega)
     rwa [←Nat.add_assoc]at this
    ·rw[Dh]at hw
     subst hw
     refine⟨b,o,cap,he,⟨hroom,hcap.2⟩,?_,.inr ⟨o,rfl,by omega⟩,by rw[JO];exact Nat.le_refl _,rfl,rfl,rfl,fun b2 h1 h2=>keep _ w rfl b2 h1 h2⟩
     refine Agt hhas (Te _ _ _) (Eh _ _) (fun c h1 h2 j hj=> ?_) (Ahp ho hdo) (by rw[hlen];omega)
     have:=Xu (l:=vs) (d:=ds) (off:=o) (i:=i*2) (n:=cap*2) (by omega) (by omega) c h1 (fun j hj=>h2 j (by omega)) j (by rw[hlen]at hj;omega)
     have e2:vs.drop (i*2)=[]:=List.drop_eq_nil_of_le (by omega)
     rw[e2]at this⊢
     exact this
   ·obtain⟨tA,kA,hsa,_⟩:=AbN hV
    obtain⟨tB,kB,hsb,hkB⟩:=AbN hhas
    refine(AFY b o n cap i vb vo vc vs ds w (by omega) hroom hcap.2 (Ne.symm hbne) hvl hdl hcs (fun j hj=>Ahr hhas (by omega)) (fun j _=>RA hhas _) hds ho hdo tA tB kA kB hsa hsb (by omega) (RA hV _) (RA hV _)).mono fun e w' ⟨he,hw⟩=> ?_
    rw[Dh,Dh,mapBlock_mapBlock]at hw
    subst hw
    refine⟨b,o,cap,he,⟨hroom,hcap.2⟩,?_,.inr ⟨o,rfl,by omega⟩,by rw[JO];exact Nat.le_refl _,rfl,rfl,rfl,fun b2 h1 h2=>keep _ w.drew rfl b2 h1 h2⟩
    refine Agt hhas (Te _ _ _) (fun c=>by rw[Eh,Eh]) (fun c h1 h2 j hj=> ?_) (Ahp ho hdo) (by rw[hlen];omega)
    have:=Xu (l:=vs) (d:=ds) (off:=o) (i:=i*2) (n:=cap*2) (by omega) (by omega) c h1 (fun j hj=>h2 j (by omega)) j (by rw[hlen]at hj;omega)
    rw[hdl,show o+i*2+2=o+(i+1)*2 by omega]at this
    exact this
  ·by_cases hin:i=n
   ·rw[hin]
    rw[hin]at endGrow
    refine endGrow (by omega) rfl ho (fun a0 ha j x hj=> ?_) (fun h=>by cases h)
    cases ha
    rw[Addr.add_lit]
    exact hcs j x hj
   ·refine(AII b o n cap i vb vo vc vs ds w (by omega) hcap.1 (by omega) (by omega) hvl hdl hcs hds ho hdo).mono fun e w' ⟨he,hw⟩=> ?_
    rw[Dh,Dh]at hw
    have hsz:w'.heap.size=w.heap.size+1:=by
     rw[hw,JO];simp only[World.drew];rw[JO,La]
    have hoff:∀b',b' <w.heap.size→w'.heap[b']? =w.heap[b']? :=by
     intro b' hb'
     rw[hw,T9 _ _ (by omega)]
     simp only[World.drew]
     rw[T9 _ _ (by omega)]
     exact QT w _ hb'
    refine⟨w.heap.size,0,_,he,⟨hgc,hgb⟩,?_,.inl (Nat.le_refl _),by omega,by rw[hw];rfl,by rw[hw];rfl,by rw[hw];rfl,fun b' hb' _=>hoff b' hb'⟩
    obtain⟨R0,hR0⟩:∃R0:Array Value,R0=(vs.take (i*2)).toArray++Builtin.zeroCells #[.int .i64 0,.slice none 0 0] (n+1-i)++Builtin.zeroCells #[.int .i64 0,.slice none 0 0] (grownCap w (n+1) cap 218-(n+1)):=⟨_,rfl⟩
    have hR0s:R0.size=grownCap w (n+1) cap 218*2:=by rw[hR0];simp[zc,hvl];omega
    have hat:w'.heap[w.heap.size]? =some (.cells (KS ((i+1)*2) (vs.drop (i*2)) (KS (i*2) ds R0)) 218 (0,0)):=by
     rw[hw,Te]
     simp only[World.drew]
     rw[Te]
     simp only[]
     rw[alloc_at,←hR0]
     rfl
    refine⟨Ahp ho hdo,_,218,hat,?_,by rw[hlen];exact Nat.mul_le_mul_right _ hgc,fun j hj=> ?_⟩
    ·rw[Eh,Eh,hR0s];omega
    ·rw[hlen]at hj
     have hg2:(n+1)*2≤grownCap w (n+1) cap 218*2:=Nat.mul_le_mul_right _ hgc
     have ht:(vs.take (i*2)).length=i*2:=by simp;omega
     rw[Nat.zero_add]
     by_cases q1:j<i*2
     ·rw[Ht _ _ _ _ (.inl (by omega)),Ht _ _ _ _ (.inl q1),hR0,List.append_assoc,List.getElem?_append_left (by omega),Array.getElem?_append,if_pos (by simp[zc,hvl];omega),Array.getElem?_append,if_pos (by simp;omega)]
      simp
     ·by_cases q2:j<i*2+2
      ·rw[Ht _ _ _ _ (.inl (by omega))]
       have:=PG ds (i*2) (j-i*2) R0 (by omega) (by omega)
       rw[show i*2+(j-i*2)=j by omega]at this
       rw[this,List.append_assoc,List.getElem?_append_right (by omega),List.getElem?_append_left (by omega),ht]
      ·have:=PG (vs.drop (i*2)) ((i+1)*2) (j-(i+1)*2) (KS (i*2) ds R0) (by simp;omega) (by rw[Eh];simp;omega)
       rw[show(i+1)*2+(j-(i+1)*2)=j by omega]at this
       rw[this,List.append_assoc,List.getElem?_append_right (by omega),List.getElem?_append_right (by omega),ht,hdl]
       congr 1;omega
end Go.Eng.Ins
namespace Go.Eng.Ins
open Go Go.Proofs Go.Shelf Go.RowKit Go.Lib Go.Sort Go.Eng
set_option maxRecDepth 100000
theorem mk2 (w:World):(Instr.makeSlice 24 (.int .i64 2) (.int .i64 2)).run Tryz.prog w= .ok (.slice (some ⟨w.heap.size,0,none⟩) 2 2) (w.alloc (.cells #[.int .i64 0,.int .i64 0] 3)):=by kernel_rfl
theorem mk1 (w:World):(Instr.makeSlice 24 (.int .i64 1) (.int .i64 1)).run Tryz.prog w= .ok (.slice (some ⟨w.heap.size,0,none⟩) 1 1) (w.alloc (.cells #[.int .i64 0] 3)):=by kernel_rfl
theorem mk0 (w:World):(Instr.makeSlice 24 (.int .i64 0) (.int .i64 0)).run Tryz.prog w= .ok (.slice (some ⟨w.heap.size,0,none⟩) 0 0) (w.alloc (.cells #[] 3)):=by kernel_rfl
theorem siz:(Tryz.prog.info? 3).map (·.size)=some 1:=by kernel_rfl
set_option maxHeartbeats 4000000 in
theorem AOu (b o cap:Nat) (v:Int) (w:World) (hv:w.cell? ⟨b,o,none⟩=some (.int .i64 v)):
 Calls Tryz.prog 263 #[.slice (some ⟨b,o,none⟩) 1 cap,.int .i64 2] w fun e w'=>e= .returned (.slice (some ⟨w.heap.size,0,none⟩) 2 2)∧w' =(((w.alloc (.cells #[.int .i64 0,.int .i64 0] 3)).setCells w.heap.size 0 [.int .i64 v]).drew).setCells w.heap.size 1 [.int .i64 v]:=by
 have mixed:Tryz.prog.follows .mixedOrders=true:=by kernel_rfl
 have hbw:b<w.heap.size:=block_lt_of_cell hv
 obtain⟨W1,hW1⟩:∃W1,W1=w.alloc (.cells #[.int .i64 0,.int .i64 0] 3):=⟨_,rfl⟩
 have hN:∀j,j<2→(W1.cell? ⟨w.heap.size,j,none⟩).isSome=true:=fun j hj=>by
  rw[hW1,World.cell?_alloc_at (w:=w) _ _ w.heap.size j rfl,Array.getElem?_eq_getElem (by simpa using hj)];rfl
 have hNf:∀j,W1.frozen? ⟨w.heap.size,j,none⟩=false:=fun j=>by rw[hW1];exact World.frozen?_alloc_at (w:=w) _ _ w.heap.size j rfl
 have hOv:W1.cell? ⟨b,o,none⟩=some (.int .i64 v):=by rw[hW1,World.cell?_alloc_past (w:=w) _ b o hbw];exact hv
 have hcA:∀ty,(Builtin.copy_ #[24,24] ty #[.slice (some ⟨w.heap.size,0,none⟩) 2 2,.slice (some ⟨b,o,none⟩) 1 cap]).run Tryz.prog W1= .ok (goInt 1) (W1.setCells w.heap.size 0 [.int .i64 v]):=fun ty=>by
  have:=IC (P:=Tryz.prog) W1 24 24 ty 3 1 w.heap.size 0 2 2 ⟨b,o,none⟩ 1 cap [.int .i64 v] Tryz.underlying24 siz rfl
   (fun j x hj=>by
    match j,hj with
    | 0,hj=>simp at hj;subst hj;rw[Addr.add_lit];exact hOv
    | j+1,hj=>simp at hj)
   (fun j hj=>by rw[Nat.zero_add];simp at hj;exact hN j (by omega)) (fun j hj=>by rw[Nat.zero_add];exact hNf j) (by simp[Value.oneCell'])
  exact this
 obtain⟨W2,hW2⟩:∃W2,W2=W1.setCells w.heap.size 0 [.int .i64 v]:=⟨_,rfl⟩
 rw[←hW2]at hcA
 have hcB:∀ty dc sc,(Builtin.copy_ #[24,24] ty #[.slice (some ⟨w.heap.size,1,none⟩) 1 dc,.slice (some ⟨w.heap.size,0,none⟩) 1 sc]).run Tryz.prog W2.drew= .ok (goInt 1) (W2.drew.setCells w.heap.size 1 [.int .i64 v]):=fun ty dc sc=>by
  have:=IC (P:=Tryz.prog) W2.drew 24 24 ty 3 1 w.heap.size 1 1 dc ⟨w.heap.size,0,none⟩ 1 sc [.int .i64 v] Tryz.underlying24 siz rfl
   (fun j x hj=>by
    match j,hj with
    | 0,hj=>
     simp at hj;subst hj;rw[Addr.add_lit]
     have:=World.cell?_setCells_in w.heap.size [Value.int .i64 v] 0 W1 (fun j hj=>by rw[Nat.zero_add];simp at hj;exact hN j (by omega)) 0 (by simp)
     rw[←hW2]at this
     simpa using this
    | j+1,hj=>simp at hj)
   (fun j hj=>by
    simp at hj;subst hj
    show(W2.cell? _).isSome=true
    rw[hW2]
    exact isSome_setCells _ _ _ _ (fun j hj=>by rw[Nat.zero_add];simp at hj;exact hN j (by omega)) _ (hN 1 (by omega))) (fun j hj=>by
    show W2.frozen? _=false
    rw[hW2,World.frozen?_setCells];exact hNf _) (by simp[Value.oneCell'])
  exact this
 subst hW2
 subst hW1
 clear hN hNf hOv
 go_enter Tryz.func263,Tryz.ntmps263
 go_wp2_with (first
  | go_in
  | (simp only[mk2])
  | (at_builtin;refine wpList_copy_runI _ rfl _ _ 24 24 rfl _ _ rfl rfl (hcA _) ?_))
 refine wp_loop_rounds 2 ?_
 simp only[Code.rounds]
 go_wp2
 go_region_law_o (refine step_copy_runI rfl _ _ 24 24 rfl _ _ (by simp[Act.eval,Act.put]) (by simp[Act.eval,Act.put]) (hcB _ _ _) ?_)
 go_wp2
 go_ret
 exact⟨rfl,rfl⟩
set_option maxHeartbeats 4000000 in
theorem AOw (b o cap:Nat) (v:Int) (w:World) (hv:w.cell? ⟨b,o,none⟩=some (.int .i64 v)):
 Calls Tryz.prog 263 #[.slice (some ⟨b,o,none⟩) 1 cap,.int .i64 1] w fun e w'=>e= .returned (.slice (some ⟨w.heap.size,0,none⟩) 1 1)∧w' =(w.alloc (.cells #[.int .i64 0] 3)).setCells w.heap.size 0 [.int .i64 v]:=by
 have mixed:Tryz.prog.follows .mixedOrders=true:=by kernel_rfl
 have hbw:b<w.heap.size:=block_lt_of_cell hv
 have hcA:∀ty,(Builtin.copy_ #[24,24] ty #[.slice (some ⟨w.heap.size,0,none⟩) 1 1,.slice (some ⟨b,o,none⟩) 1 cap]).run Tryz.prog (w.alloc (.cells #[.int .i64 0] 3))= .ok (goInt 1) ((w.alloc (.cells #[.int .i64 0] 3)).setCells w.heap.size 0 [.int .i64 v]):=fun ty=>by
  have:=IC (P:=Tryz.prog) (w.alloc (.cells #[.int .i64 0] 3)) 24 24 ty 3 1 w.heap.size 0 1 1 ⟨b,o,none⟩ 1 cap [.int .i64 v] Tryz.underlying24 siz rfl
   (fun j x hj=>by
    match j,hj with
    | 0,hj=>simp at hj;subst hj;rw[Addr.add_lit,World.cell?_alloc_past (w:=w) _ b _ hbw];exact hv
    | j+1,hj=>simp at hj)
   (fun j hj=>by rw[Nat.zero_add];simp at hj;subst hj;rw[World.cell?_alloc_at (w:=w) _ _ w.heap.size 0 rfl];rfl) (fun j hj=>by exact World.frozen?_alloc_at (w:=w) _ _ w.heap.size _ rfl) (by simp[Value.oneCell'])
  exact this
 go_enter Tryz.func263,Tryz.ntmps263
 go_wp2_with (first
  | go_in
  | (simp only[mk1])
  | (at_builtin;refine wpList_copy_runI _ rfl _ _ 24 24 rfl _ _ rfl rfl (hcA _) ?_))
 refine wp_loop_rounds 1 ?_
 simp only[Code.rounds]
 go_wp2
 go_ret
 exact⟨rfl,rfl⟩
set_option maxHeartbeats 4000000 in
theorem AOt (b o cap:Nat) (w:World):
 Calls Tryz.prog 263 #[.slice (some ⟨b,o,none⟩) 1 cap,.int .i64 0] w fun e w'=>e= .returned (.slice (some ⟨w.heap.size,0,none⟩) 0 0)∧w' =w.alloc (.cells #[] 3):=by
 have mixed:Tryz.prog.follows .mixedOrders=true:=by kernel_rfl
 have hcA:∀ty,(Builtin.copy_ #[24,24] ty #[.slice (some ⟨w.heap.size,0,none⟩) 0 0,.slice (some ⟨b,o,none⟩) 1 cap]).run Tryz.prog (w.alloc (.cells #[] 3))= .ok (goInt 0) (w.alloc (.cells #[] 3)):=fun ty=>by
  have:=IC (P:=Tryz.prog) (w.alloc (.cells #[] 3)) 24 24 ty 3 1 w.heap.size 0 0 0 ⟨b,o,none⟩ 1 cap [] Tryz.underlying24 siz rfl
   (fun j x hj=>by simp at hj) (fun j hj=>by simp at hj) (fun j hj=>by simp at hj) (by simp)
  exact this
 go_enter Tryz.func263,Tryz.ntmps263
 go_wp2_with (first
  | go_in
  | (simp only[mk0])
  | (at_builtin;refine wpList_copy_runI _ rfl _ _ 24 24 rfl _ _ rfl rfl (hcA _) ?_))
 refine wp_loop_rounds 1 ?_
 simp only[Code.rounds]
 go_wp2
 go_ret
 exact⟨rfl,rfl⟩
theorem AOy:∃i:TypeInfo,Tryz.prog.info? 3=some i∧i.size=1∧i.bytes=8∧i.zero=some (.int .i64 0):=by
 have h:(Tryz.prog.info? 3).isSome=true:=by kernel_rfl
 obtain⟨i,hi⟩:=Option.isSome_iff_exists.1 h
 have h1:(Tryz.prog.info? 3).map (·.size)=some 1:=by kernel_rfl
 have h2:(Tryz.prog.info? 3).map (·.bytes)=some 8:=by kernel_rfl
 have h3:(Tryz.prog.info? 3).bind (·.zero)=some (.int .i64 0):=by kernel_rfl
 rw[hi]at h1 h2 h3
 simp only[Option.map_some,Option.some.injEq,Option.bind_some]at h1 h2 h3
 exact⟨i,hi,h1,h2,h3⟩
set_option maxHeartbeats 4000000 in
theorem ANG (w:World):Calls Tryz.prog 363 #[.slice none 0 0,.int .i64 0] w fun e w'=>e= .returned (.slice none 0 0)∧w' =w:=by
 have mixed:Tryz.prog.follows .mixedOrders=true:=by kernel_rfl
 go_enter Tryz.func363,Tryz.ntmps363
 go_wp2
 go_ret
 exact⟨rfl,rfl⟩
set_option maxHeartbeats 4000000 in
theorem ANZ (n:Nat) (w:World) (h0:0<n) (hn:n≤16777216):Calls Tryz.prog 363 #[.slice none 0 0,.int .i64 n] w fun e w'=>e= .returned (.slice (some ⟨w.heap.size,0,none⟩) 0 (grownCap w n 0 3))∧
 w' =w.drew.alloc (.cells (([]:List Value).toArray++Builtin.zeroCells #[.int .i64 0] n++Builtin.zeroCells #[.int .i64 0] (grownCap w n 0 3-n)) 3):=by
 have mixed:Tryz.prog.follows .mixedOrders=true:=by kernel_rfl
 obtain⟨i0,hi0,hs0,hb0,hz0⟩:=AOy
 have h1:¬((n:Int)<0):=by omega
 have h3:wrap64 ((n:Int)-((0:Int)-(0:Int)))=(n:Int):=by unfold wrap64;omega
 have h3':wrap64 ((n:Int)-(0:Int))=(n:Int):=by unfold wrap64;omega
 have h4:(n:Int)>0:=by omega
 have hold:(Builtin.firstCells i0.size 0 (.slice none 0 0)).run Tryz.prog w.drew= .ok ([]:List Value).toArray w.drew:=run_firstCells_none w.drew i0.size 0 0 0
 have hrz:∀ty,(Builtin.append_ #[24,3] ty #[.slice none 0 0,.int .i64 (n:Int)]).run Tryz.prog w=
  .ok (.slice (some ⟨w.heap.size,0,none⟩) n (grownCap w n 0 3)) (w.drew.alloc (.cells (([]:List Value).toArray++Builtin.zeroCells #[.int .i64 0] n++Builtin.zeroCells #[.int .i64 0] (grownCap w n 0 3-n)) 3)):=fun ty=>by
  have h:=Lib.run_append_grow_zeros w 24 3 ty 3 i0 _ .i64 .i64 Tryz.underlying24 Tryz.underlying3 hi0 hz0 none 0 0 [] hold n (by omega) (by omega) (by omega) (by omega) (by rw[hb0];omega) (by rw[hb0];exact growslice_fits (by omega) (by omega))
  simp only[Nat.zero_add]at h
  exact h
 have hGn:n≤grownCap w n 0 3:=grownCap_ge w _ _ _
 obtain⟨G,hG⟩:∃G,G=grownCap w n 0 3:=⟨_,rfl⟩
 rw[←hG]at hrz hGn⊢
 have hG63:G≤9223372036854775807:=by
  have:=grownCap_le_maxLen w n 0 3 (by unfold maxLen;omega)
  rw[←hG]at this
  unfold maxLen at this
  omega
 clear hold hG
 go_enter Tryz.func363,Tryz.ntmps363
 go_wp2_with (at_builtin;refine Lib.wpList_append_run _ rfl _ _ _ _ rfl _ _ rfl rfl _ _ (hrz _) ?_)
 all_goals (go_ret;exact⟨rfl,rfl⟩)
end Go.Eng.Ins
namespace Go.Eng.T
theorem AWK {cs:List V} (h:Dat (.int .u8) cs):∃n:Int,cs=[V.sc (.int .u8 n)]∧(0≤n∧n≤255):=by
 simp only[Dat]at h
 obtain⟨n,h1,h2⟩:=h
 simp only[Lit.wf,IntKind.min,IntKind.max,IntKind.bits,IntKind.signed,Bool.and_eq_true,decide_eq_true_eq]at h1
 exact⟨n,h2,by simpa using h1.1,by simpa using h1.2⟩
theorem AW8 {avs:List V} (h:AS7 avs):∃bs:List Int,(bs.length≤maxLen∧∀b,b∈bs→0≤b∧b≤255)∧avs=[.sl 3 1 bs.length (u8s bs)]:=by
 obtain⟨c,hd,rfl⟩:=h
 obtain⟨ds,h1,h2,h3⟩:=Ah0 (f:=fun n=> [V.sc (.int .u8 n)]) (p:=fun n:Int=>0≤n∧n≤255) (fun cs h=>AWK h) hd
 refine⟨ds,⟨h2,h3⟩,?_⟩
 have e:ds.flatMap (fun n=> [V.sc (.int .u8 n)])=u8s ds:=by
  clear h1 h2 h3
  induction ds with
  | nil=>rfl
  | cons a ds ih=>rw[List.flatMap_cons,ih];rfl
 rw[e]at h1
 have h4:c= .sl 0 (Ty.int IntKind.u8).cells ds.length (u8s ds):=by simpa using h1
 rw[h4]
 rfl
theorem APl {R R':Rel} (h:∀a gi r o,R a gi r o→R' a gi r o) {args:List V} {c:Cur} {α:Type} {P:α→Prop} {res:α→V} (hd:ARs R args c P res):ARs R' args c P res:=by
 obtain⟨a,c',h1,h2,h3⟩:=hd
 exact⟨a,c',h1,h2,h _ _ _ _ h3⟩
theorem AP6 {R R':Rel} (h:∀a gi r o,R a gi r o→R' a gi r o) {bs:List Int} {α:Type} {P:α→Prop} {res:α→V} (hd:ARw R bs P res):ARw R' bs P res:=by
 obtain⟨a,h1,h3⟩:=hd
 exact⟨a,h1,h _ _ _ _ h3⟩
theorem AWr {R R':Rel} (h:∀a gi r o,R a gi r o→R' a gi r o) {args:List V} (hd:∃c:Cur,AO2 c∧R args [] (.rptr 0 (AGZ c) 0) []):∃c:Cur,AO2 c∧R' args [] (.rptr 0 (AGZ c) 0) []:=by
 obtain⟨c,h1,h3⟩:=hd
 exact⟨c,h1,h _ _ _ _ h3⟩
end Go.Eng.T
