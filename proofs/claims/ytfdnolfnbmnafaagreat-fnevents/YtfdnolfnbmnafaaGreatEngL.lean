/- Own work: part 12 of the proof of FnEvents. -/
import Derived.Test.YtfdnolfnbmnafaaGreatEngK
set_option linter.unusedSimpArgs false
set_option linter.unusedVariables false
namespace Go.Eng
theorem IG (ks:List Nat) (k:Nat) (o:O) (H:Hp) (j:Nat):
 A7 H (EY ks++ [(k,o)]) j=if j=k then o else if j∈ks then .dead else H j:=by
 induction ks generalizing H with
 | nil=>simp[EY,A7]
 | cons c ks ih=>
  have:=ih (fun i=>if i=c then .dead else H i)
  simp only[EY,List.map_cons,List.cons_append,A7]at this⊢
  rw[this]
  by_cases h1:j=k
  ·simp[h1]
  ·by_cases h2:j∈ks
   ·simp[h1,h2]
   ·by_cases h3:j=c<;>simp[h1,h2,h3]
theorem KM (ks:List Nat) (k:Nat) (o:O) (j:Nat):(j∈(EY ks++ [(k,o)]).map (·.1))↔j∈ks∨j=k:=by
 simp[EY]
section
variable {P:Program} {F:Fr} {β:Nat→Base} {own:Nat→Option (Nat×List Nat)} {H:Hp} {w w':World}
def Eo (own:Nat→Option (Nat×List Nat)) (new:Option Nat) (ds:List Nat) (k:Nat) (ν:Nat→List Nat→List Nat):Nat→Option (Nat×List Nat):=fun b=>
 if new=some b then some (k,[])else match own b with
  | some (k1,p)=>if k1∈ds then some (k,ν k1 p)else some (k1,p)
  | none=>none
theorem AbC {Hm:Hp} (hm:∀k,Hm k=H k∨Hm k= .dead) {k:Nat} (h:Hm k= .free):H k= .free:=by
 rcases hm k with g | g
 ·rw[←g];exact h
 ·rw[g]at h;cases h
theorem Step.gen (inv:Inv F β own H w) {k:Nat} (hk:H k= .free) {new:Option Nat} (hnew:∀b,new=some b→b=w.heap.size∧b<w'.heap.size) (hsz:w.heap.size≤w'.heap.size)
 (ho:w'.os=w.os) (ht:w'.tape=w.tape) (hu:w'.output=w.output)
 {ds:List Nat} (hd:∀j,j∈ds→(Al (H j)).isSome=true)
 (hblk:∀b,b<w.heap.size→(∀k1,k1∈ds→own b≠some (k1,[]))→w'.heap[b]? =w.heap[b]?)
 {ν:Nat→List Nat→List Nat} (hν:∀k1 p,p≠ []→ν k1 p≠ []) (o:O) (B:Base):
 Step F β own H w (fun j=>if j=k then B else β j) (Eo own new ds k ν) (A7 H (EY ds++ [(k,o)])) w' (fun j=>j∈(EY ds++ [(k,o)]).map (·.1)):=by
 have hdk:k∉ds:=fun h=>by have:=hd k h;rw[hk]at this;simp[Al]at this
 have hnb:∀b,b<w.heap.size→new≠some b:=fun b hb h=>by have:=(hnew b h).1;omega
 refine⟨hsz,ho,ht,hu,?_,?_,?_,?_,?_,?_,?_,?_,?_,?_⟩
 ·intro b hb hn
  exact hblk b hb (fun k1 h1 h2=>hn k1 [] h2 (by rw[KM];exact .inl h1))
 ·intro _ b hb hn
  refine⟨hblk b hb (fun k1 _=>hn k1),fun k'=> ?_⟩
  unfold Eo
  rw[if_neg (hnb b hb)]
  cases hob:own b with
  | none=>simp
  | some q=>
   obtain⟨k1,p⟩:=q
   simp only
   have hp:p≠ []:=fun hp=>hn k1 (by rw[hob,hp])
   split
   ·simp;intro _;exact hν k1 p hp
   ·simp;intro _;exact hp
 ·intro b k1 p hb hK
  rw[KM]at hK
  unfold Eo
  rw[if_neg (hnb b (inv.ownb b _ hb).1),hb]
  simp only
  rw[if_neg (fun h=>hK (.inl h))]
 ·intro b p hb
  unfold Eo at hb
  split at hb
  ·rename_i h
   have:=hnew b h
   exact⟨this.2,fun h2=>by omega⟩
  ·cases hob:own b with
   | none=>simp[hob]at hb
   | some q=>exact⟨Nat.lt_of_lt_of_le (inv.ownb b q hob).1 hsz,by simp⟩
 ·intro j hj
  rw[KM]at hj
  rw[IG]
  have h1:j≠k:=fun h=>hj (.inr h)
  have h2:j∉ds:=fun h=>hj (.inl h)
  simp[h1,h2]
 ·intro j e t len cs hj hH
  rw[KM]at hj
  rcases hj with hj | hj
  ·left
   rw[IG,if_neg (fun(h:j=k)=>hdk (h▸hj)),if_pos hj]
  ·subst hj;rw[hk]at hH;simp[Al]at hH
 ·intro j cs hj hH
  rw[KM]at hj
  rcases hj with hj | hj
  ·left
   rw[IG,if_neg (fun(h:j=k)=>hdk (h▸hj)),if_pos hj]
  ·subst hj;rw[hk]at hH;cases hH
 ·intro j hj hH
  rw[KM]at hj
  rcases hj with hj | hj
  ·rw[IG,if_neg (fun(h:j=k)=>hdk (h▸hj)),if_pos hj]
  ·subst hj;rw[hk]at hH;cases hH
 ·intro j hj hH
  rw[KM]at hj
  rcases hj with hj | hj
  ·rw[IG,if_neg (fun(h:j=k)=>hdk (h▸hj)),if_pos hj];simp
  ·subst hj;exact absurd hk hH
 ·intro s j off e t len cs hs hH hj ha
  rw[KM]at hj
  rcases hj with hj | hj
  ·rw[IG,if_neg (fun(h:j=k)=>hdk (h▸hj)),if_pos hj]at ha
   simp[Mj]at ha
  ·subst hj
   have:=inv.objs s
   rw[hH]at this
   exact absurd hk this.2.2.1.2
theorem Step.new (inv:Inv F β own H w) {k:Nat} (hk:H k= .free) {obj:Obj} (hh:w'.heap=w.heap.push obj) (ho:w'.os=w.os) (ht:w'.tape=w.tape) (hu:w'.output=w.output)
 {ds:List Nat} (hd:∀j,j∈ds→(Al (H j)).isSome=true) {ν:Nat→List Nat→List Nat} (hν:∀k1 p,p≠ []→ν k1 p≠ []) (o:O) (B:Base):
 Step F β own H w (fun j=>if j=k then B else β j) (Eo own (some w.heap.size) ds k ν) (A7 H (EY ds++ [(k,o)])) w' (fun j=>j∈(EY ds++ [(k,o)]).map (·.1)):=by
 have hsz:w'.heap.size=w.heap.size+1:=by rw[hh];simp
 refine Step.gen inv hk (fun b hb=>by cases hb;exact⟨rfl,by omega⟩) (by omega) ho ht hu hd (fun b hb _=> ?_) hν o B
 rw[hh,Array.getElem?_push,if_neg (by omega)]
theorem ALm {obj:Array Value} {et:TypeId} (hh:w'.heap=w.heap.push (.cells obj et)) (h1:GY obj.toList):Has w' w.heap.size 0 obj.toList obj.size:=
 ⟨h1,obj,et,by rw[hh];simp,by simp,by simp,fun i _=>by simp⟩
theorem Ajh (inv:Inv F β own H w) {k:Nat} (hk:H k= .free) {ds:List Nat} (hd:∀j,j∈ds→(Al (H j)).isSome=true) (o:O) (B:Base):
 ∀j,j∈(EY ds++ [(k,o)]).map (·.1)→j<F.ngiven→A7 H (EY ds++ [(k,o)]) j≠ .dead→
  (fun j=>if j=k then B else β j) j=β j∧H j≠ .dead:=by
 intro j hj hlt hnd
 rw[KM]at hj
 rcases hj with hj | hj
 ·have hdk:j≠k:=fun h=>by subst h;have:=hd j hj;rw[hk]at this;simp[Al]at this
  rw[IG,if_neg hdk,if_pos hj]at hnd
  exact absurd rfl hnd
 ·subst hj;exact absurd hk (inv.gfree j hlt)
theorem Aay {β':Nat→Base} {own':Nat→Option (Nat×List Nat)} {k:Nat} (hk:H k= .free) {ds:List Nat} (hd:∀j,j∈ds→(Al (H j)).isSome=true) {o:O}
 (hok:OR F β' own' (A7 H (EY ds++ [(k,o)])) w' k o):
 ∀j,j∈(EY ds++ [(k,o)]).map (·.1)→OR F β' own' (A7 H (EY ds++ [(k,o)])) w' j (A7 H (EY ds++ [(k,o)]) j):=by
 intro j hj
 rw[KM]at hj
 rcases hj with hj | hj
 ·have hdk:j≠k:=fun h=>by subst h;have:=hd j hj;rw[hk]at this;simp[Al]at this
  rw[IG,if_neg hdk,if_pos hj]
  trivial
 ·subst hj
  rw[IG,if_pos rfl]
  exact hok
theorem AD0 (inv:Inv F β own H w) {Hm:Hp} (hm:∀k,Hm k=H k∨Hm k= .dead) {k:Nat} {oc:Option (List V)} {v:V} {u:Gq} (h:Aqd Hm k oc=some (v,u))
 {x:Value} {et:TypeId} (hc:∀cs,oc=some cs→Pw (VR F β own H w) cs x.cells.toList∧GY x.cells.toList) {r:Result Next}
 (hr:r= .ok (.value (.pointer (some ⟨w.heap.size,0,none⟩))) {w with heap:=w.heap.push (.cells x.cells et)}):Did F β own H w r v u:=by
 unfold Aqd at h
 split at h
 ·rename_i cs hf
  cases h
  obtain⟨h1,h2⟩:=hc _ rfl
  have hk:=AbC hm hf
  have st:=Step.new (w':={w with heap:=w.heap.push (.cells x.cells et)}) inv hk rfl rfl rfl rfl (ds:=[]) (by simp) (ν:=fun _ p=>p) (fun _ _ h=>h) (.var cs)
   ⟨some ⟨w.heap.size,0,none⟩,0⟩
  have hor:=Aay (F:=F) (w':={w with heap:=w.heap.push (.cells x.cells et)}) (β':=fun j=>if j=k then⟨some ⟨w.heap.size,0,none⟩,0⟩else β j)
   (own':=Eo own (some w.heap.size) [] k fun _ p=>p) hk (ds:=[]) (by simp) (o:= .var cs) (by
    refine⟨w.heap.size,0,x.cells.toList,by simp,by simp[Eo],h1.1,?_,fun i v y hv hy=>st.vr inv (h1.2 i v y hv hy)⟩
    simpa using ALm (w:=w) (w':={w with heap:=w.heap.push (.cells x.cells et)}) rfl h2)
  refine⟨_,_,_,_,.inl hr,fun _ _ h=>st.vr inv h,st.inv inv hor (Ajh inv hk (ds:=[]) (by simp) _ _),?_⟩
  have:VR F (fun j=>if j=k then⟨some ⟨w.heap.size,0,none⟩,0⟩else β j) (Eo own (some w.heap.size) [] k fun _ p=>p) (A7 H (EY []++ [(k,.var cs)]))
   {w with heap:=w.heap.push (.cells x.cells et)} (.ptr k 0) (.pointer (some ⟨w.heap.size,0+0,none⟩)):=
   .ptr (.inr ⟨cs,by simp[A7,EY]⟩) (by simp)
  exact this
 ·cases h
end
end Go.Eng
