/- Own work: part 13 of the proof of FnEvents. -/
import Derived.Test.YtfdnolfnbmnafaaGreatEngL
set_option linter.unusedSimpArgs false
set_option linter.unusedVariables false
namespace Go.Eng
section
variable {P:Program} {F:Fr} {β:Nat→Base} {own:Nat→Option (Nat×List Nat)} {H:Hp} {w w':World}
theorem AbD {α:Type} (A ys:List α):∀(B:List α),ys.length≤B.length→putAt (A++B) A.length ys=A++ys++B.drop ys.length:=by
 induction ys generalizing A with
 | nil=>intro B _;simp[putAt]
 | cons y ys ih=>
  intro B hB
  cases B with
  | nil=>simp at hB
  | cons b B=>
   simp only[putAt]
   have:(A++b::B).set A.length y=(A++ [y])++B:=by simp
   rw[this]
   have:=ih (A++ [y]) B (by simpa using hB)
   simp at this⊢
   exact this
theorem Ax3 {e n:Nat}:∀(xs:List Value) (j:Nat) (A:List Value) (cells:Array Value),(∀x,x∈xs→x.cells.size=e)→A.length=j*e→cells.toList.take (j*e)=A→cells.size=(j+xs.length)*e→
 ∃cells',Instr.fill (fun i=>some (i*e,e)) cells ((xs.zipIdx j).map fun p=>(p.2,p.1))=some cells'∧cells'.toList=A++xs.flatMap (fun x=>x.cells.toList)
 | [],j,A,cells,_,hA,ht,hs=>by
  refine⟨cells,rfl,?_⟩
  simp at hs
  simp only[List.flatMap_nil,List.append_nil]
  rw[←ht,List.take_of_length_le]
  simp[hs]
 | x::xs,j,A,cells,hx,hA,ht,hs=>by
  have hsz:x.cells.size=e:=hx x (by simp)
  simp only[List.zipIdx_cons,List.map_cons,Instr.fill]
  have hle:j*e+e≤cells.size:=by
   rw[hs]
   have:(j+1)*e≤(j+(x::xs).length)*e:=Nat.mul_le_mul_right _ (by simp)
   rw[Nat.add_mul]at this
   omega
  rw[if_neg (by simp;omega)]
  have hput:(x.cells.zipIdx.foldl (fun cs (c,i)=>cs.setIfInBounds (j*e+i) c) cells).toList=A++x.cells.toList++(cells.toList.drop (j*e)).drop e:=by
   have h1:=AuZ x.cells.toList (j*e) 0 cells
   have h2:(x.cells.zipIdx.foldl (fun cs (c,i)=>cs.setIfInBounds (j*e+i) c) cells).toList=putAt cells.toList (j*e) x.cells.toList:=by
    rw[←Array.foldl_toList];simpa using h1
   rw[h2]
   have h3:cells.toList=A++cells.toList.drop (j*e):=by rw[←ht,List.take_append_drop]
   have h4:=AbD A x.cells.toList (cells.toList.drop (j*e)) (by simp;omega)
   rw[←h3,hA]at h4
   rw[h4]
   simp[hsz]
  have hA2:(A++x.cells.toList).length=(j+1)*e:=by simp[hA,hsz,Nat.add_mul]
  obtain⟨cells',h1,h2⟩:=Ax3 (n:=n) xs (j+1) (A++x.cells.toList) (x.cells.zipIdx.foldl (fun cs (c,i)=>cs.setIfInBounds (j*e+i) c) cells) (fun y hy=>hx y (by simp[hy])) hA2
   (by rw[hput,←hA2,List.take_left'];rfl) (by
    have:=congrArg List.length hput
    rw[Array.length_toList]at this
    rw[this]
    have e1:(j+(x::xs).length)*e=(j+1+xs.length)*e:=by congr 1;simp;omega
    rw[←e1,←hs]
    simp only[List.length_append,List.length_drop,Array.length_toList,hA,hsz]
    omega)
  refine⟨cells',h1,?_⟩
  rw[h2]
  simp[List.flatMap_cons]
theorem ABi (inv:Inv F β own H w) {ev:Src→V} {e:Nat}:∀ {parts:List Src} {xs:List Value} {Hm:Hp} {cs:List V} {t:Nat} {ks:List Nat} (i0:Nat),(∀k,Hm k=H k∨Hm k= .dead)→
 parts.length=xs.length→(∀(j:Nat) (s:Src) (x:Value),parts[j]? =some s→xs[j]? =some x→VR F β own H w (ev s) x)→AuC ev e Hm parts=some (cs,t,ks)→
 (∀x,x∈xs→x.cells.size=e)∧(∀k1,k1∈ks→(Al (Hm k1)).isSome=true)∧ks.Nodup∧GY (xs.flatMap fun x=>x.cells.toList)∧cs.length=xs.length*e∧
 (xs.flatMap fun x=>x.cells.toList).length=xs.length*e∧∃μ:Nat→List Nat,(∀k1,∃i,μ k1=[i])∧
 ∀ {own':Nat→Option (Nat×List Nat)} {w':World} {S':Nat→Nat→Prop} {lim k:Nat} {μ':Nat→List Nat},t≤lim→(∀k1,k1∈ks→μ' k1=μ k1)→
  Moved F own w own' w' S' t ks k μ'→∀(i:Nat) (v:V) (x:Value),cs[i]? =some v→(xs.flatMap fun x=>x.cells.toList)[i]? =some x→Ow F.Ah w' own' S' lim k [i0+i] v x:=by
 intro parts
 induction parts with
 | nil=>
  intro xs Hm cs t ks i0 hm hl hv h
  cases xs with
  | cons=>simp at hl
  | nil=>
   cases h
   exact⟨by simp,by simp,by simp,by simp[GY],by simp,by simp,fun _=> [0],fun _=>⟨0,rfl⟩,by simp⟩
 | cons s parts ih=>
  intro xs Hm cs t ks i0 hm hl hv h
  cases xs with
  | nil=>simp at hl
  | cons x xs=>
   simp only[AuC]at h
   cases hc:cellsOf (ev s)with
   | none=>simp[hc]at h
   | some ps=>
    simp only[hc]at h
    split at h
    ·rename_i hpe
     cases h1:Rk Hm ps with
     | none=>simp[h1]at h
     | some p1=>
      obtain⟨v1,t1,ks1⟩:=p1
      simp only[h1]at h
      cases h2:AuC ev e (Dp ks1 Hm) parts with
      | none=>simp[h2]at h
      | some p2=>
       obtain⟨r2,t2,ks2⟩:=p2
       simp only[h2]at h
       cases h
       obtain⟨c1,c2⟩:=Zh (hv 0 s x (by simp) (by simp)) hc
       obtain⟨a1,a2,a3,a4,μa,a5,a6⟩:=YF inv i0 [] hm c1 h1
       obtain⟨b0,b1,b2,b3,b4,b4',μb,b5,b6⟩:=ih (xs:=xs) (i0+e) (YI hm ks1) (by simpa using hl) (fun j s x hs hx=>hv (j+1) s x (by simpa using hs) (by simpa using hx)) h2
       have hx0:x.cells.toList.length=e:=by rw[c1.1,hpe]
       have hb1:∀k1,k1∈ks2→k1∉ks1∧(Al (Hm k1)).isSome=true:=by
        intro k1 hk1
        obtain⟨r,hr⟩:=Option.isSome_iff_exists.1 (b1 k1 hk1)
        obtain⟨g1,g2⟩:=K5 hr
        exact⟨g1,by rw[g2];rfl⟩
       refine⟨?_,?_,?_,?_,?_,?_,fun k1=>if k1∈ks1 then μa k1 else μb k1,?_,?_⟩
       ·intro y hy
        rcases List.mem_cons.1 hy with g | g
        ·subst g;simpa using hx0
        ·exact b0 y g
       ·intro k1 hk1
        rcases List.mem_append.1 hk1 with g | g
        ·exact a1 k1 g
        ·exact(hb1 k1 g).2
       ·rw[List.nodup_append]
        exact⟨a2,b2,fun a ha b hb hab=>(hb1 b hb).1 (hab▸ha)⟩
       ·intro y hy
        rw[List.flatMap_cons]at hy
        rcases List.mem_append.1 hy with g | g
        ·exact a3 y g
        ·exact b3 y g
       ·simp[a4,hpe,b4,Nat.add_mul,Nat.add_comm]
       ·rw[List.flatMap_cons,List.length_append,hx0,b4'];simp[Nat.add_mul,Nat.add_comm]
       ·intro k1
        dsimp only
        split
        ·obtain⟨i,hi⟩:=a5 k1;exact⟨i0+i,by simpa using hi⟩
        ·exact b5 k1
       ·intro own' w' S' lim k μ' hlim hμ mv i v y hv' hy
        have hv1:v1.length=e:=by rw[a4,hpe]
        rw[List.flatMap_cons]at hy
        rcases Nat.lt_or_ge i e with hi | hi
        ·rw[List.getElem?_append_left (by omega)]at hv' hy
         have:=a6 (own':=own') (w':=w') (S':=S') (lim:=lim) (k:=k) (μ':=μ') (by omega) (fun k1 hk1=>by rw[hμ k1 (by simp[hk1])];simp[hk1])
          (mv.sub (by simp;intro k hk;exact .inl hk) (by omega)) i v y hv' hy
         simpa using this
        ·rw[List.getElem?_append_right (by omega)]at hv' hy
         rw[hv1]at hv'
         rw[hx0]at hy
         have:=b6 (own':=own') (w':=w') (S':=S') (lim:=lim) (k:=k) (μ':=μ') (by omega) (fun k1 hk1=>by rw[hμ k1 (by simp[hk1])];simp[(hb1 k1 hk1).1])
          (mv.sub (by simp;intro k hk;exact .inr hk) (by omega)) (i-e) v y hv' hy
         rw[show i0+e+(i-e)=i0+i by omega]at this
         exact this
    ·cases h
theorem AxJ (inv:Inv F β own H w) {k e t len:Nat} (hk:H k= .free) {cs:List V} {ds:List Nat} (hd:∀j,j∈ds→(Al (H j)).isSome=true) {ν:Nat→List Nat→List Nat}
 (hν:∀k1 p,p≠ []→ν k1 p≠ []) {vs:List Value} {cap:Nat} {obj:Array Value} {et:TypeId} {w':World} (hh:w'.heap=w.heap.push (.cells obj et)) (ho:w'.os=w.os) (ht:w'.tape=w.tape)
 (hu:w'.output=w.output) (hobj:obj.toList.take vs.length=vs) (hones:GY vs) (hcap:obj.size=cap*e) (hl:cs.length=len*e) (hvs:vs.length=cs.length) (hlc:len≤cap∧cap≤9223372036854775807)
 (hc:∀(i:Nat) (v:V) (x:Value),cs[i]? =some v→vs[i]? =some x→
  Ow F.Ah w' (Eo own (some w.heap.size) ds k ν) (F.S w' (Eo own (some w.heap.size) ds k ν)) t k [i] v x)
 :(∀z y,VR F β own H w z y→VR F (fun j=>if j=k then⟨some ⟨w.heap.size,0,none⟩,cap⟩else β j) (Eo own (some w.heap.size) ds k ν) (A7 H (EY ds++ [(k,.arr e t len cs)])) w' z y)∧
  Inv F (fun j=>if j=k then⟨some ⟨w.heap.size,0,none⟩,cap⟩else β j) (Eo own (some w.heap.size) ds k ν) (A7 H (EY ds++ [(k,.arr e t len cs)])) w'∧
  VR F (fun j=>if j=k then⟨some ⟨w.heap.size,0,none⟩,cap⟩else β j) (Eo own (some w.heap.size) ds k ν) (A7 H (EY ds++ [(k,.arr e t len cs)])) w' (.arr k) (.slice (some ⟨w.heap.size,0,none⟩) len cap):=by
 have st:=Step.new inv hk hh ho ht hu hd hν (.arr e t len cs) ⟨some ⟨w.heap.size,0,none⟩,cap⟩
 have hvl:vs.length≤obj.size:=by
  have:=congrArg List.length hobj
  simp at this
  omega
 have hor:=Aay (F:=F) (w':=w') (β':=fun j=>if j=k then⟨some ⟨w.heap.size,0,none⟩,cap⟩else β j) (own':=Eo own (some w.heap.size) ds k ν) hk hd (o:= .arr e t len cs) (by
  refine⟨vs,hvs,hl,by simpa using hlc,?_,hc⟩
  right
  refine⟨w.heap.size,0,by simp,by simp[Eo],hones,obj,et,by rw[hh];simp,by simp[hcap],by simp only[if_true];omega,?_⟩
  intro i hi
  rw[←hobj,List.getElem?_take,if_pos hi]
  simp)
 refine⟨fun _ _ h=>st.vr inv h,st.inv inv hor (Ajh inv hk hd _ _),?_⟩
 have:=VR.arr (F:=F) (β:=fun j=>if j=k then⟨some ⟨w.heap.size,0,none⟩,cap⟩else β j) (own:=Eo own (some w.heap.size) ds k ν) (H:=A7 H (EY ds++ [(k,.arr e t len cs)])) (w:=w') (k:=k)
  (e:=e) (t:=t) (len:=len) (cs:=cs) (by rw[IG];simp[Al])
 simpa using this
theorem AC3 (inv:Inv F β own H w) {k e t len:Nat} (hk:H k= .free) {cs:List V} {ds:List Nat} (hd:∀j,j∈ds→(Al (H j)).isSome=true) {ν:Nat→List Nat→List Nat}
 (hν:∀k1 p,p≠ []→ν k1 p≠ []) {vs:List Value} {cap:Nat} {obj:Array Value} {et:TypeId} {w':World} (hh:w'.heap=w.heap.push (.cells obj et)) (ho:w'.os=w.os) (ht:w'.tape=w.tape)
 (hu:w'.output=w.output) (hobj:obj.toList.take vs.length=vs) (hones:GY vs) (hcap:obj.size=cap*e) (hl:cs.length=len*e) (hvs:vs.length=cs.length) (hlc:len≤cap∧cap≤9223372036854775807)
 (hc:∀(i:Nat) (v:V) (x:Value),cs[i]? =some v→vs[i]? =some x→
  Ow F.Ah w' (Eo own (some w.heap.size) ds k ν) (F.S w' (Eo own (some w.heap.size) ds k ν)) t k [i] v x)
 {r:Result Next} (hr:r= .ok (.value (.slice (some ⟨w.heap.size,0,none⟩) len cap)) w'):Did F β own H w r (.arr k) (EY ds++ [(k,.arr e t len cs)]):=
 ⟨_,_,_,_,.inl hr,AxJ inv hk hd hν hh ho ht hu hobj hones hcap hl hvs hlc hc⟩
theorem AyE (inv:Inv F β own H w) {w':World} {obj:Obj} {k:Nat} {ds:List Nat} {μ:Nat→List Nat} {β':Nat→Base} {H':Hp} {K:Nat→Prop} {t:Nat}
 (hh:w'.heap=w.heap.push obj) (st:Step F β own H w β' (Eo own (some w.heap.size) ds k fun k1 p=>μ k1++p) H' w' K):
 Moved F own w (Eo own (some w.heap.size) ds k fun k1 p=>μ k1++p) w' (F.S w' (Eo own (some w.heap.size) ds k fun k1 p=>μ k1++p)) t ds k μ:=by
 refine⟨?_,fun fl b h1 _ h3=>st.sS inv fl b h1 h3⟩
 intro b k1 p hk1 hb
 have hlt:=(inv.ownb b _ hb).1
 refine⟨?_,by rw[hh,Array.getElem?_push,if_neg (by omega)]⟩
 unfold Eo
 rw[if_neg (by simp;omega),hb]
 simp[hk1]
theorem AaY (inv:Inv F β own H w) {Hm:Hp} (hm:∀k,Hm k=H k∨Hm k= .dead) {ev:Src→V} {ρ:Operand→Value} {t:TypeId} {k e len:Nat} (ht:slB P t e=true) (hlen:len*e≤2 ^ 24) (hlen2:len≤2 ^ 24)
 (hz:∀et,P.underlying t=some (.slice et)→∃z,(P.info? et).bind (·.zero)=some z∧z.cells.size=e) {parts:List Src} {qs:Array (Nat×Operand)}
 (hidx:qs.toList.map (·.1)=List.range len) (hpl:parts.length=qs.toList.length)
 (hev:∀(j:Nat) (s:Src) (q:Nat×Operand),parts[j]? =some s→qs.toList[j]? =some q→VR F β own H w (ev s) (ρ q.2))
 {v:V} {u:Gq} (h:NY Hm ev k e len parts=some (v,u)):
 ∃(x:Value) (cells:Array Value) (et:TypeId) (cs:List V) (t':Nat) (ks:List Nat) (μ:Nat→List Nat),v= .arr k∧u=EY ks++ [(k,.arr e t' len cs)]∧H k= .free∧(∀j,j∈ks→(Al (Hm j)).isSome=true)∧(∀k1,∃i,μ k1=[i])∧
  ((do pure (.value (←Instr.buildSlice t len (qs.map fun(i,x)=>(i,ρ x)))):Sem Next).run P w)= .ok (.value x) {w with heap:=w.heap.push (.cells cells et)}∧
  (∀z y,VR F β own H w z y→VR F (fun j=>if j=k then⟨some ⟨w.heap.size,0,none⟩,len⟩else β j) (Eo own (some w.heap.size) ks k fun k1 p=>μ k1++p) (A7 H u) {w with heap:=w.heap.push (.cells cells et)} z y)∧
  Inv F (fun j=>if j=k then⟨some ⟨w.heap.size,0,none⟩,len⟩else β j) (Eo own (some w.heap.size) ks k fun k1 p=>μ k1++p) (A7 H u) {w with heap:=w.heap.push (.cells cells et)}∧
  VR F (fun j=>if j=k then⟨some ⟨w.heap.size,0,none⟩,len⟩else β j) (Eo own (some w.heap.size) ks k fun k1 p=>μ k1++p) (A7 H u) {w with heap:=w.heap.push (.cells cells et)} v x:=by
 obtain⟨et,hu,hsz,he⟩:=Xy ht
 obtain⟨z,hz1,hz2⟩:=hz et hu
 unfold NY at h
 split at h
 ·rename_i cs t' ks hf hb
  split at h
  ·rename_i hpl2
   cases h
   have hk:=AbC hm hf
   have hxl:parts.length=(qs.toList.map fun q=>ρ q.2).length:=by simpa using hpl
   obtain⟨b0,b1,b2,b3,b4,b4',μ,b5,b6⟩:=ABi inv (xs:=qs.toList.map fun q=>ρ q.2) 0 hm hxl (by
    intro j s x hs hx
    simp only[List.getElem?_map,Option.map_eq_some_iff]at hx
    obtain⟨q,hq,rfl⟩:=hx
    exact hev j s q hs hq) hb
   have hn:(qs.toList.map fun q=>ρ q.2).length=len:=by rw[←hxl,hpl2]
   have hpair:(qs.map fun(i,x)=>(i,ρ x)).toList=((qs.toList.map fun q=>ρ q.2).zipIdx 0).map fun p=>(p.2,p.1):=by
    apply List.ext_getElem?
    intro i
    simp only[Array.toList_map,List.getElem?_map,List.getElem?_zipIdx,Option.map_map]
    cases hq:qs.toList[i]? with
    | none=>simp
    | some q=>
     have:(qs.toList.map (·.1))[i]? =some q.1:=by simp[hq]
     rw[hidx]at this
     have hi:q.1=i:=by
      have h1:=List.getElem?_eq_some_iff.1 this
      obtain⟨h1,h2⟩:=h1
      simpa using h2.symm
     simp[←hi]
   obtain⟨cells',h1,h2⟩:=Ax3 (e:=e) (n:=len) (qs.toList.map fun q=>ρ q.2) 0 [] ((Array.range (len*e)).map fun i=>(if len*e=0 then #[]else z.cells)[i % (if len*e=0 then #[]else z.cells:Array Value).size]!)
    b0 (by simp) (by simp) (by simp only[Array.size_map,Array.size_range,Nat.zero_add];rw[hn])
   have hcs:cells'.size=len*e:=by have:=congrArg List.length h2;simp only[List.nil_append,Array.length_toList]at this;rw[this,b4',hn]
   have hd:∀j,j∈ks→(Al (H j)).isSome=true:=by
    intro j hj
    obtain⟨r,hr⟩:=Option.isSome_iff_exists.1 (b1 j hj)
    rw[IY hm hr];rfl
   let w1:World:={w with heap:=w.heap.push (.cells cells' et)}
   have hμ:∀k1 p,p≠ []→(fun k1 p=>μ k1++p) k1 p≠ []:=fun k1 p hp=>by simp[hp]
   have st:=Step.new (w':=w1) inv hk rfl rfl rfl rfl hd hμ (.arr e t' len cs) ⟨some ⟨w.heap.size,0,none⟩,len⟩
   have mv:=AyE (w':=w1) (t:=t') inv rfl st
   refine⟨.slice (some ⟨w.heap.size,0,none⟩) len len,cells',et,cs,t',ks,μ,rfl,rfl,hk,b1,b5,?_,AxJ inv hk hd hμ (vs:=(qs.toList.map fun q=>ρ q.2).flatMap fun x=>x.cells.toList) (cap:=len) (obj:=cells') (et:=et) (w':=w1) rfl rfl rfl rfl ?_ b3 hcs ?_ ?_ ⟨Nat.le_refl _,by omega⟩ ?_⟩
   rotate_left
   ·rw[h2,List.nil_append,List.take_length]
   ·rw[b4,hn]
   ·rw[b4',b4]
   ·intro i v x hv hx
    have:=b6 (k:=k) (Nat.le_refl t') (fun _ _=>rfl) mv i v x hv hx
    simpa using this
   ·have hnot:¬(len*e>2 ^ 24):=by omega
    rw[←hpair]at h1
    have hzv:(zeroValue et).run P w= .ok z w:=by
     unfold zeroValue typeInfo
     cases hi:P.info? et with
     | none=>simp[hi]at hz1
     | some i=>simp[hi]at hz1;simp[hi,hz1]
    by_cases h0:len*e=0
    ·simp only[h0,if_true]at h1
     simp only[Instr.buildSlice,Sem.run_bind,run_underlying hu,Result.andThen_ok,Hf hsz,Sem.run_ite,h0,if_true,Sem.run_pure]
     rw[h1]
     rfl
    ·simp only[h0,if_false]at h1
     simp only[Instr.buildSlice,Sem.run_bind,run_underlying hu,Result.andThen_ok,Hf hsz,Sem.run_ite,hnot,if_false,h0,hzv,Sem.run_pure]
     rw[h1]
     rfl
  ·cases h
 ·cases h
theorem Ats (inv:Inv F β own H w) {Hm:Hp} (hm:∀k,Hm k=H k∨Hm k= .dead) {ev:Src→V} {ρ:Operand→Value} {t:TypeId} {k e len:Nat} (ht:slB P t e=true) (hlen:len*e≤2 ^ 24) (hlen2:len≤2 ^ 24)
 (hz:∀et,P.underlying t=some (.slice et)→∃z,(P.info? et).bind (·.zero)=some z∧z.cells.size=e) {parts:List Src} {qs:Array (Nat×Operand)}
 (hidx:qs.toList.map (·.1)=List.range len) (hpl:parts.length=qs.toList.length)
 (hev:∀(j:Nat) (s:Src) (q:Nat×Operand),parts[j]? =some s→qs.toList[j]? =some q→VR F β own H w (ev s) (ρ q.2))
 {v:V} {u:Gq} (h:NY Hm ev k e len parts=some (v,u)):
 Did F β own H w ((do pure (.value (←Instr.buildSlice t len (qs.map fun(i,x)=>(i,ρ x)))):Sem Next).run P w) v u:=by
 obtain⟨x,cells,et,cs,t',ks,μ,_,_,_,_,_,hr,h1⟩:=AaY inv hm ht hlen hlen2 hz hidx hpl hev h
 exact⟨x,_,_,_,.inl hr,h1⟩
end
end Go.Eng
