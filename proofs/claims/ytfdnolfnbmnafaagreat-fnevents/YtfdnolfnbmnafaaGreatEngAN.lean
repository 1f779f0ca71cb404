/- Own work: part 40 of the proof of FnEvents. -/
import Derived.Test.YtfdnolfnbmnafaaGreatEngAM
import Derived.ChangeArms
import Derived.ChangeSame
import Derived.ChangeOld
import Derived.WideShapes
import Derived.RowKit
import Derived.Deep.Slices
set_option linter.unusedSimpArgs false
set_option linter.unusedVariables false
namespace Go.Eng
open Go.ChangeShapes Go.WideShapes Go.RowKit
inductive Ty where
 | bool
 | int (k:IntKind)
 | str
 | sl (t:Ty)
 | st (ts:List Ty)
mutual
def Ty.cells:Ty→Nat
 | .st ts=>Ty.Zv ts
 | _=>1
def Ty.Zv:List Ty→Nat
 | []=>0
 | t::ts=>t.cells+Ty.Zv ts
end
mutual
def tyB (P:Program):Ty→TypeId→Bool
 | .bool,t=>match P.underlying t with | some .bool=>true | _=>false
 | .int k,t=>match P.underlying t with | some (.int k')=>decide (k' =k) | _=>false
 | .str,t=>match P.underlying t with | some .string=>true | _=>false
 | .sl y,t=>match P.underlying t with | some (.slice e)=>tyB P y e&&(P.cellsOf e==y.cells&&decide (0<y.cells)) | _=>false
 | .st ts,t=>match P.underlying t with | some (.struct fs)=>P.cellsOf t==Ty.Zv ts&&tyL P ts 0 fs.toList | _=>false
def tyL (P:Program):List Ty→Nat→List Field→Bool
 | [],_,[]=>true
 | y::ys,o,f::fs=>tyB P y f.type&&(f.offset==o&&P.cellsOf f.type==y.cells)&&tyL P ys (o+y.cells) fs
 | _,_,_=>false
end
mutual
def Dat:Ty→List V→Prop
 | .bool,cs=>∃b,cs=[.sc (.bool b)]
 | .int k,cs=>∃n,(Lit.int k n).wf=true∧cs=[.sc (.int k n)]
 | .str,cs=>∃s:ByteArray,s.size≤maxLen∧cs=[.sc (.string s)]
 | .sl y,cs=>∃xs:List (List V),xs.length≤maxLen∧(∀x,x∈xs→Dat y x)∧cs=[.sl 0 y.cells xs.length xs.flatten]
 | .st ts,cs=>Aad ts cs
def Aad:List Ty→List V→Prop
 | [],cs=>cs=[]
 | y::ys,cs=>∃a b,Dat y a∧Aad ys b∧cs=a++b
end
mutual
theorem YT:∀ {y:Ty} {cs:List V},Dat y cs→cs.length=y.cells
 | .bool,_,h=>by simp only[Dat]at h;obtain⟨b,rfl⟩:=h;simp[Ty.cells]
 | .int k,_,h=>by simp only[Dat]at h;obtain⟨b,_,rfl⟩:=h;simp[Ty.cells]
 | .str,_,h=>by simp only[Dat]at h;obtain⟨b,_,rfl⟩:=h;simp[Ty.cells]
 | .sl y,_,h=>by simp only[Dat]at h;obtain⟨b,_,_,rfl⟩:=h;simp[Ty.cells]
 | .st ts,cs,h=>by simp only[Dat]at h;rw[Ty.cells];exact Az2 h
theorem Az2:∀ {ys:List Ty} {cs:List V},Aad ys cs→cs.length=Ty.Zv ys
 | [],_,h=>by simp only[Aad]at h;subst h;simp[Ty.Zv]
 | y::ys,_,h=>by simp only[Aad]at h;obtain⟨a,b,h1,h2,rfl⟩:=h;simp[Ty.Zv,YT h1,Az2 h2]
end
theorem Ajw {c:Nat}:∀ {xs:List (List V)},(∀x,x∈xs→x.length=c)→xs.flatten.length=xs.length*c
 | [],_=>by simp
 | x::xs,h=>by
  simp only[List.flatten_cons,List.length_append,List.length_cons]
  rw[h x (by simp),Ajw (fun y hy=>h y (by simp[hy]))]
  rw[Nat.add_mul]
  omega
section
variable {H:Type} {enc:TypeId×Value→H} {P:Program} {w w':World} {base:Nat} {held:Bool}
theorem Ajs {R:V→Value→Prop} {a b:List V} {x y:List Value} (h1:Pw R a x) (h2:Pw R b y):Pw R (a++b) (x++y):=by
 obtain⟨l1,r1⟩:=h1
 obtain⟨l2,r2⟩:=h2
 refine⟨by simp[l1,l2],fun i v z hv hz=> ?_⟩
 by_cases hi:i<a.length
 ·rw[List.getElem?_append_left hi]at hv
  rw[List.getElem?_append_left (by omega)]at hz
  exact r1 i v z hv hz
 ·rw[List.getElem?_append_right (by omega)]at hv
  rw[List.getElem?_append_right (by omega),l1]at hz
  exact r2 _ v z hv hz
theorem Ajk {R:V→Value→Prop} {a:V} {x:Value} (h:R a x):Pw R [a] [x]:=by
 refine⟨rfl,fun i v z hv hz=> ?_⟩
 cases i with
 | zero=>simp at hv hz;subst hv;subst hz;exact h
 | succ i=>simp at hv
theorem ACv {R:V→Value→Prop}:Pw R [] []:=⟨rfl,fun i v z hv=>by simp at hv⟩
theorem ADj {R:V→Value→Prop}:∀ {xs:List (List V)} {zs:List (List Value)},xs.length=zs.length→(∀(i:Nat) (x:List V) (z:List Value),xs[i]? =some x→zs[i]? =some z→Pw R x z)→Pw R xs.flatten zs.flatten
 | [],[],_,_=>ACv
 | x::xs,z::zs,hl,h=>by
  simp only[List.flatten_cons]
  exact Ajs (h 0 x z rfl rfl) (ADj (by simpa using hl) fun i a b ha hb=>h (i+1) a b (by simpa using ha) (by simpa using hb))
 | [],_::_,hl,_=>by simp at hl
 | _::_,[],hl,_=>by simp at hl
theorem AFp {α:Type} [Inhabited α] {n:Nat} {p:Nat→α→Prop} (h:∀i,i<n→∃a,p i a):∃f:Nat→α,∀i,i<n→p i (f i):=by
 classical
 exact⟨fun i=>if hi:i<n then(h i hi).choose else default,fun i hi=>by simp only[hi,dif_pos];exact(h i hi).choose_spec⟩
theorem An0 {a:Addr} {n:Nat} {cs:List Value} (h:w.cells? base a n=some cs):cs.length=n∧∀i,i<n→w.cell? (a.add i)=cs[i]? :=by
 unfold World.cells? at h
 split at h
 ·refine⟨by simpa using mapM_some_length h,fun i hi=> ?_⟩
  exact mapM_some_get h i i (by simp[hi])
 ·cases h
theorem ADt {a:Addr} {v:Value} (h:w.cell? a=some v):a.block<w.heap.size∧a.spot=none:=by
 unfold World.cell? at h
 split at h
 ·rename_i c t fr hh
  split at h
  ·cases h
  ·rename_i hs
   refine⟨(Array.getElem?_eq_some_iff.1 hh).1,by simpa using hs⟩
 ·cases h
theorem addr_add {b o n:Nat}:(Addr.mk b o none).add n=⟨b,o+n,none⟩:=by
 unfold Addr.add
 split
 ·rename_i h;subst h;rfl
 ·rfl
theorem AcR {α:Type} {c:Nat}:∀ {zs:List (List α)},(∀z,z∈zs→z.length=c)→∀(i j:Nat),j<c→zs.flatten[i*c+j]? =(zs[i]?).bind (·[j]?)
 | [],_,i,j,_=>by simp
 | z::zs,h,0,j,hj=>by
  rw[List.flatten_cons,Nat.zero_mul,Nat.zero_add,List.getElem?_append_left (by rw[h z (by simp)];exact hj)]
  rfl
 | z::zs,h,i+1,j,hj=>by
  have hz:=h z (by simp)
  have e:(i+1)*c+j-c=i*c+j:=by rw[Nat.add_mul];omega
  rw[List.flatten_cons,List.getElem?_append_right (by rw[hz,Nat.add_mul];omega),hz,e,AcR (fun x hx=>h x (by simp[hx])) i j hj]
  simp
theorem AFf {zs:List (List Value)} (h:∀z,z∈zs→GY z):GY zs.flatten:=by
 intro x hx
 obtain⟨z,hz,hxz⟩:=List.mem_flatten.1 hx
 exact h z hz x hxz
mutual
theorem AvI {Ah:Nat→Option FuncId}:∀(y:Ty) (t:TypeId) (fuel:Nat) (cs:List Value) (x:DataW H×List MemPlace),tyB P y t=true→DataW.trod enc P w base (fun _=>true) held fuel t cs=some x→
 ∃vs,Dat y vs∧Pw (Rd Ah w (· <w.heap.size)) vs cs∧GY cs
 | .bool,t,fuel,cs,x,hb,h=>by
  simp only[tyB]at hb
  split at hb
  ·rename_i hu
   obtain⟨b,rfl,_⟩:=DataW.trod_bool hu h
   exact⟨[.sc (.bool b)],by simp[Dat],Ajk (.sc rfl),by intro z hz;simp at hz;subst hz;rfl⟩
  ·cases hb
 | .int k,t,fuel,cs,x,hb,h=>by
  simp only[tyB]at hb
  split at hb
  ·rename_i k' hu
   obtain rfl:k' =k:=by simpa using hb
   obtain⟨n,rfl,_,hn⟩:=DataW.trod_int hu h
   exact⟨[.sc (.int k' n)],by simp only[Dat];exact⟨n,hn,rfl⟩,Ajk (.sc rfl),by intro z hz;simp at hz;subst hz;rfl⟩
  ·cases hb
 | .str,t,fuel,cs,x,hb,h=>by
  simp only[tyB]at hb
  split at hb
  ·rename_i hu
   obtain⟨s,rfl,_,hs⟩:=DataW.trod_string hu h
   exact⟨[.sc (.string s)],by simp only[Dat];exact⟨s,hs,rfl⟩,Ajk (.sc rfl),by intro z hz;simp at hz;subst hz;rfl⟩
  ·cases hb
 | .sl y,t,fuel,cs,x,hb,h=>by
  simp only[tyB]at hb
  split at hb
  rotate_left
  ·cases hb
  rename_i e hu
  simp only[Bool.and_eq_true,beq_iff_eq,decide_eq_true_eq]at hb
  obtain⟨hy,hce,hpos⟩:=hb
  rcases Go.Deep.open_slice hu h with⟨rfl,_⟩ | ⟨a,len,cap,m,n,D,Pl,rfl,hb',hl,hm,hmm,_,hx⟩
  ·refine⟨[.sl 0 y.cells 0 []],by simp only[Dat];exact⟨[],by simp,by simp,rfl⟩,Ajk ?_,by intro z hz;simp at hz;subst hz;rfl⟩
   exact .sl (vs:=[]) (Nat.le_refl 0) (by simp) rfl (.inl rfl) (by simp)
  ·simp only[if_true]at hmm
   subst hmm
   rw[hce]at hx
   have key:∀i,i<len→∃cv:List Value×List V,w.cells? base (a.add (i*y.cells)) y.cells=some cv.1∧Dat y cv.2∧Pw (Rd Ah w (· <w.heap.size)) cv.2 cv.1∧GY cv.1:=by
    intro i hi
    obtain⟨cs',h1,h2⟩:=hx i (by omega)
    obtain⟨vs,q1,q2,q3⟩:=AvI (Ah:=Ah) y e n cs' _ hy h2
    exact⟨(cs',vs),h1,q1,q2,q3⟩
   obtain⟨f,hf⟩:=AFp key
   have hlen:((List.range len).map fun i=>(f i).2).length=len:=by simp
   have hlen':((List.range len).map fun i=>(f i).1).length=len:=by simp
   refine⟨[.sl 0 y.cells len ((List.range len).map fun i=>(f i).2).flatten],?_,Ajk ?_,by intro z hz;simp at hz;subst hz;rfl⟩
   ·simp only[Dat]
    refine⟨(List.range len).map fun i=>(f i).2,by rw[hlen];omega,?_,by rw[hlen]⟩
    intro x hx
    simp only[List.mem_map,List.mem_range]at hx
    obtain⟨i,hi,rfl⟩:=hx
    exact(hf i hi).2.1
   ·have hP:Pw (Rd Ah w (· <w.heap.size)) ((List.range len).map fun i=>(f i).2).flatten ((List.range len).map fun i=>(f i).1).flatten:=by
     refine ADj (by simp) ?_
     intro i x z hx hz
     simp only[List.getElem?_map,Option.map_eq_some_iff]at hx hz
     obtain⟨j,hj,rfl⟩:=hx
     obtain⟨j',hj',rfl⟩:=hz
     rw[hj]at hj'
     cases hj'
     have:j<len:=by
      have:=List.getElem?_eq_some_iff.1 hj
      obtain⟨h1,h2⟩:=this
      simp at h1 h2
      omega
     exact(hf j this).2.2.1
    refine .sl hl ?_ hP.1 ?_ hP.2
    ·rw[Ajw (c:=y.cells),hlen]
     intro x hx
     simp only[List.mem_map,List.mem_range]at hx
     obtain⟨i,hi,rfl⟩:=hx
     exact YT (hf i hi).2.1
    ·by_cases h0:len=0
     ·left;subst h0;simp
     ·right
      have hz:∀z,z∈((List.range len).map fun i=>(f i).1)→z.length=y.cells:=by
       intro z hz
       simp only[List.mem_map,List.mem_range]at hz
       obtain⟨i,hi,rfl⟩:=hz
       exact(An0 (hf i hi).1).1
      have c0:=An0 (hf 0 (by omega)).1
      have c00:=c0.2 0 hpos
      have hne:((f 0).1)[0]? =some (((f 0).1)[0]'(by rw[c0.1];exact hpos)):=List.getElem?_eq_getElem _
      rw[hne]at c00
      simp only[Nat.zero_mul]at c00
      have e0:(a.add 0).add 0=a:=by simp[Addr.add]
      rw[e0]at c00
      obtain⟨g1,g2⟩:=ADt c00
      obtain⟨b,o,sp⟩:=a
      simp only at g1 g2
      subst g2
      refine⟨b,o,rfl,g1,AFf ?_,?_⟩
      ·intro z hz
       simp only[List.mem_map,List.mem_range]at hz
       obtain⟨i,hi,rfl⟩:=hz
       exact(hf i hi).2.2.2
      ·intro k hk
       rw[List.length_flatten,]at hk
       have hk':k<len*y.cells:=by
        have:=Ajw (c:=y.cells) (xs:=((List.range len).map fun i=>(f i).2)) (by
         intro x hx
         simp only[List.mem_map,List.mem_range]at hx
         obtain⟨i,hi,rfl⟩:=hx
         exact YT (hf i hi).2.1)
        rw[hlen,←hP.1,List.length_flatten]at this
        omega
       have hi:k / y.cells<len:=(Nat.div_lt_iff_lt_mul hpos).2 hk'
       have hj:k % y.cells<y.cells:=Nat.mod_lt _ hpos
       have ek:k=(k / y.cells)*y.cells+k % y.cells:=by
        have:=Nat.div_add_mod k y.cells
        rw[Nat.mul_comm]at this
        exact this.symm
       have hc:=(An0 (hf _ hi).1).2 _ hj
       rw[addr_add,addr_add,Nat.add_assoc,←ek]at hc
       rw[hc]
       conv=>rhs;rw[ek]
       rw[AcR hz _ _ hj]
       simp[hi]
 | .st ys,t,fuel,cs,x,hb,h=>by
  simp only[tyB]at hb
  split at hb
  rotate_left
  ·cases hb
  rename_i fs hu
  simp only[Bool.and_eq_true,beq_iff_eq]at hb
  obtain⟨xs,n,rfl,_,hlen,hxl,hf⟩:=DataW.trod_struct hu h
  obtain⟨vs,q1,q2,q3⟩:=AzC (Ah:=Ah) ys 0 fs.toList n cs hb.2 (by rw[hlen,hb.1];omega) (by
   intro i f hi
   have hi':fs[i]? =some f:=by simpa using hi
   have hlt:i<xs.length:=by rw[hxl];exact(Array.getElem?_eq_some_iff.1 hi').1
   exact⟨xs[i],by rw[hf i f hi',List.getElem?_eq_getElem hlt]⟩)
  exact⟨vs,by simp only[Dat];exact q1,q2,q3⟩
theorem AzC {Ah:Nat→Option FuncId}:∀(ys:List Ty) (o:Nat) (fs:List Field) (n:Nat) (cs:List Value),tyL P ys o fs=true→cs.length=o+Ty.Zv ys→
 (∀(i:Nat) (f:Field),fs[i]? =some f→∃x,DataW.trod enc P w base (fun _=>true) held n f.type ((cs.drop f.offset).take (P.cellsOf f.type))=some x)→
 ∃vs,Aad ys vs∧Pw (Rd Ah w (· <w.heap.size)) vs (cs.drop o)∧GY (cs.drop o)
 | [],o,[],n,cs,_,hl,_=>by
  have:cs.drop o=[]:=by rw[List.drop_eq_nil_iff,hl];simp[Ty.Zv]
  rw[this]
  exact⟨[],by simp[Aad],ACv,by intro z hz;simp at hz⟩
 | y::ys,o,f::fs,n,cs,hb,hl,hf=>by
  simp only[tyL,Bool.and_eq_true,beq_iff_eq]at hb
  obtain⟨⟨hy,ho,hc⟩,hr⟩:=hb
  obtain⟨x,hx⟩:=hf 0 f rfl
  rw[ho,hc]at hx
  obtain⟨vs,q1,q2,q3⟩:=AvI (Ah:=Ah) y f.type n _ _ hy hx
  obtain⟨vs',q1',q2',q3'⟩:=AzC (Ah:=Ah) ys (o+y.cells) fs n cs hr (by rw[hl];simp[Ty.Zv];omega) (fun i f hi=>hf (i+1) f (by simpa using hi))
  have e:cs.drop o=(cs.drop o).take y.cells++cs.drop (o+y.cells):=by
   rw[←List.drop_drop,List.take_append_drop]
  refine⟨vs++vs',by simp only[Aad];exact⟨vs,vs',q1,q1',rfl⟩,?_,?_⟩
  ·rw[e];exact Ajs q2 q2'
  ·rw[e];intro z hz;rcases List.mem_append.1 hz with hz | hz
   ·exact q3 z hz
   ·exact q3' z hz
 | [],_,_::_,_,_,hb,_,_=>by simp[tyL]at hb
 | _::_,_,[],_,_,hb,_,_=>by simp[tyL]at hb
end
theorem XP {α β:Type} {f g:α→Option β}:∀ {l:List α} {ys:List β},l.mapM f=some ys→(∀x y,x∈l→y∈ys→f x=some y→g x=some y)→l.mapM g=some ys
 | [],ys,h,_=>by simpa using h
 | a::as,ys,h,hr=>by
  rw[List.mapM_cons]at h⊢
  cases ha:f a with
  | none=>simp[ha]at h
  | some b=>
   cases has:as.mapM f with
   | none=>simp[ha,has]at h
   | some bs=>
    simp[ha,has]at h
    subst h
    rw[hr a b (by simp) (by simp) ha,XP has fun x y hx hy h=>hr x y (by simp[hx]) (by simp[hy]) h]
    rfl
theorem AE2 (hw:∀b,b<w.heap.size→w'.heap[b]? =w.heap[b]?) {a:Addr} {v:Value} (h:w.cell? a=some v):w'.cell? a=some v:=by
 rw[←h]
 unfold World.cell?
 rw[hw _ (ADt h).1]
theorem ABQ (hw:∀b,b<w.heap.size→w'.heap[b]? =w.heap[b]?) {a:Addr} {n:Nat} {cs:List Value} (h:w.cells? base a n=some cs):w'.cells? base a n=some cs:=by
 unfold World.cells? at h⊢
 split at h
 ·rename_i hb
  rw[if_pos hb]
  exact XP h fun x y _ _ hx=>AE2 hw hx
 ·cases h
mutual
theorem Avf (hw:∀b,b<w.heap.size→w'.heap[b]? =w.heap[b]?) {sp:Nat→Bool}:∀(y:Ty) (t:TypeId) (fuel:Nat) (cs:List Value) (x:DataW H×List MemPlace),tyB P y t=true→
 DataW.trod enc P w base (fun _=>true) held fuel t cs=some x→(∀p,p∈x.2→sp p.block=true)→DataW.trod enc P w' base sp held fuel t cs=some x
 | .bool,t,fuel,cs,x,hb,h,hp=>by
  simp only[tyB]at hb
  split at hb
  ·rename_i hu
   cases fuel with
   | zero=>simp[DataW.trod]at h
   | succ n=>
    obtain⟨b,rfl,rfl⟩:=DataW.trod_bool hu h
    simp[DataW.trod,hu]
  ·cases hb
 | .int k,t,fuel,cs,x,hb,h,hp=>by
  simp only[tyB]at hb
  split at hb
  ·rename_i k' hu
   cases fuel with
   | zero=>simp[DataW.trod]at h
   | succ n=>
    obtain⟨b,rfl,rfl,hn⟩:=DataW.trod_int hu h
    simp[DataW.trod,hu,hn]
  ·cases hb
 | .str,t,fuel,cs,x,hb,h,hp=>by
  simp only[tyB]at hb
  split at hb
  ·rename_i hu
   cases fuel with
   | zero=>simp[DataW.trod]at h
   | succ n=>
    obtain⟨b,rfl,rfl,hn⟩:=DataW.trod_string hu h
    simp[DataW.trod,hu,hn]
  ·cases hb
 | .sl y,t,fuel,cs,x,hb,h,hp=>by
  simp only[tyB]at hb
  split at hb
  rotate_left
  ·cases hb
  rename_i e hu
  simp only[Bool.and_eq_true,beq_iff_eq,decide_eq_true_eq]at hb
  obtain⟨hy,hce,hpos⟩:=hb
  rcases DataW.trod_slice hu h with⟨rfl,rfl⟩ | ⟨a,len,cap,elems,rest,n,rfl,rfl,rfl,hb',hl,hm,hel,he,hsp,_⟩
  ·cases fuel with
   | zero=>simp[DataW.trod]at h
   | succ n=>simp[DataW.trod,hu]
  ·unfold DataW.trod at h⊢
   rw[hu]at h⊢
   simp only[hb',hl,hm,and_self,if_true]at h⊢
   simp only[Option.bind_eq_some_iff,Option.map_eq_some_iff]at h⊢
   obtain⟨el,h1,re,h2,h3⟩:=h
   have hel':el.length=len:=by simpa using mapM_some_length h1
   have hre':re.length=cap-len:=by simpa using mapM_some_length h2
   simp only[Prod.mk.injEq]at h3
   obtain⟨_,h3⟩:=h3
   have hsub:∀y',y'∈el++re→∀p,p∈y'.2→sp p.block=true:=by
    intro y' hy' p hpy
    refine hp p ?_
    rw[←h3]
    exact List.mem_append.2 (.inr (List.mem_flatMap.2 ⟨y',hy',hpy⟩))
   have step:∀(i:Nat) (y':DataW H×List MemPlace),y'∈el++re→(w.cells? base (a.add (i*P.cellsOf e)) (P.cellsOf e)).bind (DataW.trod enc P w base (fun _=>true) held n e)=some y'→
    (w'.cells? base (a.add (i*P.cellsOf e)) (P.cellsOf e)).bind (DataW.trod enc P w' base sp held n e)=some y':=by
    intro i y' hy' h
    simp only[Option.bind_eq_some_iff]at h⊢
    obtain⟨cs',g1,g2⟩:=h
    exact⟨cs',ABQ hw g1,Avf hw y e n cs' y' hy g2 (hsub y' hy')⟩
   refine⟨el,XP h1 fun i y' _ hy' h=>step i y' (by simp[hy']) h,re,?_,?_⟩
   ·by_cases hc:cap-len=0
    ·have hr0:re=[]:=List.eq_nil_of_length_eq_zero (by omega)
     subst hr0
     split
     ·rw[hc];rfl
     ·rfl
    ·have hab:sp a.block=true:=by
      refine hp (.cell a.block (a.off+0)) ?_
      rw[←h3]
      refine List.mem_append.2 (.inl ?_)
      unfold MemPlace.row
      simp only[List.mem_map,List.mem_range]
      refine⟨0,?_,rfl⟩
      rw[hce]
      exact Nat.mul_pos (by omega) hpos
     rw[if_pos hab]
     exact XP h2 fun j y' _ hy' h=>step (len+j) y' (by simp[hy']) h
   ·rename_i hx1
    exact Prod.ext hx1 h3
 | .st ys,t,fuel,cs,x,hb,h,hp=>by
  simp only[tyB]at hb
  split at hb
  rotate_left
  ·cases hb
  rename_i fs hu
  simp only[Bool.and_eq_true,beq_iff_eq]at hb
  cases fuel with
  | zero=>simp[DataW.trod]at h
  | succ n=>
   have hcl:cs.length=P.cellsOf t:=by
    obtain⟨_,_,_,_,h,_⟩:=DataW.trod_struct hu h
    exact h
   unfold DataW.trod at h⊢
   rw[hu]at h⊢
   simp only[hcl,if_true,Option.map_eq_some_iff]at h⊢
   obtain⟨xs,h1,rfl⟩:=h
   refine⟨xs,?_,rfl⟩
   have:=AAd hw (sp:=sp) ys 0 fs.toList n cs hb.2
   refine XP h1 fun f y' hf hy' h=>this f hf y' h fun p hpy=>hp p (List.mem_flatMap.2 ⟨y',hy',hpy⟩)
theorem AAd (hw:∀b,b<w.heap.size→w'.heap[b]? =w.heap[b]?) {sp:Nat→Bool}:∀(ys:List Ty) (o:Nat) (fs:List Field) (n:Nat) (cs:List Value),tyL P ys o fs=true→
 ∀f,f∈fs→∀x,DataW.trod enc P w base (fun _=>true) held n f.type ((cs.drop f.offset).take (P.cellsOf f.type))=some x→(∀p,p∈x.2→sp p.block=true)→
  DataW.trod enc P w' base sp held n f.type ((cs.drop f.offset).take (P.cellsOf f.type))=some x
 | [],o,[],n,cs,_,f,hf=>by simp at hf
 | y::ys,o,f::fs,n,cs,hb,f',hf=>by
  simp only[tyL,Bool.and_eq_true,beq_iff_eq]at hb
  obtain⟨⟨hy,ho,hc⟩,hr⟩:=hb
  intro x hx hp
  rcases List.mem_cons.1 hf with rfl | hf
  ·exact Avf hw y _ n _ x hy hx hp
  ·exact AAd hw ys (o+y.cells) fs n cs hr f' hf x hx hp
 | [],_,_::_,_,_,hb,_,_=>by simp[tyL]at hb
 | _::_,_,[],_,_,hb,_,_=>by simp[tyL]at hb
end
end
end Go.Eng
