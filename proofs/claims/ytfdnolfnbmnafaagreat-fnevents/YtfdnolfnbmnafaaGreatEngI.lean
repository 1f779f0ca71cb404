/- Own work: part 9 of the proof of FnEvents. -/
import Derived.Test.YtfdnolfnbmnafaaGreatEngH
set_option linter.unusedSimpArgs false
set_option linter.unusedVariables false
namespace Go.Eng
def Pw (R:V→Value→Prop) (cs:List V) (vs:List Value):Prop:=
 vs.length=cs.length∧∀(i:Nat) (v:V) (x:Value),cs[i]? =some v→vs[i]? =some x→R v x
section
variable {R:V→Value→Prop}
theorem Pw.nil:Pw R [] []:=⟨rfl,by simp⟩
theorem Pw.cons {v:V} {x:Value} {cs:List V} {vs:List Value} (h:R v x) (t:Pw R cs vs):Pw R (v::cs) (x::vs):=by
 refine⟨by simp[t.1],?_⟩
 intro i u y hu hy
 cases i with
 | zero=>simp at hu hy;subst hu;subst hy;exact h
 | succ i=>exact t.2 i u y (by simpa using hu) (by simpa using hy)
theorem Pw.Ju {v:V} {cs:List V} {vs:List Value} (h:Pw R (v::cs) vs):∃x r,vs=x::r∧R v x∧Pw R cs r:=by
 cases vs with
 | nil=>simp[Pw]at h
 | cons x r=>
  refine⟨x,r,rfl,h.2 0 v x (by simp) (by simp),by have:=h.1;simpa using this,?_⟩
  intro i u y hu hy
  exact h.2 (i+1) u y (by simpa using hu) (by simpa using hy)
theorem Pw.PO {vs:List Value} (h:Pw R [] vs):vs=[]:=by
 have:=h.1
 exact List.eq_nil_of_length_eq_zero (by simpa using this)
theorem Pw.append {cs ds:List V} {vs us:List Value} (h:Pw R cs vs) (t:Pw R ds us):Pw R (cs++ds) (vs++us):=by
 induction cs generalizing vs with
 | nil=>rw[h.PO];exact t
 | cons c cs ih=>
  obtain⟨x,r,rfl,h1,h2⟩:=h.Ju
  exact .cons h1 (ih h2)
theorem Pw.set {cs:List V} {vs:List Value} (h:Pw R cs vs) (i:Nat) {v:V} {x:Value} (hv:R v x):Pw R (cs.set i v) (vs.set i x):=by
 refine⟨by simp[h.1],?_⟩
 intro j u y hu hy
 rw[List.getElem?_set]at hu hy
 by_cases hij:i=j
 ·subst hij
  simp only[if_true]at hu hy
  split at hu
  ·cases hu
   split at hy
   ·cases hy;exact hv
   ·cases hy
  ·cases hu
 ·rw[if_neg hij]at hu hy
  exact h.2 j u y hu hy
theorem Pw.putAt {cs ps:List V} {vs ys:List Value} (h:Pw R cs vs) (off:Nat) (hp:Pw R ps ys):Pw R (putAt cs off ps) (putAt vs off ys):=by
 induction ps generalizing cs vs ys off with
 | nil=>rw[hp.PO];exact h
 | cons p ps ih=>
  obtain⟨y,r,rfl,h1,h2⟩:=hp.Ju
  exact ih (h.set off h1) (off+1) h2
theorem Pw.mono {R':V→Value→Prop} {cs:List V} {vs:List Value} (h:Pw R cs vs) (hr:∀v x,R v x→R' v x):Pw R' cs vs:=
 ⟨h.1,fun i v x hv hx=>hr _ _ (h.2 i v x hv hx)⟩
theorem Pw.seg {cs:List V} {vs:List Value} (h:Pw R cs vs) (off n:Nat):Pw R ((cs.drop off).take n) ((vs.drop off).take n):=by
 refine⟨by simp[h.1],?_⟩
 intro i v x hv hx
 rw[Ie]at hv hx
 split at hx
 ·rename_i hi;rw[if_pos hi]at hv;exact h.2 _ _ _ hv hx
 ·cases hx
end
theorem Uf {α:Type} (cs ps:List α) (off:Nat):(putAt cs off ps).length=cs.length:=by
 induction ps generalizing cs off with
 | nil=>rfl
 | cons p ps ih=>simp[putAt,ih]
theorem AHc {α:Type} {l:List α} {i:Nat} {a x:α} (h:x∈l.set i a):x∈l∨x=a:=by
 rcases List.mem_or_eq_of_mem_set h with h | h
 ·exact .inl h
 ·exact .inr h
theorem AA2 {vs ys:List Value} (h:GY vs) (off:Nat) (hy:GY ys):GY (putAt vs off ys):=by
 induction ys generalizing vs off with
 | nil=>exact h
 | cons y ys ih=>
  refine ih ?_ (off+1) (fun x hx=>hy x (by simp[hx]))
  intro x hx
  rcases AHc hx with h1 | h1
  ·exact h x h1
  ·subst h1;exact hy x (by simp)
theorem Aaz {α:Type} (cs ps:List α) (off i:Nat) (h:off+ps.length≤cs.length):
 (putAt cs off ps)[i]? =if off≤i∧i<off+ps.length then ps[i-off]? else cs[i]? :=by
 induction ps generalizing cs off with
 | nil=>
  simp only[putAt,List.length_nil,Nat.add_zero]
  rw[if_neg (by omega)]
 | cons p ps ih=>
  simp only[putAt]
  rw[ih (cs.set off p) (off+1) (by simp at h⊢;omega)]
  simp only[List.length_cons]at h⊢
  by_cases h1:off+1≤i∧i<off+1+ps.length
  ·rw[if_pos h1,if_pos (by omega)]
   rw[show i-off=(i-(off+1))+1 by omega]
   simp
  ·rw[if_neg h1,List.getElem?_set]
   by_cases h2:off=i
   ·subst h2
    rw[if_pos rfl,if_pos (by omega),if_pos (by omega)]
    simp
   ·rw[if_neg h2,if_neg (by omega)]
theorem AuZ (ys:List Value) (off:Nat):∀(s:Nat) (cells:Array Value),
 ((ys.zipIdx s).foldl (fun(cs:Array Value) (p:Value×Nat)=>cs.setIfInBounds (off+p.2) p.1) cells).toList=putAt cells.toList (off+s) ys:=by
 induction ys with
 | nil=>intro s cells;rfl
 | cons y ys ih=>
  intro s cells
  simp only[List.zipIdx_cons,List.foldl_cons,putAt]
  rw[ih (s+1)]
  simp[Array.toList_setIfInBounds,Nat.add_assoc]
def An6 (P:Program) (t:TypeId) (i off n:Nat):Bool:=
 match P.underlying t with
 | some (.struct fs)=>match fs[i]? with
  | some fd=>fd.offset==off&&szB P fd.type==some n
  | none=>false
 | some (.array _ et)=>szB P et==some n&&off==i*n
 | _=>false
def Aak (P:Program) (t:TypeId):Bool:=
 match P.underlying t with
 | some (.struct fs)=>fs.toList.all fun f=>(szB P f.type).isSome
 | some (.array _ et)=>(szB P et).isSome
 | _=>false
section
variable {P:Program} {F:Fr} {β:Nat→Base} {own:Nat→Option (Nat×List Nat)} {H:Hp} {w w':World}
theorem ABy (l:List Field) (h:l.all (fun f=>(szB P f.type).isSome)=true):
 (l.mapM fun f=>do pure (f.offset,←sizeOf f.type):Sem (List (Nat×Nat))).run P w= .ok (l.map fun f=>(f.offset,(szB P f.type).getD 0)) w:=by
 induction l with
 | nil=>simp
 | cons f l ih=>
  simp only[List.all_cons,Bool.and_eq_true]at h
  obtain⟨n,hn⟩:=Option.isSome_iff_exists.1 h.1
  rw[List.mapM_cons]
  simp only[Sem.run_bind,Hf hn,Result.andThen_ok,Sem.run_pure,ih h.2,List.map_cons,hn,Option.getD_some]
theorem Zh {v:V} {x:Value} {ps:List V} (hv:VR F β own H w v x) (h:cellsOf v=some ps):Pw (VR F β own H w) ps x.cells.toList∧GY x.cells.toList:=by
 have one:∀ {u:V},VR F β own H w u x→x.oneCell' =true→ps=[u]→Pw (VR F β own H w) ps x.cells.toList∧GY x.cells.toList:=by
  intro u hu h1 hp
  subst hp
  have:x.cells.toList=[x]:=by cases x<;>simp_all[Value.cells,Value.oneCell']
  rw[this]
  exact⟨.cons hu .nil,by intro y hy;simp at hy;subst hy;exact h1⟩
 cases v with
 | agg cs=>
  cases h
  cases hv with
  | agg h1 hl hc=>exact⟨⟨by simpa[Value.cells]using hl,fun i v x hv hx=>hc i v x hv (by simpa[Value.cells]using hx)⟩,by simpa[Value.cells]using h1⟩
 | tup=>cases h
 | undef=>cases h
 | sc a=>cases h;cases hv;exact one (.sc ‹_›) ‹_› rfl
 | nil e=>cases h;cases hv;exact one (.nil e) rfl rfl
 | sl fl e len cs=>cases h;cases hv with | rd h1 hr=>have:=hr;cases hr;exact one (.rd h1 this) rfl rfl
 | arr k=>
  cases h
  have hv':=hv
  cases hv with
  | goneA hd=>exact one hv' rfl rfl
  | arr hk=>exact one hv' rfl rfl
 | sub k off len=>
  cases h
  have hv':=hv
  cases hv with
  | goneS hd=>exact one hv' rfl rfl
  | sub hk hn hx=>obtain⟨a',rfl,_⟩:=hx;exact one hv' rfl rfl
 | ptr k off=>
  cases h
  have hv':=hv
  cases hv with
  | goneP hd=>exact one hv' rfl rfl
  | ptr hk hb=>exact one hv' rfl rfl
 | rptr fl cs off=>cases h;have hv':=hv;cases hv with | rptr h1 hr=>cases hr;exact one hv' rfl rfl
 | fn g caps=>cases h;have hv':=hv;cases hv;exact one hv' rfl rfl
theorem AD7 {ev:Src→V} {place:Nat→Option (Nat×Nat)}:∀ {ps:List (Nat×Nat×Src)} {qs:List (Nat×Value)} {zero cs:List V} {cells:Array Value},
 ps.length=qs.length→(∀(j:Nat) (p:Nat×Nat×Src) (q:Nat×Value),ps[j]? =some p→qs[j]? =some q→place q.1=some (p.1,p.2.1)∧VR F β own H w (ev p.2.2) q.2)→
 Pw (VR F β own H w) zero cells.toList→GY cells.toList→YZ ev zero ps=some cs→
 ∃cells',Instr.fill place cells qs=some cells'∧Pw (VR F β own H w) cs cells'.toList∧GY cells'.toList:=by
 intro ps
 induction ps with
 | nil=>
  intro qs zero cs cells hl hs hz h1 h
  cases qs with
  | nil=>simp[YZ]at h;subst h;exact⟨cells,rfl,hz,h1⟩
  | cons=>simp at hl
 | cons p ps ih=>
  intro qs zero cs cells hl hs hz h1 h
  cases qs with
  | nil=>simp at hl
  | cons q qs=>
   obtain⟨off,n,x⟩:=p
   obtain⟨i,v⟩:=q
   simp only[YZ]at h
   obtain⟨g1,g2⟩:=hs 0 (off,n,x) (i,v) (by simp) (by simp)
   cases hc:cellsOf (ev x)with
   | none=>simp[hc]at h
   | some c=>
    simp only[hc]at h
    split at h
    ·rename_i hh
     obtain⟨h3,h4⟩:=Zh g2 hc
     have hsz:v.cells.size=n:=by have:=h3.1;simp at this;omega
     have hcz:cells.size=zero.length:=by have:=hz.1;simpa using this
     simp only[Instr.fill,g1]
     rw[if_neg (by simp;omega)]
     have hput:(v.cells.zipIdx.foldl (fun cs (c,j)=>cs.setIfInBounds (off+j) c) cells).toList=putAt cells.toList off v.cells.toList:=by
      have:=AuZ v.cells.toList off 0 cells
      rw[←Array.foldl_toList]
      simpa using this
     refine ih (by simpa using hl) (fun j p q hp hq=>hs (j+1) p q (by simpa using hp) (by simpa using hq)) ?_ ?_ h
     ·rw[hput];exact hz.putAt off h3
     ·rw[hput];exact AA2 h1 off h4
    ·cases h
def Azi (P:Program) (Ah:Nat→Option FuncId) (t:TypeId) (zero:List V):Bool:=
 match P.info? t with
 | some i=>match i.zero with
  | some z=>cVs Ah zero z.cells.toList&&z.cells.toList.all (·.oneCell')
  | none=>false
 | none=>false
theorem Aq7 {t:TypeId} {zero:List V} (h:Azi P F.Ah t zero=true):∃z,(zeroValue t).run P w= .ok z w∧Pw (VR F β own H w) zero z.cells.toList∧GY z.cells.toList:=by
 unfold Azi at h
 cases hi:P.info? t with
 | none=>simp[hi]at h
 | some i=>
  cases hz:i.zero with
  | none=>simp[hi,hz]at h
  | some z=>
   simp only[hi,hz,Bool.and_eq_true]at h
   refine⟨z,by simp[zeroValue,typeInfo,hi,hz],AMv h.1,?_⟩
   intro x hx
   exact List.all_eq_true.1 h.2 x hx
def Aep (P:Program) (t:TypeId):List (Nat×Nat×Src)→List (Nat×Operand)→Bool
 | [],[]=>true
 | (off,n,_)::r,(i,_)::s=>An6 P t i off n&&Aep P t r s
 | _,_=>false
theorem AkA {t:TypeId}:∀ {ps:List (Nat×Nat×Src)} {qs:List (Nat×Operand)},Aep P t ps qs=true→
 ps.length=qs.length∧∀(j:Nat) (p:Nat×Nat×Src) (q:Nat×Operand),ps[j]? =some p→qs[j]? =some q→An6 P t q.1 p.1 p.2.1=true
 | [],[],_=>by simp
 | [],_::_,h=>by simp[Aep]at h
 | _::_,[],h=>by simp[Aep]at h
 | p::r,q::s,h=>by
  simp only[Aep,Bool.and_eq_true]at h
  obtain⟨h1,h2⟩:=AkA h.2
  refine⟨by simp[h1],?_⟩
  intro j p' q' hp hq
  cases j with
  | zero=>simp at hp hq;subst hp;subst hq;exact h.1
  | succ j=>exact h2 j p' q' (by simpa using hp) (by simpa using hq)
theorem AG4 {t:TypeId} {ev:Src→V} {ρ:Operand→Value} {zero:List V} {ps:List (Nat×Nat×Src)} {qs:Array (Nat×Operand)} (hz:Azi P F.Ah t zero=true) (hf:Aak P t=true)
 (hp:Aep P t ps qs.toList=true) (hev:∀(j:Nat) (p:Nat×Nat×Src) (q:Nat×Operand),ps[j]? =some p→qs.toList[j]? =some q→VR F β own H w (ev p.2.2) (ρ q.2))
 {cs:List V} (h:YZ ev zero ps=some cs):
 ∃x,(Instr.build t (qs.map fun(i,x)=>(i,ρ x))).run P w= .ok x w∧VR F β own H w (.agg cs) x:=by
 obtain⟨z,hz1,hz2,hz3⟩:=Aq7 (F:=F) (β:=β) (own:=own) (H:=H) (w:=w) hz
 obtain⟨hl,hpl⟩:=AkA hp
 unfold Aak at hf
 have fin:∀(place:Nat→Option (Nat×Nat)),(∀i off n,An6 P t i off n=true→place i=some (off,n))→
  ∃cells',Instr.fill place z.cells (qs.map fun(i,x)=>(i,ρ x)).toList=some cells'∧VR F β own H w (.agg cs) (.agg cells'):=by
  intro place hplace
  obtain⟨cells',h1,h2,h3⟩:=AD7 (F:=F) (β:=β) (own:=own) (H:=H) (w:=w) (ev:=ev) (place:=place) (ps:=ps) (qs:=(qs.map fun(i,x)=>(i,ρ x)).toList) (zero:=zero) (cells:=z.cells) (cs:=cs)
   (by simpa using hl) (by
    intro j p q hp' hq'
    simp only[Array.toList_map,List.getElem?_map,Option.map_eq_some_iff]at hq'
    obtain⟨q0,hq0,rfl⟩:=hq'
    exact⟨hplace _ _ _ (hpl j p q0 hp' hq0),hev j p q0 hp' hq0⟩) hz2 hz3 h
  refine⟨cells',h1,?_⟩
  have:=VR.agg (F:=F) (β:=β) (own:=own) (H:=H) (w:=w) (cs:=cs) (vs:=cells'.toList) h3 h2.1 h2.2
  simpa using this
 split at hf
 ·rename_i fs hu
  obtain⟨cells',h1,h2⟩:=fin ((fs.toList.map fun f=>(f.offset,(szB P f.type).getD 0)).toArray[·]?) (by
   intro i off n hp
   unfold An6 at hp
   simp only[hu]at hp
   cases hfi:fs[i]? with
   | none=>simp[hfi]at hp
   | some fd=>
    simp only[hfi,Bool.and_eq_true,beq_iff_eq]at hp
    obtain⟨rfl,h2⟩:=hp
    have:fs.toList[i]? =some fd:=by simpa using hfi
    simp[this,h2])
  refine⟨_,?_,h2⟩
  have hm:(fs.mapM fun f=>do pure (f.offset,←sizeOf f.type):Sem (Array (Nat×Nat))).run P w= .ok (fs.toList.map fun f=>(f.offset,(szB P f.type).getD 0)).toArray w:=by
   rw[Array.mapM_eq_mapM_toList]
   simp only[Sem.run_map,ABy _ hf,Result.andThen_ok]
  simp only[Instr.build,Sem.run_bind,hz1,Result.andThen_ok,run_underlying hu,hm,h1,Sem.run_pure]
 ·rename_i et hu
  obtain⟨n,hn⟩:=Option.isSome_iff_exists.1 hf
  obtain⟨cells',h1,h2⟩:=fin (fun i=>some (i*n,n)) (by
   intro i off m hp
   unfold An6 at hp
   simp only[hu,Bool.and_eq_true,beq_iff_eq]at hp
   obtain⟨h1,rfl⟩:=hp
   rw[hn]at h1
   cases h1
   rfl)
  refine⟨_,?_,h2⟩
  simp only[Instr.build,Sem.run_bind,hz1,Result.andThen_ok,run_underlying hu,Hf hn,h1,Sem.run_pure]
 ·cases hf
end
end Go.Eng
