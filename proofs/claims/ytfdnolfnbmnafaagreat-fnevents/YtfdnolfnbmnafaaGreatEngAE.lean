/- Own work: part 31 of the proof of FnEvents. -/
import Derived.Test.YtfdnolfnbmnafaaGreatEngAD
set_option linter.unusedSimpArgs false
set_option linter.unusedVariables false
namespace Go.Eng
def Ac1:List Oper→List Nat→List Nat
 | [],acc=>acc
 | o::r,acc=>Ac1 r (acc++ [o.after.toList.foldl (fun m e=>if Region.binds .any e then m|||(1 <<< e.on)|||acc.getD e.on 0 else m) 0])
def AH2 (l:List Nat) (q j:Nat):Bool:=(l.getD q 0).testBit j
def AvH:List Tmp→Bool
 | []=>true
 | a::r=> !r.contains a&&AvH r
def opB (P:Program) (Ah:Nat→Option FuncId) (takes:List Nat) (st:List Tmp) (nt:Nat) (dsts:List (Option Tmp)) (anc:Nat→Nat→Bool) (q:Nat) (rop:Qq) (o:Oper):Bool:=
 mOp P Ah takes (okS Ah st dsts anc q) rop.op o.op&&(o.guard==rop.guard)&&
 (match rop.guard with
  | none=>true
  | some (j,_)=>anc q j&&(match dsts[j]? with | some (some _)=>true | _=>false))&&
 (match o.dst with
  | none=>true
  | some t=>decide (t<nt))&&
 (!AgA rop.op||(match rop.tau with
  | none=>true
  | some l=>takes.all fun s=>l.contains s))
def ANU (st:List Tmp) (dsts:List (Option Tmp)) (p:Nat×Nat):Bool:=
 match st[p.1]?,dsts[p.2]? with
 | some t,some (some t')=>t==t'
 | _,_=>false
def AvM (dsts:List (Option Tmp)) (sets:List (Nat×Nat)) (clr:List Nat):List Tmp→Nat→Bool
 | [],_=>true
 | t::r,i=>(!dsts.contains (some t)||sets.any (fun p=>p.1==i)||clr.contains i)&&AvM dsts sets clr r (i+1)
def ADh (all:List Qq) (anc:Nat→Nat→Bool) (q:Nat) (rq:Qq):List Qq→Nat→Bool
 | [],_=>true
 | rj::r,j=>((!(rq.om.any fun k=>(rj.tau.getD []).contains k&& !WQ all rj k)&& !(rj.om.any fun k=>(rq.tau.getD []).contains k&& !WQ all rq k))||anc j q)&&ADh all anc q rq r (j+1)
def ApL (all:List Qq) (anc:Nat→Nat→Bool):List Qq→Nat→Bool
 | [],_=>true
 | rq::r,q=>ADh all anc q rq r (q+1)&&ApL all anc r (q+1)
def AMn (rop:Qq):Bool:=
 match rop.tau with
 | some t=>rop.om.all fun k=>t.contains k
 | none=>false
def preB (o:Oper) (q:Nat):Bool:=o.after.toList.all fun e=> !Region.binds .any e||decide (e.on<q)
def AKy (P:Program) (Ah:Nat→Option FuncId) (takes:List Nat) (st:List Tmp) (nt:Nat) (dsts:List (Option Tmp)) (anc:Nat→Nat→Bool) (d:Bool):List Qq→List Oper→Nat→Bool
 | [],[],_=>true
 | rop::r,o::t,q=>opB P Ah takes st nt dsts anc q rop o&&(!d||(AMn rop&&preB o q))&&AKy P Ah takes st nt dsts anc d r t (q+1)
 | _,_,_=>false
def AMy (P:Program) (Ah:Nat→Option FuncId) (takes:List Nat) (ngiven:Nat) (st:List Tmp) (nt:Nat) (r:Bl) (d:Bool) (ops:Array Oper):Bool:=
 let ol:=ops.toList
 let dsts:=ol.map (·.dst)
 let anc:=if d then AH2 (Ac1 ol [])else AyV
 AKy P Ah takes st nt dsts anc d r.ops ol 0&&AvH (dsts.filterMap id)&&r.sets.all (ANU st dsts)&&AvM dsts r.sets r.clr st 0&&r.fresh.all (fun k=>decide (ngiven≤k))&&
 r.JK.all (ALq ngiven)&&(!d||ApL r.ops anc r.ops 0)
section
variable {P:Program} {F:Fr} {st:List Tmp} {nt:Nat} {β:Nat→Base} {own:Nat→Option (Nat×List Nat)} {s:St} {a:Act} {w:World}
theorem Aua {Ah:Nat→Option FuncId} {takes:List Nat} {dsts:List (Option Tmp)} {anc:Nat→Nat→Bool} {d:Bool}:∀ {rops:List Qq} {ol:List Oper} {q:Nat},AKy P Ah takes st nt dsts anc d rops ol q=true→
 rops.length=ol.length∧∀(i:Nat) (rop:Qq),rops[i]? =some rop→∃o,ol[i]? =some o∧opB P Ah takes st nt dsts anc (q+i) rop o=true∧(d=true→AMn rop=true∧preB o (q+i)=true)
 | [],[],q,_=>by simp
 | [],_::_,q,h=>by cases h
 | _::_,[],q,h=>by cases h
 | rop::r,o::t,q,h=>by
  simp only[AKy,Bool.and_eq_true,Bool.or_eq_true,Bool.not_eq_true']at h
  obtain⟨h1,h2⟩:=Aua h.2
  refine⟨by simp[h1],?_⟩
  intro i rop' hi
  cases i with
  | zero=>
   simp at hi;subst hi
   refine⟨o,by simp,h.1.1,fun hd=> ?_⟩
   rcases h.1.2 with h3 | h3
   ·rw[hd]at h3;cases h3
   ·exact h3
  | succ i=>
   obtain⟨o',g1,g2,g3⟩:=h2 i rop' (by simpa using hi)
   refine⟨o',by simpa using g1,?_,?_⟩
   ·rwa [show q+(i+1)=q+1+i by omega]
   ·rwa [show q+(i+1)=q+1+i by omega]
theorem AaM:∀ {l:List (Option Tmp)},AvH (l.filterMap id)=true→∀(i j:Nat) (t:Tmp),l[i]? =some (some t)→l[j]? =some (some t)→i=j
 | [],_,i,j,t,h,_=>by simp at h
 | none::l,hn,i,j,t,hi,hj=>by
  cases i with
  | zero=>simp at hi
  | succ i=>
   cases j with
   | zero=>simp at hj
   | succ j=>
    have:=AaM (l:=l) (by simpa using hn) i j t (by simpa using hi) (by simpa using hj)
    omega
 | some a::l,hn,i,j,t,hi,hj=>by
  simp only[List.filterMap_cons,id,AvH,Bool.and_eq_true,Bool.not_eq_true']at hn
  have hmem:∀(m:Nat),l[m]? =some (some a)→False:=by
   intro m hm
   have:a∈l.filterMap id:=List.mem_filterMap.2 ⟨some a,List.mem_of_getElem? hm,rfl⟩
   have h2:(l.filterMap id).contains a=true:=by simpa using this
   rw[hn.1]at h2;cases h2
  cases i with
  | zero=>
   simp at hi;subst hi
   cases j with
   | zero=>rfl
   | succ j=>exact(hmem j (by simpa using hj)).elim
  | succ i=>
   cases j with
   | zero=>simp at hj;subst hj;exact(hmem i (by simpa using hi)).elim
   | succ j=>
    have:=AaM (l:=l) hn.2 i j t (by simpa using hi) (by simpa using hj)
    omega
theorem Akp {dsts:List (Option Tmp)} {sets:List (Nat×Nat)} {clr:List Nat}:∀ {st:List Tmp} {q:Nat},AvM dsts sets clr st q=true→∀(i:Nat) (t:Tmp),st[i]? =some t→
 dsts.contains (some t)=false∨(∃j,(q+i,j)∈sets)∨q+i∈clr
 | [],q,_,i,t,hi=>by simp at hi
 | t'::r,q,h,i,t,hi=>by
  simp only[AvM,Bool.and_eq_true,Bool.or_eq_true,Bool.not_eq_true',List.any_eq_true,beq_iff_eq,List.contains_iff_mem]at h
  cases i with
  | zero=>
   simp at hi;subst hi
   rcases h.1 with(h1 | ⟨p,h1,h2⟩) | h1
   ·exact .inl h1
   ·exact .inr (.inl ⟨p.2,by rw[Nat.add_zero,←h2];exact h1⟩)
   ·exact .inr (.inr h1)
  | succ i=>
   have:=Akp h.2 i t (by simpa using hi)
   rwa [show q+1+i=q+(i+1)by omega]at this
theorem ApR {all:List Qq} {anc:Nat→Nat→Bool} {q:Nat} {rq:Qq}:∀ {l:List Qq} {j0:Nat},ADh all anc q rq l j0=true→∀(j:Nat) (rj:Qq),l[j]? =some rj→
 ∀k,(k∈rq.om∧k∈rj.tau.getD []∧WQ all rj k=false∨k∈rq.tau.getD []∧k∈rj.om∧WQ all rq k=false)→anc (j0+j) q=true
 | [],j0,_,j,rj,hj,_,_=>by simp at hj
 | r1::l,j0,h,j,rj,hj,k,hk=>by
  simp only[ADh,Bool.and_eq_true,Bool.or_eq_true,Bool.not_eq_true',List.any_eq_false,List.contains_iff_mem,not_and]at h
  cases j with
  | zero=>
   simp at hj;subst hj
   rcases h.1 with h1 | h1
   ·rcases hk with hk | hk
    ·exact absurd hk.2.2 (h1.1 k hk.1 hk.2.1)
    ·exact absurd hk.2.2 (h1.2 k hk.2.1 hk.1)
   ·exact h1
  | succ j=>
   have:=ApR h.2 j rj (by simpa using hj) k hk
   rwa [show j0+1+j=j0+(j+1)by omega]at this
theorem AkE {all:List Qq} {anc:Nat→Nat→Bool}:∀ {l:List Qq} {q0:Nat},ApL all anc l q0=true→∀(i j:Nat) (ri rj:Qq),i<j→l[i]? =some ri→l[j]? =some rj→
 ∀k,(k∈ri.om∧k∈rj.tau.getD []∧WQ all rj k=false∨k∈ri.tau.getD []∧k∈rj.om∧WQ all ri k=false)→anc (q0+j) (q0+i)=true
 | [],q0,_,i,j,ri,rj,_,hi,_,_,_=>by simp at hi
 | r1::l,q0,h,i,j,ri,rj,hij,hi,hj,k,hk=>by
  simp only[ApL,Bool.and_eq_true]at h
  cases j with
  | zero=>omega
  | succ j=>
   cases i with
   | zero=>
    simp at hi;subst hi
    have:=ApR h.1 j rj (by simpa using hj) k hk
    rwa [show q0+1+j=q0+(j+1)by omega]at this
   | succ i=>
    have:=AkE h.2 i j ri rj (by omega) (by simpa using hi) (by simpa using hj) k hk
    rwa [show q0+1+j=q0+(j+1)by omega,show q0+1+i=q0+(i+1)by omega]at this
theorem Auv {acc:List Nat}:∀(es:List Edge) (m j:Nat),(es.foldl (fun m e=>if Region.binds .any e then m|||(1 <<< e.on)|||acc.getD e.on 0 else m) m).testBit j=true→
 m.testBit j=true∨∃e,e∈es∧Region.binds .any e=true∧(e.on=j∨(acc.getD e.on 0).testBit j=true)
 | [],m,j,h=> .inl h
 | e::es,m,j,h=>by
  simp only[List.foldl_cons]at h
  rcases Auv es _ j h with h1 | ⟨e',h1,h2,h3⟩
  ·split at h1
   ·rename_i hb
    simp only[Nat.testBit_or,Bool.or_eq_true]at h1
    rcases h1 with(h1 | h1) | h1
    ·exact .inl h1
    ·refine .inr ⟨e,by simp,hb,.inl ?_⟩
     rw[Nat.one_shiftLeft,Nat.testBit_two_pow]at h1
     simpa using h1
    ·exact .inr ⟨e,by simp,hb,.inr h1⟩
   ·exact .inl h1
  ·exact .inr ⟨e',by simp[h1],h2,h3⟩
theorem Arz:∀(ol:List Oper) (acc:List Nat),(∀(i:Nat),i<acc.length→(Ac1 ol acc)[i]? =acc[i]?)∧
 ∀(i:Nat) (o:Oper),ol[i]? =some o→∀j,((Ac1 ol acc).getD (acc.length+i) 0).testBit j=true→
  ∃e,e∈o.after∧Region.binds .any e=true∧(e.on=j∨((Ac1 ol acc).getD e.on 0).testBit j=true)
 | [],acc=>⟨fun _ _=>rfl,by simp⟩
 | o::r,acc=>by
  obtain⟨h1,h2⟩:=Arz r (acc++ [o.after.toList.foldl (fun m e=>if Region.binds .any e then m|||(1 <<< e.on)|||acc.getD e.on 0 else m) 0])
  refine⟨fun i hi=> ?_,?_⟩
  ·have:=h1 i (by simp;omega)
   rw[List.getElem?_append_left hi]at this
   exact this
  ·intro i o' hi j hj
   cases i with
   | zero=>
    simp at hi;subst hi
    have hrow:=h1 acc.length (by simp)
    rw[List.getElem?_append_right (Nat.le_refl _)]at hrow
    simp only[Nat.sub_self,List.getElem?_cons_zero]at hrow
    have hj':((o.after.toList.foldl (fun m e=>if Region.binds .any e then m|||(1 <<< e.on)|||acc.getD e.on 0 else m) 0)).testBit j=true:=by
     have h3:(Ac1 (o::r) acc)[acc.length]? =_:=hrow
     rw[Nat.add_zero,List.getD_eq_getElem?_getD,h3]at hj
     exact hj
    rcases Auv _ 0 j hj' with h4 | ⟨e,h4,h5,h6⟩
    ·simp at h4
    ·refine⟨e,Array.mem_toList_iff.1 h4,h5,?_⟩
     rcases h6 with h6 | h6
     ·exact .inl h6
     ·right
      have hlt:e.on<acc.length:=by
       rcases Nat.lt_or_ge e.on acc.length with h | h
       ·exact h
       ·rw[List.getD_eq_getElem?_getD,List.getElem?_eq_none h]at h6;simp at h6
      have:=h1 e.on (by simp;omega)
      rw[List.getElem?_append_left hlt]at this
      show((Ac1 r _).getD e.on 0).testBit j=true
      rw[List.getD_eq_getElem?_getD,this,←List.getD_eq_getElem?_getD]
      exact h6
   | succ i=>
    have:=h2 i o' (by simpa using hi) j (by
     rw[show(acc++ [o.after.toList.foldl (fun m e=>if Region.binds .any e then m|||(1 <<< e.on)|||acc.getD e.on 0 else m) 0]).length+i=acc.length+(i+1)by simp;omega]
     exact hj)
    exact this
end
end Go.Eng
