/- Own work: part 23 of the proof of FnEvents. -/
import Derived.Test.YtfdnolfnbmnafaaGreatEngV
import Derived.Orders
set_option linter.unusedSimpArgs false
set_option linter.unusedVariables false
namespace Go.Eng
set_option linter.unusedVariables false
def okS (Ah:Nat→Option FuncId) (st:List Tmp) (dsts:List (Option Tmp)) (anc:Nat→Nat→Bool) (q:Nat):Src→Operand→Bool
 | .loc j,.tmp t=>anc q j&&dsts[j]? ==some (some t)
 | .slot i,.tmp t=>st[i]? ==some t&&(List.range dsts.length).all fun j=>dsts[j]? !=some (some t)||j==q||anc j q
 | .con v,.const x=>cV Ah v x
 | .con v,.func f=>cV Ah v (.func (.func f) #[] #[])
 | _,_=>false
theorem AKu (H:List O) (k:Nat) (o:O) (j:Nat):hp (AoW H k o) j=if j=k then o else hp H j:=by
 induction H generalizing k j with
 | nil=>
  induction k generalizing j with
  | zero=>cases j<;>simp[AoW,hp]
  | succ k ih=>
   cases j with
   | zero=>simp[AoW,hp]
   | succ j=>
    have:=ih j
    simp only[AoW,hp,List.getD_cons_succ]at this⊢
    rw[this]
    simp
 | cons a r ih=>
  cases k with
  | zero=>cases j<;>simp[AoW,hp]
  | succ k=>
   cases j with
   | zero=>simp[AoW,hp]
   | succ j=>
    have:=ih k j
    simp only[AoW,hp,List.getD_cons_succ]at this⊢
    rw[this]
    simp
theorem ADE (u:Gq):∀(H:List O),hp (Ahj H u)=A7 (hp H) u:=by
 induction u with
 | nil=>intro H;rfl
 | cons a u ih=>
  intro H
  obtain⟨k,o⟩:=a
  simp only[Ahj,A7]
  rw[ih]
  congr 1
  funext j
  exact AKu H k o j
theorem AyD (t:Option (List Nat)) (H:Hp) (k:Nat):masked t H k=H k∨masked t H k= .dead:=by
 unfold masked
 cases t with
 | none=>exact .inl rfl
 | some l=>
  dsimp only
  split
  ·exact .inl rfl
  ·exact .inr rfl
structure At (F:Fr) (st:List Tmp) (nt:Nat) (dsts:List (Option Tmp)) (env:List V) (β:Nat→Base) (own:Nat→Option (Nat×List Nat)) (vals:Nat→V) (S:Nat→Prop) (H:Hp) (a:Act) (w:World):Prop where
 inv:Inv F β own H w
 loc:∀j t,S j→dsts[j]? =some (some t)→VR F β own H w (vals j) (a.tmps.getD t undef)
 slot:∀i t,st[i]? =some t→(∀j,S j→dsts[j]? ≠some (some t))→VR F β own H w (env.getD i .undef) (a.tmps.getD t undef)
 nt:a.tmps.size=nt
 defers:a.defers=[]
section
variable {P:Program} {F:Fr} {β β':Nat→Base} {own own':Nat→Option (Nat×List Nat)} {H H':Hp} {w w':World} {st:List Tmp} {nt:Nat} {dsts:List (Option Tmp)} {env:List V} {vals:Nat→V} {S:Nat→Prop} {a:Act}
theorem AG7 {a:Act} {d t:Nat} {x:Value} (hd:d<a.tmps.size):(a.put (some d) x).tmps.getD t undef=if t=d then x else a.tmps.getD t undef:=by
 simp only[Act.put,Array.getD_eq_getD_getElem?,Array.getElem?_setIfInBounds]
 by_cases h:d=t
 ·subst h;simp[hd]
 ·have h':t≠d:=fun e=>h e.symm
  simp[h,h']
theorem At.step (at_:At F st nt dsts env β own vals S H a w) (hp:∀z y,VR F β own H w z y→VR F β' own' H' w' z y) (inv:Inv F β' own' H' w') {q:Nat} {dst:Option Tmp} {v:V} {x:Value}
 (hv:VR F β' own' H' w' v x) (hdst:dsts[q]? =some dst) (hdis:∀j t,S j→dst=some t→dsts[j]? ≠some (some t)) (hlt:∀t,dst=some t→t<nt) {vals':Nat→V}
 (hvals:∀j,S j→vals' j=vals j) (hvq:vals' q=v) (hq:¬S q):At F st nt dsts env β' own' vals' (fun j=>S j∨j=q) H' (a.put dst x) w':=by
 have hget:∀t,(a.put dst x).tmps.getD t undef=if dst=some t then x else a.tmps.getD t undef:=by
  intro t
  cases dst with
  | none=>simp[Act.put]
  | some d=>
   rw[AG7 (by rw[at_.nt];exact hlt d rfl)]
   by_cases h:t=d
   ·simp[h]
   ·have:d≠t:=fun e=>h e.symm
    simp[h,this]
 refine⟨inv,?_,?_,?_,?_⟩
 ·intro j t hj hd
  rw[hget]
  rcases hj with hj | hj
  ·have hne:dst≠some t:=fun h=>hdis j t hj h hd
   rw[if_neg hne,hvals j hj]
   exact hp _ _ (at_.loc j t hj hd)
  ·subst hj
   rw[hdst]at hd
   have:dst=some t:=by simpa using hd
   rw[if_pos this,hvq]
   exact hv
 ·intro i t hi hn
  rw[hget]
  have hne:dst≠some t:=fun h=>hn q (.inr rfl) (by rw[hdst,h])
  rw[if_neg hne]
  exact hp _ _ (at_.slot i t hi fun j hj=>hn j (.inl hj))
 ·rw[←at_.nt]
  cases dst<;>simp[Act.put]
 ·rw[←at_.defers]
  cases dst<;>simp[Act.put]
theorem At.ok (at_:At F st nt dsts env β own vals S H a w) {anc:Nat→Nat→Bool} {q:Nat} (hS:∀j,anc q j=true→S j) (hcl:∀j,S j→anc j q=false) (hq:¬S q) {ev:Src→V}
 (he1:∀j,S j→ev (.loc j)=vals j) (he2:∀i,ev (.slot i)=env.getD i .undef) (he3:∀v,ev (.con v)=v):
 ∀s x,okS F.Ah st dsts anc q s x=true→VR F β own H w (ev s) (a.eval x):=by
 intro s x h
 unfold okS at h
 split at h
 ·rename_i j t
  simp only[Bool.and_eq_true,beq_iff_eq]at h
  rw[he1 j (hS j h.1)]
  exact at_.loc j t (hS j h.1) h.2
 ·rename_i i t
  simp only[Bool.and_eq_true,beq_iff_eq,List.all_eq_true,List.mem_range,Bool.or_eq_true,bne_iff_ne,ne_eq]at h
  rw[he2]
  refine at_.slot i t h.1 fun j hj hd=> ?_
  have hlt:j<dsts.length:=(List.getElem?_eq_some_iff.1 hd).1
  rcases h.2 j hlt with(h1 | h1) | h1
  ·exact h1 hd
  ·exact hq (h1▸hj)
  ·rw[hcl j hj]at h1;cases h1
 ·rw[he3];exact AIW h
 ·rw[he3];exact AIW h
 ·cases h
structure Aww (P:Program) (F:Fr) (c:Cf) (st:List Tmp) (nt:Nat) (dsts:List (Option Tmp)) (anc:Nat→Nat→Bool) (q:Nat) (rop:Qq) (o:Oper):Prop where
 op:mOp P F.Ah c.takes (okS F.Ah st dsts anc q) rop.op o.op=true
 guard:o.guard=rop.guard
 gin:∀j t,rop.guard=some (j,t)→anc q j=true∧∃d,dsts[j]? =some (some d)
 dst:dsts[q]? =some o.dst
 lt:∀t,o.dst=some t→t<nt
 tk:AgA rop.op=true→∀l,rop.tau=some l→∀s,s∈c.takes→s∈l
theorem AgS {ops:Array Oper} {o:Oper} {q:Nat} (at_:At F st nt dsts env β own vals S H a w) (hdd:∀j:Nat,dsts[j]? =(ops[j]?).map (·.dst)) {j:Nat} {t b:Bool} (hg:o.guard=some (j,t)) {d:Tmp}
 (hd:dsts[j]? =some (some d)) (hj:S j) (hv:vals j= .sc (.bool b)) (hlt:d<nt):Region.wanted o (yielded ops a.tmps)=(b==t):=by
 have h1:=at_.loc j d hj hd
 rw[hv]at h1
 have h2:=Pz h1
 have h3:(ops[j]?).bind (·.dst)=some d:=by
  have:=hdd j
  rw[hd]at this
  cases ho:ops[j]? with
  | none=>rw[ho]at this;cases this
  | some o'=>rw[ho]at this;simp at this;simp[←this]
 have h4:a.tmps[d]? =some (.bool b):=by
  rw[Array.getD_eq_getD_getElem?]at h2
  have hs:d<a.tmps.size:=by rw[at_.nt];exact hlt
  rw[Array.getElem?_eq_getElem hs]at h2⊢
  simpa using h2
 simp only[Region.wanted,hg,yielded,h3,Option.bind_some,h4]
 cases b<;>cases t<;>rfl
theorem Akw {ops:Array Oper} {o:Oper} {q:Nat} (at_:At F st nt dsts env β own vals S H a w) (hdd:∀j:Nat,dsts[j]? =(ops[j]?).map (·.dst)) {j:Nat} {t:Bool} (hg:o.guard=some (j,t)) {d:Tmp}
 (hd:dsts[j]? =some (some d)) (hj:S j) (hv:vals j= .tup []) (hlt:d<nt):Region.wanted o (yielded ops a.tmps)=false:=by
 have h1:=at_.loc j d hj hd
 rw[hv]at h1
 have h2:a.tmps.getD d undef= .tuple #[]:=by
  generalize a.tmps.getD d undef=y at h1
  cases h1 with
  | tup hl hc=>
   rename_i vs
   have:vs=[]:=List.eq_nil_of_length_eq_zero (by simpa using hl)
   rw[this]
 have h3:(ops[j]?).bind (·.dst)=some d:=by
  have:=hdd j
  rw[hd]at this
  cases ho:ops[j]? with
  | none=>rw[ho]at this;cases this
  | some o'=>rw[ho]at this;simp at this;simp[←this]
 have h4:a.tmps[d]? =some (.tuple #[]):=by
  rw[Array.getD_eq_getD_getElem?]at h2
  have hs:d<a.tmps.size:=by rw[at_.nt];exact hlt
  rw[Array.getElem?_eq_getElem hs]at h2⊢
  simpa using h2
 simp[Region.wanted,hg,yielded,h3,h4]
theorem AnG {F:Fr} {β:Nat→Base} {own:Nat→Option (Nat×List Nat)} {H:Hp} {w:World}:VR F β own H w (.tup []) undef:=
 VR.tup (cs:=[]) (vs:=[]) rfl (fun i v x h=>by simp at h)
end
end Go.Eng
