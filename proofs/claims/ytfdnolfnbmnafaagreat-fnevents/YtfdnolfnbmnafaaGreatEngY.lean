/- Own work: part 25 of the proof of FnEvents. -/
import Derived.Test.YtfdnolfnbmnafaaGreatEngX
set_option linter.unusedSimpArgs false
set_option linter.unusedVariables false
namespace Go.Eng
theorem Aqh {D:Dn} {c:Cf} {H:Hp} {K:V→Gq→Prop} {g:Nat} {args:List (Bool×V)} {sites:List Nat} (h:KA D c H K g args sites):
 ∃v u,KA D c H (fun v' u'=>v' =v∧u' =u) g args sites∧K v u:=by
 unfold KA at h
 split at h
 ·exact h.elim
 rename_i ks hks
 split at h
 ·exact h.elim
 rename_i hc
 split at h
 ·exact h.elim
 rename_i args' ha
 obtain⟨res,outs,hd,h⟩:=h
 split at h
 ·rename_i u v u' ss hb hi
  refine⟨v,u++u',?_,h⟩
  unfold KA
  rw[hks]
  dsimp only
  rw[if_neg hc,ha]
  dsimp only
  refine⟨res,outs,hd,?_⟩
  rw[hb,hi]
  exact⟨rfl,rfl⟩
 ·exact h.elim
theorem Av1 {r:Option (V×Gq)} {K:V→Gq→Prop} (h:W9 r K):∃v u,W9 r (fun v' u'=>v' =v∧u' =u)∧K v u:=by
 cases r with
 | none=>exact h.elim
 | some p=>exact⟨p.1,p.2,⟨rfl,rfl⟩,h⟩
theorem Ayl {D:Dn} {c:Cf} {H:Hp} {ev:Src→V} {op:JQ} {K:V→Gq→Prop} (h:stepW D c H ev op K):∃v u,stepW D c H ev op (fun v' u'=>v' =v∧u' =u)∧K v u:=by
 cases op with
 | call g args sites=>exact Aqh (D:=D) (c:=c) (H:=H) (g:=g) (sites:=sites) h
 | callp g args sites=>exact Aqh (D:=D) (c:=⟨true,c.takes⟩) (H:=H) (g:=g) (sites:=sites) h
 | callv f args sites=>
  have h':(match ev f with | .fn g caps=>KA D c H K g ((args.map fun(b,x)=>(b,ev x))++caps.map fun v=>(false,v)) sites | _=>False):=h
  split at h'
  ·rename_i g caps he
   obtain⟨v,u,h1,h2⟩:=Aqh h'
   refine⟨v,u,?_,h2⟩
   show(match ev f with | .fn g caps=>KA D c H (fun v' u'=>v' =v∧u' =u) g ((args.map fun(b,x)=>(b,ev x))++caps.map fun v=>(false,v)) sites | _=>False)
   rw[he]
   exact h1
  ·exact h'.elim
 | mv x=>exact Av1 (r:=some (ev x,[])) (show W9 (some (ev x,[])) K from h)
 | makeFunc g caps=>exact Av1 (r:=some (.fn g (caps.map ev),[])) (show W9 (some (.fn g (caps.map ev),[])) K from h)
 | _=>exact Av1 h
structure Tr (D:Dn) (c:Cf) (env:List V) (rop:Qq) (vals:List V) (HL:List O) (v:V) (u:Gq):Prop where
 go:(rop.guard=none∨∃j t,rop.guard=some (j,t)∧vals.getD j .undef= .sc (.bool t))→
  stepW D c (masked rop.tau (hp HL)) (evs vals env) rop.op (fun v' u'=>v' =v∧u' =u)∧okU rop.tau rop.om (hp HL) u=true
 skip:∀j t,rop.guard=some (j,t)→(∃b,vals.getD j .undef= .sc (.bool b)∧(b≠t→v= .tup []∧u=[]))∨(vals.getD j .undef= .tup []∧v= .tup []∧u=[])
def Lv (HL:List O):List Gq→List O
 | []=>HL
 | u::r=>Lv (Ahj HL u) r
theorem trace {D:Dn} {c:Cf} {env:List V} {Qs:List V→List O→Prop}:∀ {rops:List Qq} {vals:List V} {HL:List O},IX D c env rops vals HL Qs→
 ∃(vs:List V) (us:List Gq),vs.length=rops.length∧us.length=rops.length∧Qs (vals++vs) (Lv HL us)∧
  ∀(i:Nat) (rop:Qq),rops[i]? =some rop→Tr D c env rop (vals++vs.take i) (Lv HL (us.take i)) (vs.getD i .undef) (us.getD i [])
 | [],vals,HL,h=>⟨[],[],rfl,rfl,by have h':Qs vals HL:=h;simpa[Lv]using h',by simp⟩
 | rop::rops,vals,HL,h=>by
  have fin:∀ {v:V} {u:Gq},Tr D c env rop vals HL v u→IX D c env rops (vals++ [v]) (Ahj HL u) Qs→∃(vs:List V) (us:List Gq),vs.length=(rop::rops).length∧us.length=(rop::rops).length∧Qs (vals++vs) (Lv HL us)∧
   ∀(i:Nat) (rop':Qq),(rop::rops)[i]? =some rop'→Tr D c env rop' (vals++vs.take i) (Lv HL (us.take i)) (vs.getD i .undef) (us.getD i []):=by
   intro v u ht hr
   obtain⟨vs,us,h1,h2,h3,h4⟩:=trace hr
   refine⟨v::vs,u::us,by simp[h1],by simp[h2],by simpa[Lv]using h3,?_⟩
   intro i rop' hi
   cases i with
   | zero=>simp at hi;subst hi;simpa[Lv]using ht
   | succ i=>
    have:=h4 i rop' (by simpa using hi)
    simpa[Lv]using this
  have goS:(∃(v:V) (u:Gq),Tr D c env rop vals HL v u∧IX D c env rops (vals++ [v]) (Ahj HL u) Qs)→∃(vs:List V) (us:List Gq),vs.length=(rop::rops).length∧us.length=(rop::rops).length∧Qs (vals++vs) (Lv HL us)∧
   ∀(i:Nat) (rop':Qq),(rop::rops)[i]? =some rop'→Tr D c env rop' (vals++vs.take i) (Lv HL (us.take i)) (vs.getD i .undef) (us.getD i []):=fun⟨v,u,h1,h2⟩=>fin h1 h2
  unfold IX at h
  dsimp only at h
  cases hg:rop.guard with
  | none=>
   rw[hg]at h
   obtain⟨v,u,h1,h2,h3⟩:=Ayl h
   exact fin ⟨fun _=>⟨h1,h2⟩,fun j t hh=>by rw[hg]at hh;cases hh⟩ h3
  | some g=>
   obtain⟨j,t⟩:=g
   rw[hg]at h
   dsimp only at h
   split at h
   ·rename_i b hb
    split at h
    ·rename_i hbt
     obtain⟨v,u,h1,h2,h3⟩:=Ayl h
     refine fin ⟨fun _=>⟨h1,h2⟩,fun j' t' hh=> ?_⟩ h3
     rw[hg]at hh;cases hh
     exact .inl ⟨b,hb,fun hn=>absurd hbt hn⟩
    ·rename_i hbt
     refine fin (v:= .tup []) (u:=[]) ⟨fun hh=> ?_,fun j' t' hh=> ?_⟩ h
     ·rcases hh with hh | ⟨j',t',hh,h2⟩
      ·rw[hg]at hh;cases hh
      ·rw[hg]at hh;cases hh
       rw[hb]at h2;cases h2
       exact absurd rfl hbt
     ·rw[hg]at hh;cases hh
      exact .inl ⟨b,hb,fun _=>⟨rfl,rfl⟩⟩
   ·rename_i hb
    refine fin (v:= .tup []) (u:=[]) ⟨fun hh=> ?_,fun j' t' hh=> ?_⟩ h
    ·rcases hh with hh | ⟨j',t',hh,h2⟩
     ·rw[hg]at hh;cases hh
     ·rw[hg]at hh;cases hh
      rw[hb]at h2;cases h2
    ·rw[hg]at hh;cases hh
     exact .inr ⟨hb,rfl,rfl⟩
   ·exact h.elim
theorem AB0 (us:List Gq) (u:Gq):∀(HL:List O),Lv HL (us++ [u])=Ahj (Lv HL us) u:=by
 induction us with
 | nil=>intro HL;rfl
 | cons a us ih=>intro HL;exact ih _
theorem AFw {α:Type} {l:List α} {i:Nat} {d x:α} (h:l[i]? =some x):l.take (i+1)=l.take i++ [l.getD i d]:=by
 rw[List.take_add_one,h]
 simp[List.getD_eq_getElem?_getD,h]
def Hs (HL:List O) (us:List Gq) (i:Nat):Hp:=hp (Lv HL (us.take i))
theorem Avz {HL:List O} {us:List Gq} {i:Nat} (h:i<us.length):Hs HL us (i+1)=A7 (Hs HL us i) (us.getD i []):=by
 unfold Hs
 rw[AFw (d:=[]) (x:=us[i]) (by simp[h]),AB0,ADE]
theorem ADo {HL:List O} {us:List Gq}:Hs HL us 0=hp HL:=by simp[Hs,Lv]
theorem AH7 {u:Gq} {k:Nat} (h:k∈u.map (·.1)) (H H':Hp):A7 H u k=A7 H' u k:=by
 induction u generalizing H H' with
 | nil=>cases h
 | cons a u ih=>
  obtain⟨k1,o⟩:=a
  simp only[A7]
  by_cases hk:k∈u.map (·.1)
  ·exact ih hk _ _
  ·rw[MZ hk,MZ hk]
   simp only[List.map_cons,List.mem_cons]at h
   rcases h with h | h
   ·rw[if_pos h,if_pos h]
   ·exact absurd h hk
theorem ADO {HL:List O} {us:List Gq} {k:Nat} {i j:Nat} (hij:i≤j) (hj:j≤us.length) (h:∀m,i≤m→m<j→k∉(us.getD m []).map (·.1)):Hs HL us j k=Hs HL us i k:=by
 induction j with
 | zero=>
  have:i=0:=by omega
  rw[this]
 | succ j ih=>
  by_cases he:i=j+1
  ·rw[he]
  ·rw[Avz (by omega),MZ (h j (by omega) (by omega))]
   exact ih (by omega) (by omega) (fun m h1 h2=>h m h1 (by omega))
def Agree (om:Nat→List Nat) (n:Nat) (HL:List O) (us:List Gq) (S:Nat→Prop) (Hc:Hp):Prop:=
 ∀i k,i≤n→(∀j,j<n→k∈om j→(S j↔j<i))→Hc k=Hs HL us i k
theorem Agree.start {om:Nat→List Nat} {n:Nat} {HL:List O} {us:List Gq} (hn:us.length=n) (hom:∀j,∀k,k∈(us.getD j []).map (·.1)→k∈om j):Agree om n HL us (fun _=>False) (hp HL):=by
 intro i k hi hc
 rw[ADO (i:=0) (Nat.zero_le i) (by omega),ADo]
 intro m _ hm hk
 exact(hc m (by omega) (hom m k hk)).2 hm
theorem Agree.at {om:Nat→List Nat} {n:Nat} {HL:List O} {us:List Gq} {S:Nat→Prop} {Hc:Hp} (ag:Agree om n HL us S Hc) {anc:Nat→Nat→Bool} {q:Nat} (hqn:q<n) (hq:¬S q) {k:Nat}
 (hanc:∀j,anc q j=true→S j) (hcl:∀j i,S j→anc j i=true→S i) (hlo:∀j,j<q→k∈om j→anc q j=true) (hhi:∀j,q<j→j<n→k∈om j→anc j q=true):Hc k=Hs HL us q k:=by
 refine ag q k (by omega) fun j hj hom=> ?_
 constructor
 ·intro hS
  rcases Nat.lt_trichotomy j q with h | h | h
  ·exact h
  ·subst h;exact absurd hS hq
  ·exact absurd (hcl j q hS (hhi j h hj hom)) hq
 ·intro h
  exact hanc j (hlo j h hom)
theorem Ard {s:Option (Nat×Nat)} {k:Nat}:∀ {u:Gq} {H:Hp},(∀o,(k,o)∈u→shp o=s)→shp (H k)=s→shp (A7 H u k)=s
 | [],H,_,h=>h
 | (k1,o1)::u,H,hu,h=>by
  refine Ard (u:=u) (fun o ho=>hu o (by simp[ho])) ?_
  show shp (if k=k1 then o1 else H k)=s
  split
  ·rename_i hk;subst hk;exact hu o1 (by simp)
  ·exact h
def AEk:JQ→Bool
 | .slice .. =>true
 | _=>false
theorem ACJ {H1 H2:Hp} (h:∀k,shp (H1 k)=shp (H2 k)) (e:Nat) (x:V) (l hi:Option Int):OO H1 e x l hi=OO H2 e x l hi:=by
 unfold OO
 cases x with
 | arr k=>
  have:=h k
  unfold shp at this
  cases h1:Al (H1 k)<;>cases h2:Al (H2 k)<;>rw[h1,h2]at this<;>simp at this
  ·simp[h1,h2]
  ·rename_i a b
   obtain⟨a1,a2,a3,a4⟩:=a
   obtain⟨b1,b2,b3,b4⟩:=b
   obtain⟨rfl,rfl⟩:=this
   simp[h1,h2]
 | sub k off len=>
  have:=h k
  unfold shp at this
  cases h1:Al (H1 k)<;>cases h2:Al (H2 k)<;>rw[h1,h2]at this<;>simp at this
  ·simp[h1,h2]
  ·rename_i a b
   obtain⟨a1,a2,a3,a4⟩:=a
   obtain⟨b1,b2,b3,b4⟩:=b
   obtain⟨rfl,rfl⟩:=this
   simp[h1,h2]
 | sc v=>cases v<;>rfl
 | sl fl e' len cs=>cases fl<;>rfl
 | _=>rfl
theorem ACu {D:Dn} {c:Cf} {H1 H2:Hp} {ev:Src→V} {op:JQ} {K:V→Gq→Prop} (hs:AEk op=true) (h:∀k,shp (H1 k)=shp (H2 k)) (hh:stepW D c H1 ev op K):stepW D c H2 ev op K:=by
 cases op with
 | slice e x lo hi=>
  have e1:op1 c.bor c.takes H1 ev (.slice e x lo hi)=op1 c.bor c.takes H2 ev (.slice e x lo hi):=by
   unfold op1 Zu
   simp only[ACJ h]
  have h2:W9 (op1 c.bor c.takes H1 ev (.slice e x lo hi)) K:=hh
  rw[e1]at h2
  exact h2
 | _=>simp[AEk]at hs
theorem Agree.mask {om:Nat→List Nat} {n:Nat} {HL:List O} {us:List Gq} {S:Nat→Prop} {Hc:Hp} (ag:Agree om n HL us S Hc) {anc:Nat→Nat→Bool} {q:Nat} (hqn:q<n) (hq:¬S q) {tau:List Nat}
 (hanc:∀j,anc q j=true→S j) (hcl:∀j i,S j→anc j i=true→S i) (hlo:∀j k,j<q→k∈om j→k∈tau→anc q j=true) (hhi:∀j k,q<j→j<n→k∈om j→k∈tau→anc j q=true):
 masked (some tau) Hc=masked (some tau) (Hs HL us q):=by
 funext k
 unfold masked
 dsimp only
 split
 ·rename_i hk
  have hk':k∈tau:=by simpa using hk
  refine ag q k (by omega) fun j hj hom=> ?_
  constructor
  ·intro hS
   rcases Nat.lt_trichotomy j q with h | h | h
   ·exact h
   ·subst h;exact absurd hS hq
   ·exact absurd (hcl j q hS (hhi j k h hj hom hk')) hq
  ·intro h
   exact hanc j (hlo j k h hom hk')
 ·rfl
theorem Agree.step {om:Nat→List Nat} {n:Nat} {HL:List O} {us:List Gq} {S:Nat→Prop} {Hc:Hp} (ag:Agree om n HL us S Hc) (hn:us.length=n) (hom:∀j,∀k,k∈(us.getD j []).map (·.1)→k∈om j)
 {anc:Nat→Nat→Bool} {q:Nat} (hqn:q<n) (hq:¬S q) (hcl:∀j i,S j→anc j i=true→S i) (hlo:∀j k,j<q→k∈om j→k∈om q→anc q j=true)
 (hhi:∀j k,q<j→j<n→k∈om j→k∈om q→anc j q=true):Agree om n HL us (fun j=>S j∨j=q) (A7 Hc (us.getD q [])):=by
 intro i k hi hc
 by_cases hkq:k∈om q
 ·have hqi:q<i:=(hc q hqn hkq).1 (.inr rfl)
  have hbet:∀m,q+1≤m→m<i→k∉(us.getD m []).map (·.1):=by
   intro m h1 h2 hk
   have hmo:=hom m k hk
   rcases(hc m (by omega) hmo).2 h2 with h3 | h3
   ·exact hq (hcl m q h3 (hhi m k (by omega) (by omega) hmo hkq))
   ·omega
  rw[ADO (i:=q+1) (by omega) (by omega) hbet,Avz (by omega)]
  by_cases hku:k∈(us.getD q []).map (·.1)
  ·exact AH7 hku _ _
  ·rw[MZ hku,MZ hku]
   refine ag q k (by omega) fun j hj hjo=> ?_
   constructor
   ·intro hS
    rcases Nat.lt_trichotomy j q with h | h | h
    ·exact h
    ·subst h;exact absurd hS hq
    ·exact absurd (hcl j q hS (hhi j k h hj hjo hkq)) hq
   ·intro h
    rcases(hc j hj hjo).2 (by omega)with h3 | h3
    ·exact h3
    ·omega
 ·rw[MZ (fun h=>hkq (hom q k h))]
  refine ag i k hi fun j hj hjo=> ?_
  have hne:j≠q:=fun h=>hkq (h▸hjo)
  rw[←hc j hj hjo]
  constructor
  ·exact fun h=> .inl h
  ·intro h
   rcases h with h | h
   ·exact h
   ·exact absurd h hne
theorem Agree.done {om:Nat→List Nat} {n:Nat} {HL:List O} {us:List Gq} {S:Nat→Prop} {Hc:Hp} (ag:Agree om n HL us S Hc) (h:∀j,j<n→S j):Hc=Hs HL us n:=by
 funext k
 exact ag n k (Nat.le_refl n) fun j hj _=>⟨fun _=>hj,fun _=>h j hj⟩
end Go.Eng
