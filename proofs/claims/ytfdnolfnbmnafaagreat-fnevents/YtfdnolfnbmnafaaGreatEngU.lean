/- Own work: part 21 of the proof of FnEvents. -/
import Derived.Test.YtfdnolfnbmnafaaGreatEngT
set_option linter.unusedSimpArgs false
set_option linter.unusedVariables false
namespace Go.Eng
theorem MZ {u:Gq}:∀ {H:Hp} {j:Nat},j∉u.map (·.1)→A7 H u j=H j:=by
 induction u with
 | nil=>intro H j _;rfl
 | cons a u ih=>
  intro H j hj
  obtain⟨k,o⟩:=a
  simp only[List.map_cons,List.mem_cons,not_or]at hj
  simp only[A7]
  rw[ih hj.2,if_neg hj.1]
theorem AI5 {u:Gq}:∀ {H:Hp} {k:Nat} {o:O},(u.map (·.1)).Nodup→(k,o)∈u→A7 H u k=o:=by
 induction u with
 | nil=>intro H k o _ h;cases h
 | cons a u ih=>
  intro H k o hn h
  obtain⟨k1,o1⟩:=a
  simp only[List.map_cons,List.nodup_cons]at hn
  simp only[A7]
  rcases List.mem_cons.1 h with h | h
  ·cases h
   rw[MZ hn.1,if_pos rfl]
  ·exact ih hn.2 h
theorem AuH {Hm:Hp}:∀ {ks:List Nat} {outs:List O} {u:Gq},XU Hm ks outs=some u→u.map (·.1)=ks∧
 ∀k o',(k,o')∈u→∃(i:Nat) (o:O),ks[i]? =some k∧outs[i]? =some o∧At7 (Hm k) o=some o'
 | [],[],u,h=>by cases h;exact⟨rfl,by simp⟩
 | [],_::_,u,h=>by cases h
 | _::_,[],u,h=>by cases h
 | k1::ks,o1::outs,u,h=>by
  simp only[XU]at h
  split at h
  ·rename_i o2 u2 h1 h2
   cases h
   obtain⟨g1,g2⟩:=AuH h2
   refine⟨by simp[g1],?_⟩
   intro k o' hk
   rcases List.mem_cons.1 hk with hk | hk
   ·cases hk;exact⟨0,o1,by simp,by simp,h1⟩
   ·obtain⟨i,o,q1,q2,q3⟩:=g2 k o' hk
    exact⟨i+1,o,by simpa using q1,by simpa using q2,q3⟩
  ·cases h
theorem mem_keys {u:Gq} {k:Nat} (h:k∈u.map (·.1)):∃o,(k,o)∈u:=by
 obtain⟨p,hp,rfl⟩:=List.mem_map.1 h
 exact⟨p.2,hp⟩
open Classical in
noncomputable def place (keys:List Nat) (μ:Nat→List Nat) (p:List Nat):Option (Nat×List Nat):=
 if h:∃r:Nat×List Nat,r.1∈keys∧p=μ r.1++r.2 then some h.choose else none
theorem AEp {keys:List Nat} {μ:Nat→List Nat} (hinj:∀s1 s2 q1 q2,s1∈keys→s2∈keys→μ s1++q1=μ s2++q2→s1=s2) {s:Nat} (hs:s∈keys) (q:List Nat):
 place keys μ (μ s++q)=some (s,q):=by
 have h:∃r:Nat×List Nat,r.1∈keys∧μ s++q=μ r.1++r.2:=⟨(s,q),hs,rfl⟩
 unfold place
 rw[dif_pos h]
 obtain⟨h1,h2⟩:=h.choose_spec
 have h3:=hinj _ _ _ _ hs h1 h2
 congr 1
 refine Prod.ext h3.symm ?_
 rw[←h3]at h2
 exact(List.append_cancel_left h2).symm
noncomputable def Apm (own ownC:Nat→Option (Nat×List Nat)) (ks keys:List Nat) (μ:Nat→List Nat):Nat→Option (Nat×List Nat):=fun b=>
 match ownC b with
 | some (i,p)=>if i<ks.length then some (ks.getD i 0,p)else if i=ks.length then place keys μ p else none
 | none=>match own b with
  | some (k,p)=>if k∈ks then none else some (k,p)
  | none=>none
section
variable {P:Program} {F:Fr} {β:Nat→Base} {own ownC:Nat→Option (Nat×List Nat)} {H:Hp} {w w':World} {ks:List Nat}
theorem AKC {Hm:Hp} (hm:∀k,Hm k=H k∨Hm k= .dead) {k:Nat} (h:alive (Hm k)=true):Hm k=H k:=by
 rcases hm k with g | g
 ·exact g
 ·rw[g]at h;cases h
theorem RH {o o1 o':O} (h:At7 o o1=some o'):o' = .dead∨
 (∃e t len cs cs',o= .arr e t len cs∧o1= .arr e 0 len cs'∧cs'.length=cs.length∧o' = .arr e 0 len cs')∨
 (∃k off e t len cs cs',o= .tarr k off e t len cs∧o1= .arr e 0 len cs'∧cs'.length=cs.length∧o' = .tarr k off e 0 len cs')∨
 (∃cs cs',o= .var cs∧o1= .var cs'∧cs'.length=cs.length∧F5 cs' =true∧o' = .var cs'):=by
 unfold At7 at h
 split at h
 ·cases h;exact .inl rfl
 ·split at h
  ·rename_i hh
   cases h
   obtain⟨rfl,rfl,h3⟩:=hh
   exact .inr (.inl ⟨_,_,_,_,_,rfl,rfl,h3,rfl⟩)
  ·cases h
 ·split at h
  ·rename_i hh
   cases h
   obtain⟨rfl,rfl,h3⟩:=hh
   exact .inr (.inr (.inl ⟨_,_,_,_,_,_,_,rfl,rfl,h3,rfl⟩))
  ·cases h
 ·split at h
  ·rename_i hh
   cases h
   exact .inr (.inr (.inr ⟨_,_,rfl,rfl,hh.1,hh.2,rfl⟩))
  ·cases h
 ·cases h
theorem AAW (inv:Inv F β own H w) {Hm:Hp} (hm:∀k,Hm k=H k∨Hm k= .dead) (hok:TA Hm ks) (hn:ks.Nodup) (hbor:F.bor=true→∀k b p,k∈ks→own b=some (k,p)→p=[])
 (hno:∀s k off e t len cs,H s= .tarr k off e t len cs→k∈ks→Mj (H k)=false) {outs:List O} {res:V} {x:Value} (post:Post (callee F β own w ks) outs res x w' ownC)
 {u u':Gq} {v:V} {sites ss':List Nat} (hb:XU Hm ks outs=some u) (hi:imp Hm sites res=some (v,u',ss')):
 ∃β'' own'',(∀z y,VR F β own H w z y→VR F β'' own'' (A7 H (u++u')) w' z y)∧Inv F β'' own'' (A7 H (u++u')) w'∧VR F β'' own'' (A7 H (u++u')) w' v x:=by
 obtain⟨b1,b2⟩:=AuH hb
 obtain⟨f1,f2,βs,μ,f3,f4,f5⟩:=AIc (F:=F) (w':=w') (own':=ownC) (n:=ks.length) (p:=[]) post.res hi
 have f1':∀s,s∈u'.map (·.1)→H s= .free:=fun s hs=>AbC hm (f1 s hs)
 have hal:∀k,k∈ks→Hm k=H k∧alive (H k)=true:=by
  intro k hk
  have h1:=hok.alive hk
  have h2:=AKC hm h1
  exact⟨h2,by rw[←h2];exact h1⟩
 have hdis:∀k,k∈ks→k∉u'.map (·.1):=by
  intro k hk hk2
  have:=(hal k hk).2
  rw[f1' k hk2]at this
  cases this
 have hkeys:(u++u').map (·.1)=ks++u'.map (·.1):=by rw[List.map_append,b1]
 have hnd:((u++u').map (·.1)).Nodup:=by
  rw[hkeys,List.nodup_append]
  exact⟨hn,f2,fun a ha b hb hab=>hdis a ha (hab▸hb)⟩
 have hK:∀j,j∈(u++u').map (·.1)↔j∈ks∨j∈u'.map (·.1):=by
  intro j;rw[hkeys,List.mem_append]
 have hget:∀k o,(k,o)∈u++u'→A7 H (u++u') k=o:=fun k o h=>AI5 hnd h
 have hback:∀k,k∈ks→∃(i:Nat) (o o':O),ks[i]? =some k∧outs[i]? =some o∧At7 (H k) o=some o'∧A7 H (u++u') k=o':=by
  intro k hk
  obtain⟨o',ho'⟩:=mem_keys (u:=u) (k:=k) (by rw[b1];exact hk)
  obtain⟨i,o,q1,q2,q3⟩:=b2 k o' ho'
  rw[(hal k hk).1]at q3
  exact⟨i,o,o',q1,q2,q3,hget k o' (List.mem_append_left _ ho')⟩
 have hnoU:∀s k off e t len cs,H s= .tarr k off e t len cs→k∈ks→Mj (A7 H (u++u') k)=true→False:=by
  intro s k off e t len cs hs hk ha
  have h0:=hno s k off e t len cs hs hk
  obtain⟨i,o,o',q1,q2,q3,q4⟩:=hback k hk
  rw[q4]at ha
  rcases RH q3 with h | ⟨e',t',len',cs1,cs2,h1,h2,h3,h4⟩ | ⟨k',off,e',t',len',cs1,cs2,h1,h2,h3,h4⟩ | ⟨cs1,cs2,h1,h2,h3,h4,h5⟩
  ·rw[h]at ha;simp[Mj]at ha
  ·rw[h1]at h0;simp[Mj]at h0
  ·rw[h1]at h0;simp[Mj]at h0
  ·rw[h5]at ha;simp[Mj]at ha
 have hC:∀b,b<w.heap.size→FH ks own b=none→ownC b=none:=by
  intro b h1 h2
  cases hc:ownC b with
  | none=>rfl
  | some q=>exact absurd h2 ((post.lab b q hc).2 h1)
 let β'':Nat→Base:=fun j=>if j∈u'.map (·.1)then βs j else β j
 let own'':=Apm own ownC ks (u'.map (·.1)) μ
 have st:Step F β own H w β'' own'' (A7 H (u++u')) w' (fun j=>j∈(u++u').map (·.1)):=by
  refine⟨post.size,post.os,post.tape,post.output,?_,?_,?_,?_,?_,?_,?_,?_,?_,?_⟩
  ·intro b hb hnk
   refine post.keep b hb ?_
   cases ho:own b with
   | none=>exact NT ho
   | some q=>exact J6 (k:=q.1) (p:=q.2) ho (fun hk=>hnk q.1 q.2 ho ((hK _).2 (.inl hk)))
  ·intro hbr b hb hnk
   have hg:FH ks own b=none:=by
    cases ho:own b with
    | none=>exact NT ho
    | some q=>exact J6 (k:=q.1) (p:=q.2) ho (fun hk=>hnk q.1 (by rw[ho];have:=hbor hbr q.1 b q.2 hk ho;rw[←this]))
   refine⟨post.keep b hb hg,fun k=> ?_⟩
   show Apm own ownC ks _ μ b≠_
   unfold Apm
   rw[hC b hb hg]
   cases ho:own b with
   | none=>simp
   | some q=>
    obtain⟨k1,p⟩:=q
    simp only
    split
    ·simp
    ·intro h;cases h;exact hnk k ho
  ·intro b k p hb hk
   rw[hK]at hk
   have hlt:=(inv.ownb b _ hb).1
   have hg:FH ks own b=none:=J6 hb (fun h=>hk (.inl h))
   show Apm own ownC ks _ μ b=_
   unfold Apm
   rw[hC b hlt hg,hb]
   simp only
   rw[if_neg (fun h=>hk (.inl h))]
  ·intro b p hb
   have hb':Apm own ownC ks (u'.map (·.1)) μ b=some p:=hb
   unfold Apm at hb'
   cases hc:ownC b with
   | some q=>
    obtain⟨h1,h2⟩:=post.lab b q hc
    refine⟨h1,fun h3 h4=>h2 h3 (NT h4)⟩
   | none=>
    rw[hc]at hb'
    cases ho:own b with
    | none=>rw[ho]at hb';cases hb'
    | some q=>exact⟨Nat.lt_of_lt_of_le (inv.ownb b q ho).1 post.size,by simp⟩
  ·intro j hj
   refine⟨?_,MZ hj⟩
   show(if j∈u'.map (·.1)then βs j else β j)=β j
   rw[if_neg (fun h=>hj ((hK j).2 (.inr h)))]
  ·intro k e t len cs hk hH
   rcases(hK k).1 hk with hk | hk
   ·obtain⟨i,o,o',q1,q2,q3,q4⟩:=hback k hk
    have hβ:β'' k=β k:=by
     show(if k∈u'.map (·.1)then βs k else β k)=β k
     rw[if_neg (hdis k hk)]
    rw[q4]
    rcases RH q3 with h | ⟨e',t',len',cs1,cs2,h1,h2,h3,h4⟩ | ⟨k',off,e',t',len',cs1,cs2,h1,h2,h3,h4⟩ | ⟨cs1,cs2,h1,h2,h3,h4,h5⟩
    ·exact .inl h
    ·rw[h1]at hH;cases hH;exact .inr ⟨hβ,0,cs2,by rw[h4];rfl⟩
    ·rw[h1]at hH;cases hH;exact .inr ⟨hβ,0,cs2,by rw[h4];rfl⟩
    ·rw[h1]at hH;cases hH
   ·rw[f1' k hk]at hH;cases hH
  ·intro k cs hk hH
   rcases(hK k).1 hk with hk | hk
   ·obtain⟨i,o,o',q1,q2,q3,q4⟩:=hback k hk
    have hβ:β'' k=β k:=by
     show(if k∈u'.map (·.1)then βs k else β k)=β k
     rw[if_neg (hdis k hk)]
    rw[q4]
    rcases RH q3 with h | ⟨e',t',len',cs1,cs2,h1,h2,h3,h4⟩ | ⟨k',off,e',t',len',cs1,cs2,h1,h2,h3,h4⟩ | ⟨cs1,cs2,h1,h2,h3,h4,h5⟩
    ·exact .inl h
    ·rw[h1]at hH;cases hH
    ·rw[h1]at hH;cases hH
    ·exact .inr ⟨hβ,cs2,h5⟩
   ·rw[f1' k hk]at hH;cases hH
  ·intro k hk hH
   rcases(hK k).1 hk with hk | hk
   ·have:=(hal k hk).2;rw[hH]at this;cases this
   ·rw[f1' k hk]at hH;cases hH
  ·intro k hk hH
   rcases(hK k).1 hk with hk | hk
   ·obtain⟨i,o,o',q1,q2,q3,q4⟩:=hback k hk
    rw[q4]
    rcases RH q3 with h | ⟨e',t',len',cs1,cs2,h1,h2,h3,h4⟩ | ⟨k',off,e',t',len',cs1,cs2,h1,h2,h3,h4⟩ | ⟨cs1,cs2,h1,h2,h3,h4,h5⟩<;>simp[*]
   ·exact absurd (f1' k hk) hH
  ·intro s k off e t len cs hs hH hk ha
   rcases(hK k).1 hk with hk | hk
   ·exact(hnoU s k off e t len cs hH hk ha).elim
   ·have:=inv.objs s
    rw[hH]at this
    exact absurd (f1' k hk) this.2.2.1.2
 have hlab:∀ {i k:Nat} {b:Nat} {p:List Nat},ks[i]? =some k→ownC b=some (i,p)→own'' b=some (k,p):=by
  intro i k b p hik hb
  show Apm own ownC ks _ μ b=_
  unfold Apm
  rw[hb]
  simp only
  rw[if_pos (List.getElem?_eq_some_iff.1 hik).1]
  simp[List.getD_eq_getElem?_getD,hik]
 have hres:∀s b q,s∈u'.map (·.1)→ownC b=some (ks.length,μ s++q)→own'' b=some (s,q):=by
  intro s b q hs hb
  show Apm own ownC ks _ μ b=_
  unfold Apm
  rw[hb]
  simp only
  rw[if_neg (by omega)];simp only[if_true]
  exact AEp f4 hs q
 obtain⟨r1,r2⟩:=f5 β'' own'' (A7 H (u++u')) (fun s hs=>by show(if s∈u'.map (·.1)then βs s else β s)=βs s;rw[if_pos hs]) hres (fun s o hso=>hget s o (List.mem_append_right _ hso))
 have hARS:∀ {i k e len:Nat} {cs:List V},ks[i]? =some k→k∈ks→ARS F.Ah (fun _ b=>F.G b) ownC w' i ((callee F β own w ks).β0 i) e 0 len cs→AR F own'' w' k (β'' k) e 0 len cs:=by
  intro i k e len cs hik hk h
  have hβ:β'' k=(callee F β own w ks).β0 i:=by
   show(if k∈u'.map (·.1)then βs k else β k)=β (ks.getD i 0)
   rw[if_neg (hdis k hk)]
   simp[List.getD_eq_getElem?_getD,hik]
  rw[hβ]
  obtain⟨vs,g1,g2,g3,g4,g5⟩:=h
  refine⟨vs,g1,g2,g3,?_,?_⟩
  ·rcases g4 with g4 | ⟨b,o,q1,q2,q3⟩
   ·exact .inl g4
   ·exact .inr ⟨b,o,q1,hlab hik q2,q3⟩
  ·intro j v x hv hx
   refine(g5 j v x hv hx).move (Nat.le_refl 0) ?_ (fun _ _ _ _ _=>rfl) (fun b q hb=>⟨hlab hik hb,rfl⟩)
   intro fl b h1 h2 hS
   have:=Anx h1 (by omega)
   subst this
   exact hS
 refine⟨β'',own'',fun z y h=>st.vr inv h,st.inv inv ?_ ?_,r1⟩
 ·intro k hk
  rcases(hK k).1 hk with hk | hk
  ·obtain⟨i,o,o',q1,q2,q3,q4⟩:=hback k hk
   have hBR:=post.out i o q2
   rw[q4]
   rcases RH q3 with h | ⟨e',t',len',cs1,cs2,h1,h2,h3,h4⟩ | ⟨k',off,e',t',len',cs1,cs2,h1,h2,h3,h4⟩ | ⟨cs1,cs2,h1,h2,h3,h4,h5⟩
   ·rw[h];trivial
   ·rw[h4]
    rw[h2]at hBR
    exact hARS q1 hk hBR.2
   ·rw[h4]
    rw[h2]at hBR
    have hor:=inv.objs k
    rw[h1]at hor
    obtain⟨_,p1,⟨p2,p3⟩,p4⟩:=hor
    refine⟨hARS q1 hk hBR.2,p1,⟨p2,?_⟩,?_⟩
    ·by_cases hk2:k'∈(u++u').map (·.1)
     ·exact st.frees k' hk2 p3
     ·rw[MZ hk2];exact p3
    ·intro ha
     have hk2:k'∉(u++u').map (·.1):=by
      intro hh
      rcases(hK k').1 hh with hh | hh
      ·exact hnoU k k' off e' t' len' cs1 h1 hh ha
      ·exact p3 (f1' k' hh)
     rw[MZ hk2]at ha
     obtain⟨b,ob,p5,p6,p7⟩:=p4 ha
     refine⟨b,ob,by rw[(st.same k' hk2).1];exact p5,st.lab b k' [] p6 hk2,?_⟩
     have hβ:β'' k=β k:=by
      show(if k∈u'.map (·.1)then βs k else β k)=β k
      rw[if_neg (hdis k hk)]
     rw[hβ,←p7]
     simp only[World.cell?]
     rw[st.blk b (inv.ownb b _ p6).1 (by intro k3 p3 hh;rw[p6]at hh;cases hh;exact hk2)]
   ·rw[h5]
    rw[h2]at hBR
    obtain⟨b,ob,vs,g1,g2,g3,g4,g5⟩:=hBR
    have hβ:β'' k=(callee F β own w ks).β0 i:=by
     show(if k∈u'.map (·.1)then βs k else β k)=β (ks.getD i 0)
     rw[if_neg (hdis k hk)]
     simp[List.getD_eq_getElem?_getD,q1]
    refine⟨b,ob,vs,by rw[hβ];exact g1,hlab q1 g2,g3,g4,?_⟩
    intro j v x hv hx
    have:=g5 j v x hv hx
    rcases XI h4 hv with⟨u,rfl⟩ | ⟨e,len,c,rfl⟩
    ·cases this;exact .sc ‹_›
    ·exact .rd (by omega) this
  ·obtain⟨o,ho⟩:=mem_keys hk
   rw[hget k o (List.mem_append_right _ ho)]
   exact r2 k o ho
 ·intro k hk hlt hnd
  rcases(hK k).1 hk with hk | hk
  ·refine⟨?_,fun h=> ?_⟩
   ·show(if k∈u'.map (·.1)then βs k else β k)=β k
    rw[if_neg (hdis k hk)]
   ·have:=(hal k hk).2;rw[h]at this;cases this
  ·exact absurd (f1' k hk) (inv.gfree k hlt)
theorem Aup (inv:Inv F β own H w) {Hm:Hp} (hm:∀k,Hm k=H k∨Hm k= .dead) (hno:∀s k off e t len cs,H s= .tarr k off e t len cs→k∈ks→Mj (H k)=false)
 {args:List (Bool×V)} {xs:List Value} (hv:Pw (VR F β own H w) (args.map (·.2)) xs) (ho:Kc Hm 0 args=some ks)
 (hbor:F.bor=true→∀k b p,k∈ks→own b=some (k,p)→p=[]) {args':List V}
 (hca:Jp Hm (Dp ks Hm) 0 args=some args') {g id:Nat} (hid:F.Ah g=some id) {res:V} {outs:List O} (hD:Den P F.Ah F.G g args' (ks.map fun k=>Mk (Hm k)) res outs)
 {u u':Gq} {v:V} {sites ss':List Nat} (hb:XU Hm ks outs=some u) (hi:imp Hm sites res=some (v,u',ss')):
 Calls P id xs.toArray w fun | .returned x,w'=>∃β'' own'',(∀z y,VR F β own H w z y→VR F β'' own'' (A7 H (u++u')) w' z y)∧Inv F β'' own'' (A7 H (u++u')) w'∧VR F β'' own'' (A7 H (u++u')) w' v x | _,_=>False:=by
 obtain⟨a1,a2,a3⟩:=AEK (ks:=ks) (Hm:=Hm) (args':=args') inv hm hbor (fun _=> .inl rfl) hv ho
 have a4:=a3 (fun i k hi=>by rw[Nat.zero_add];exact hi) hca
 have:=hD id hid (callee F β own w ks) rfl rfl rfl rfl (by simp[callee]) (ACs inv hm a1 a2) xs a4
 refine this.mono ?_
 intro e w' he
 cases e with
 | returned x=>
  obtain⟨own',post⟩:=he
  exact AAW inv hm a1 a2 hbor hno post hb hi
 | panicked _=>exact he.elim
 | outgrown=>exact he.elim
theorem AzI (inv:Inv F β own H w) {Hm:Hp} (hm:∀k,Hm k=H k∨Hm k= .dead) {c:Cf} (hct:c.takes=F.takes) (htk:ks≠ []→∀s,s∈F.takes→Hm s=H s)
 {args:List (Bool×V)} {xs:List Value} (hv:Pw (VR F β own H w) (args.map (·.2)) xs) (ho:Kc Hm 0 args=some ks) (hcok:Ws c Hm ks=true)
 (hbor:F.bor=true→∀k b p,k∈ks→own b=some (k,p)→p=[]) {args':List V}
 (hca:Jp Hm (Dp ks Hm) 0 args=some args') {g id:Nat} (hid:F.Ah g=some id) {res:V} {outs:List O} (hD:Den P F.Ah F.G g args' (ks.map fun k=>Mk (Hm k)) res outs)
 {u u':Gq} {v:V} {sites ss':List Nat} (hb:XU Hm ks outs=some u) (hi:imp Hm sites res=some (v,u',ss')):
 Calls P id xs.toArray w fun | .returned x,w'=>∃β'' own'',(∀z y,VR F β own H w z y→VR F β'' own'' (A7 H (u++u')) w' z y)∧Inv F β'' own'' (A7 H (u++u')) w'∧VR F β'' own'' (A7 H (u++u')) w' v x | _,_=>False:=by
 simp only[Ws,Bool.and_eq_true,Bool.or_eq_true,Bool.not_eq_true',List.isEmpty_iff,List.all_eq_true]at hcok
 have hno:∀s k off e t len cs,H s= .tarr k off e t len cs→k∉ks:=by
  intro s k off e t len cs hs hk
  have hor:=inv.objs s
  rw[hs]at hor
  have hst:s∈F.takes:=hor.2.1
  have:=hcok.2 s (by rw[hct];exact hst)
  rw[htk (fun h=>by rw[h]at hk;cases hk) s hst,hs]at this
  simp at this
  exact this hk
 exact Aup inv hm (fun s k off e t len cs hs hk=>absurd hk (hno s k off e t len cs hs)) hv ho hbor hca hid hD hb hi
def ZL (ks:List Nat) (own:Nat→Option (Nat×List Nat)):Nat→Option (Nat×List Nat):=fun b=>
 match own b with
 | some (k,i::p)=>if k∈ks then none else some (k,i::p)
 | o=>o
theorem ACN {b k:Nat} (h:own b=some (k,[])):ZL ks own b=some (k,[]):=by unfold ZL;rw[h]
theorem AEj {b k:Nat} {p:List Nat} (h:own b=some (k,p)) (hk:k∉ks):ZL ks own b=some (k,p):=by
 unfold ZL;rw[h]
 cases p with
 | nil=>rfl
 | cons i p=>simp[hk]
theorem Zx {b:Nat} {q:Nat×List Nat} (h:ZL ks own b=some q):own b=some q∧(q.1∈ks→q.2=[]):=by
 unfold ZL at h
 split at h
 ·rename_i k i p e
  split at h
  ·cases h
  ·rename_i hk;cases h;exact⟨e,fun hh=>absurd hh hk⟩
 ·rename_i hne
  refine⟨h,fun hh=> ?_⟩
  obtain⟨k,p⟩:=q
  cases p with
  | nil=>rfl
  | cons i p=>exact absurd h (hne k i p)
theorem Step.ZL (inv:Inv F β own H w) (hv:∀k,k∈ks→∃cs,H k= .var cs):Step F β own H w β (Go.Eng.ZL ks own) H w (fun k=>k∈ks):=by
 refine⟨Nat.le_refl _,rfl,rfl,rfl,fun _ _ _=>rfl,?_,?_,?_,fun _ _=>⟨rfl,rfl⟩,?_,?_,fun _ _ h=>h,fun _ _ h=>h,?_⟩
 ·intro _ b _ hn
  refine⟨rfl,fun k h=> ?_⟩
  exact hn k (Zx h).1
 ·intro b k p hb hk;exact AEj hb hk
 ·intro b p hb
  have:=(Zx hb).1
  exact⟨(inv.ownb b p this).1,fun _=>by rw[this];simp⟩
 ·intro k e t len cs hk hH
  obtain⟨c,hc⟩:=hv k hk
  rw[hc]at hH;simp[Al]at hH
 ·intro k cs hk hH;exact .inr ⟨rfl,cs,hH⟩
 ·intro s k off e t len cs hs hH hk ha
  obtain⟨c,hc⟩:=hv k hk
  rw[hc]at ha;simp[Mj]at ha
theorem AuU (inv:Inv F β own H w) (hv:∀k,k∈ks→∃cs,H k= .var cs):Inv F β (ZL ks own) H w:=by
 have st:=Step.ZL (F:=F) inv hv
 refine st.inv inv ?_ ?_
 ·intro k hk
  obtain⟨cs,hc⟩:=hv k hk
  have h0:=inv.objs k
  rw[hc]at h0⊢
  obtain⟨b,o,vs,h1,h2,h3,h4,h5⟩:=h0
  exact⟨b,o,vs,h1,ACN h2,h3,h4,fun i v x hv hx=>st.vr inv (h5 i v x hv hx)⟩
 ·intro k hk _ _
  obtain⟨cs,hc⟩:=hv k hk
  exact⟨rfl,by rw[hc];simp⟩
theorem AKe (inv:Inv F β own H w) {Hm:Hp} (hm:∀k,Hm k=H k∨Hm k= .dead) {c:Cf} (hcb:c.bor=F.bor) (hct:c.takes=F.takes) (htk:ks≠ []→∀s,s∈F.takes→Hm s=H s)
 {args:List (Bool×V)} {xs:List Value} (hv:Pw (VR F β own H w) (args.map (·.2)) xs) (ho:Kc Hm 0 args=some ks) (hcok:Ws c Hm ks=true) {args':List V}
 (hca:Jp Hm (Dp ks Hm) 0 args=some args') {g id:Nat} (hid:F.Ah g=some id) {res:V} {outs:List O} (hD:Den P F.Ah F.G g args' (ks.map fun k=>Mk (Hm k)) res outs)
 {u u':Gq} {v:V} {sites ss':List Nat} (hb:XU Hm ks outs=some u) (hi:imp Hm sites res=some (v,u',ss')):
 Calls P id xs.toArray w fun | .returned x,w'=>∃β'' own'',(∀z y,VR F β own H w z y→VR F β'' own'' (A7 H (u++u')) w' z y)∧Inv F β'' own'' (A7 H (u++u')) w'∧VR F β'' own'' (A7 H (u++u')) w' v x | _,_=>False:=by
 by_cases hbr:F.bor=true
 ·have hv2:∀k,k∈ks→∃cs,H k= .var cs:=by
   intro k hk
   have h1:=hcok
   simp only[Ws,Bool.and_eq_true,Bool.or_eq_true,Bool.not_eq_true',List.all_eq_true]at h1
   rcases h1.1 with h2 | h2
   ·rw[hcb,hbr]at h2;cases h2
   ·have h3:=h2 k hk
    rcases hm k with g | g
    ·rw[g]at h3
     cases hk2:H k with
     | var cs=>exact⟨cs,rfl⟩
     | _=>rw[hk2]at h3;cases h3
    ·rw[g]at h3;cases h3
  have st:=Step.ZL (F:=F) inv hv2
  have inv1:=AuU (F:=F) inv hv2
  have:=AzI inv1 hm hct htk (xs:=xs) ⟨hv.1,fun i v x h1 h2=>st.vr inv (hv.2 i v x h1 h2)⟩ ho hcok (fun _ k b p hk hb=>(Zx hb).2 hk) hca hid hD hb hi
  refine this.mono ?_
  intro e w' he
  cases e with
  | returned x=>
   obtain⟨β'',own'',q1,q2,q3⟩:=he
   exact⟨β'',own'',fun z y hz=>q1 z y (st.vr inv hz),q2,q3⟩
  | panicked _=>exact he.elim
  | outgrown=>exact he.elim
 ·exact AzI inv hm hct htk hv ho hcok (fun h=>absurd h hbr) hca hid hD hb hi
theorem AyC {Hm:Hp} (hm:∀k,Hm k=H k∨Hm k= .dead) {t:List Nat} (hcok:Ws ⟨true,t⟩ Hm ks=true):∀k,k∈ks→∃cs,H k= .var cs:=by
 intro k hk
 simp only[Ws,Bool.and_eq_true,Bool.or_eq_true,Bool.not_eq_true',List.all_eq_true]at hcok
 rcases hcok.1 with h2 | h2
 ·cases h2
 ·have h3:=h2 k hk
  rcases hm k with g | g
  ·rw[g]at h3
   cases hk2:H k with
   | var cs=>exact⟨cs,rfl⟩
   | _=>rw[hk2]at h3;cases h3
  ·rw[g]at h3;cases h3
theorem AHq (inv:Inv F β own H w) {Hm:Hp} (hm:∀k,Hm k=H k∨Hm k= .dead) {t:List Nat}
 {args:List (Bool×V)} {xs:List Value} (hv:Pw (VR F β own H w) (args.map (·.2)) xs) (ho:Kc Hm 0 args=some ks) (hcok:Ws ⟨true,t⟩ Hm ks=true) {args':List V}
 (hca:Jp Hm (Dp ks Hm) 0 args=some args') {g id:Nat} (hid:F.Ah g=some id) {res:V} {outs:List O} (hD:Den P F.Ah F.G g args' (ks.map fun k=>Mk (Hm k)) res outs)
 {u u':Gq} {v:V} {sites ss':List Nat} (hb:XU Hm ks outs=some u) (hi:imp Hm sites res=some (v,u',ss')):
 Calls P id xs.toArray w fun | .returned x,w'=>∃β'' own'',(∀z y,VR F β own H w z y→VR F β'' own'' (A7 H (u++u')) w' z y)∧Inv F β'' own'' (A7 H (u++u')) w'∧VR F β'' own'' (A7 H (u++u')) w' v x | _,_=>False:=by
 have hv2:=AyC (ks:=ks) hm hcok
 have hno:∀s k off e t len cs,H s= .tarr k off e t len cs→k∈ks→Mj (H k)=false:=by
  intro s k off e t len cs _ hk
  obtain⟨c,hc⟩:=hv2 k hk
  rw[hc];rfl
 have st:=Step.ZL (F:=F) inv hv2
 have inv1:=AuU (F:=F) inv hv2
 have:=Aup inv1 hm hno (xs:=xs) ⟨hv.1,fun i v x h1 h2=>st.vr inv (hv.2 i v x h1 h2)⟩ ho (fun _ k b p hk hb=>(Zx hb).2 hk) hca hid hD hb hi
 refine this.mono ?_
 intro e w' he
 cases e with
 | returned x=>
  obtain⟨β'',own'',q1,q2,q3⟩:=he
  exact⟨β'',own'',fun z y hz=>q1 z y (st.vr inv hz),q2,q3⟩
 | panicked _=>exact he.elim
 | outgrown=>exact he.elim
end
end Go.Eng
