/- Own work: part 20 of the proof of FnEvents. -/
import Derived.Test.YtfdnolfnbmnafaaGreatEngS
set_option linter.unusedSimpArgs false
set_option linter.unusedVariables false
namespace Go.Eng
structure Imp (F:Fr) (w':World) (own':Nat→Option (Nat×List Nat)) (n:Nat) (H:Hp) (v:V) (x:Value) (u:Gq) (p:List Nat):Prop where
 free:∀s,s∈u.map (·.1)→H s= .free
 nodup:(u.map (·.1)).Nodup
 ok:∃(βs:Nat→Base) (μ:Nat→List Nat),(∀s,s∈u.map (·.1)→∃q,μ s=p++q)∧
  (∀s1 s2 q1 q2,s1∈u.map (·.1)→s2∈u.map (·.1)→μ s1++q1=μ s2++q2→s1=s2)∧
  ∀(β'':Nat→Base) (own'':Nat→Option (Nat×List Nat)) (H'':Hp),(∀s,s∈u.map (·.1)→β'' s=βs s)→
   (∀s b q,s∈u.map (·.1)→own' b=some (n,μ s++q)→own'' b=some (s,q))→(∀s o,(s,o)∈u→H'' s=o)→
   VR F β'' own'' H'' w' v x∧∀s o,(s,o)∈u→OR F β'' own'' H'' w' s o
section
variable {P:Program} {F:Fr} {H:Hp} {w':World} {own':Nat→Option (Nat×List Nat)} {n:Nat}
theorem Imp.none {v:V} {x:Value} {p:List Nat} (h:∀(β'':Nat→Base) (own'':Nat→Option (Nat×List Nat)) (H'':Hp),VR F β'' own'' H'' w' v x):Imp F w' own' n H v x [] p:=
 ⟨by simp,by simp,fun _=>⟨Option.none,0⟩,fun _=> [],by simp,by simp,fun β'' own'' H'' _ _ _=>⟨h β'' own'' H'',by simp⟩⟩
theorem AuJ {p:List Nat} {v v':V} {x:Value} {u:Gq} {ss ss':List Nat} (ho:Ow F.Ah w' own' (fun _ b=>F.G b) 0 n p v x) (h:AIT H ss v=some (v',u,ss')):
 Imp F w' own' n H v' x u p:=by
 unfold AIT at h
 split at h
 ·cases h
  cases ho
  exact Imp.none fun _ _ _=> .sc ‹_›
 ·rename_i s ss e len cs
  split at h
  ·rename_i hs
   cases h
   cases ho with
   | ro h1 _ _=>exact absurd h1 (by omega)
   | @own _ _ _ _ a cap vs hl hw hv hm hc=>
    refine⟨by simpa using hs,by simp,fun _=>⟨a,cap⟩,fun _=>p,fun _ _=>⟨[],by simp⟩,?_,?_⟩
    ·intro s1 s2 q1 q2 h1 h2 _
     simp at h1 h2
     rw[h1,h2]
    ·intro β'' own'' H'' hβ hown hH
     have hβs:β'' s=⟨a,cap⟩:=hβ s (by simp)
     have hHs:H'' s= .arr e 0 len cs:=hH s _ (by simp)
     refine⟨?_,?_⟩
     ·have:=VR.arr (F:=F) (β:=β'') (own:=own'') (H:=H'') (w:=w') (k:=s) (e:=e) (t:=0) (len:=len) (cs:=cs) (by rw[hHs];rfl)
      rw[hβs]at this
      exact this
     ·intro s' o hso
      simp at hso
      obtain⟨rfl,rfl⟩:=hso
      show AR F own'' w' s' (β'' s') e 0 len cs
      rw[hβs]
      refine⟨vs,hv,hw,hl,?_,?_⟩
      ·rcases hm with hm | ⟨b,o,q1,q2,q3⟩
       ·exact .inl hm
       ·exact .inr ⟨b,o,q1,hown s' b [] (by simp) (by simpa using q2),q3⟩
      ·intro i v x hv' hx
       refine(hc i v x hv' hx).move (Nat.le_refl 0) ?_ (fun _ _ _ _ _=>rfl) ?_
       ·intro fl b h1 h2 hS
        have:=Anx h1 (by omega)
        subst this
        exact hS
       ·intro b q hb
        exact⟨by simpa using hown s' b ([i]++q) (by simp) (by simpa using hb),rfl⟩
  ·cases h
 ·cases h
  cases ho with
  | ro h1 h2 hr=>exact Imp.none fun _ _ _=> .rd h1 hr
 ·cases h
theorem AuK {s:Nat} {ks:List Nat} (h:Dp ks H s= .free):s∉ks∧H s= .free:=by
 unfold Dp at h
 split at h
 ·cases h
 ·rename_i hs
  exact⟨by simpa using hs,h⟩
theorem Imp.cons {v:V} {x:Value} {u u':Gq} {pre:List Nat} {i0:Nat} {vs:List V} {xs:List Value} (h1:Imp F w' own' n H v x u (pre++ [i0]))
 (h2:(∀s,s∈u'.map (·.1)→Dp (u.map (·.1)) H s= .free)∧(u'.map (·.1)).Nodup∧∃(βs:Nat→Base) (μ:Nat→List Nat),(∀s,s∈u'.map (·.1)→∃i q,μ s=pre++(i0+1+i)::q)∧
  (∀s1 s2 q1 q2,s1∈u'.map (·.1)→s2∈u'.map (·.1)→μ s1++q1=μ s2++q2→s1=s2)∧
  ∀(β'':Nat→Base) (own'':Nat→Option (Nat×List Nat)) (H'':Hp),(∀s,s∈u'.map (·.1)→β'' s=βs s)→
   (∀s b q,s∈u'.map (·.1)→own' b=some (n,μ s++q)→own'' b=some (s,q))→(∀s o,(s,o)∈u'→H'' s=o)→
   Pw (VR F β'' own'' H'' w') vs xs∧∀s o,(s,o)∈u'→OR F β'' own'' H'' w' s o):
 (∀s,s∈(u++u').map (·.1)→H s= .free)∧((u++u').map (·.1)).Nodup∧∃(βs:Nat→Base) (μ:Nat→List Nat),(∀s,s∈(u++u').map (·.1)→∃i q,μ s=pre++(i0+i)::q)∧
  (∀s1 s2 q1 q2,s1∈(u++u').map (·.1)→s2∈(u++u').map (·.1)→μ s1++q1=μ s2++q2→s1=s2)∧
  ∀(β'':Nat→Base) (own'':Nat→Option (Nat×List Nat)) (H'':Hp),(∀s,s∈(u++u').map (·.1)→β'' s=βs s)→
   (∀s b q,s∈(u++u').map (·.1)→own' b=some (n,μ s++q)→own'' b=some (s,q))→(∀s o,(s,o)∈u++u'→H'' s=o)→
   Pw (VR F β'' own'' H'' w') (v::vs) (x::xs)∧∀s o,(s,o)∈u++u'→OR F β'' own'' H'' w' s o:=by
 obtain⟨f1,n1,βs1,μ1,a1,a2,a3⟩:=h1
 obtain⟨f2,n2,βs2,μ2,b1,b2,b3⟩:=h2
 have hdis:∀s,s∈u'.map (·.1)→s∉u.map (·.1):=fun s hs=>(AuK (f2 s hs)).1
 refine⟨?_,?_,fun s=>if s∈u.map (·.1)then βs1 s else βs2 s,fun s=>if s∈u.map (·.1)then μ1 s else μ2 s,?_,?_,?_⟩
 ·intro s hs
  rw[List.map_append,List.mem_append]at hs
  rcases hs with hs | hs
  ·exact f1 s hs
  ·exact(AuK (f2 s hs)).2
 ·rw[List.map_append,List.nodup_append]
  exact⟨n1,n2,fun a ha b hb hab=>hdis b hb (hab▸ha)⟩
 ·intro s hs
  rw[List.map_append,List.mem_append]at hs
  by_cases h:s∈u.map (·.1)
  ·obtain⟨q,hq⟩:=a1 s h
   exact⟨0,q,by dsimp only;rw[if_pos h,hq];simp⟩
  ·obtain⟨i,q,hq⟩:=b1 s (hs.resolve_left h)
   exact⟨1+i,q,by dsimp only;rw[if_neg h,hq];congr 2;omega⟩
 ·intro s1 s2 q1 q2 hs1 hs2 he
  dsimp only at he
  rw[List.map_append,List.mem_append]at hs1 hs2
  by_cases h1:s1∈u.map (·.1)<;>by_cases h2:s2∈u.map (·.1)
  ·rw[if_pos h1,if_pos h2]at he
   exact a2 s1 s2 q1 q2 h1 h2 he
  ·rw[if_pos h1,if_neg h2]at he
   obtain⟨q3,e3⟩:=a1 s1 h1
   obtain⟨i,q4,e4⟩:=b1 s2 (hs2.resolve_left h2)
   rw[e3,e4]at he
   simp at he
   omega
  ·rw[if_neg h1,if_pos h2]at he
   obtain⟨q3,e3⟩:=a1 s2 h2
   obtain⟨i,q4,e4⟩:=b1 s1 (hs1.resolve_left h1)
   rw[e3,e4]at he
   simp at he
   omega
  ·rw[if_neg h1,if_neg h2]at he
   exact b2 s1 s2 q1 q2 (hs1.resolve_left h1) (hs2.resolve_left h2) he
 ·intro β'' own'' H'' hβ hown hH
  obtain⟨c1,c2⟩:=a3 β'' own'' H'' (fun s hs=>by have:=hβ s (by rw[List.map_append,List.mem_append];exact .inl hs);dsimp only at this;rw[if_pos hs]at this;exact this)
   (fun s b q hs hb=>hown s b q (by rw[List.map_append,List.mem_append];exact .inl hs) (by dsimp only;rw[if_pos hs];exact hb)) (fun s o hso=>hH s o (List.mem_append_left _ hso))
  obtain⟨d1,d2⟩:=b3 β'' own'' H'' (fun s hs=>by have:=hβ s (by rw[List.map_append,List.mem_append];exact .inr hs);dsimp only at this;rw[if_neg (hdis s hs)]at this;exact this)
   (fun s b q hs hb=>hown s b q (by rw[List.map_append,List.mem_append];exact .inr hs) (by dsimp only;rw[if_neg (hdis s hs)];exact hb)) (fun s o hso=>hH s o (List.mem_append_right _ hso))
  refine⟨.cons c1 d1,fun s o hso=> ?_⟩
  rcases List.mem_append.1 hso with h | h
  ·exact c2 s o h
  ·exact d2 s o h
theorem AEW:∀ {vs vs':List V} {xs:List Value} {H:Hp} {u:Gq} {ss ss':List Nat} (i0:Nat) (pre:List Nat),vs.length=xs.length→
 (∀(i:Nat) (v:V) (x:Value),vs[i]? =some v→xs[i]? =some x→Ow F.Ah w' own' (fun _ b=>F.G b) 0 n (pre++ [i0+i]) v x)→AFV H ss vs=some (vs',u,ss')→
 (∀s,s∈u.map (·.1)→H s= .free)∧(u.map (·.1)).Nodup∧∃(βs:Nat→Base) (μ:Nat→List Nat),(∀s,s∈u.map (·.1)→∃i q,μ s=pre++(i0+i)::q)∧
  (∀s1 s2 q1 q2,s1∈u.map (·.1)→s2∈u.map (·.1)→μ s1++q1=μ s2++q2→s1=s2)∧
  ∀(β'':Nat→Base) (own'':Nat→Option (Nat×List Nat)) (H'':Hp),(∀s,s∈u.map (·.1)→β'' s=βs s)→
   (∀s b q,s∈u.map (·.1)→own' b=some (n,μ s++q)→own'' b=some (s,q))→(∀s o,(s,o)∈u→H'' s=o)→
   Pw (VR F β'' own'' H'' w') vs' xs∧∀s o,(s,o)∈u→OR F β'' own'' H'' w' s o:=by
 intro vs
 induction vs with
 | nil=>
  intro vs' xs H u ss ss' i0 pre hl hv h
  cases xs with
  | cons _ _=>simp at hl
  | nil=>
   simp only[AFV]at h
   cases h
   exact⟨by simp,by simp,fun _=>⟨none,0⟩,fun _=> [],by simp,by simp,fun _ _ _ _ _ _=>⟨.nil,by simp⟩⟩
 | cons v r ih=>
  intro vs' xs H u ss ss' i0 pre hl hv h
  cases xs with
  | nil=>simp at hl
  | cons x xs=>
   simp only[AFV]at h
   split at h
   ·cases h
   ·rename_i v1 u1 ss1 h1
    split at h
    ·cases h
    ·rename_i r2 u2 ss2 h2
     cases h
     exact Imp.cons (AuJ (hv 0 v x (by simp) (by simp)) h1) (ih (i0+1) pre (by simpa using hl) (fun i v x hv' hx=>by
      have:=hv (i+1) v x (by simpa using hv') (by simpa using hx)
      rwa [show i0+1+i=i0+(i+1)by omega]) h2)
theorem Imp.ofList {v:V} {x:Value} {u:Gq} {p:List Nat} {vs:List V} {xs:List Value} (h:(∀s,s∈u.map (·.1)→H s= .free)∧(u.map (·.1)).Nodup∧∃(βs:Nat→Base) (μ:Nat→List Nat),(∀s,s∈u.map (·.1)→∃i q,μ s=p++(0+i)::q)∧
 (∀s1 s2 q1 q2,s1∈u.map (·.1)→s2∈u.map (·.1)→μ s1++q1=μ s2++q2→s1=s2)∧
 ∀(β'':Nat→Base) (own'':Nat→Option (Nat×List Nat)) (H'':Hp),(∀s,s∈u.map (·.1)→β'' s=βs s)→
  (∀s b q,s∈u.map (·.1)→own' b=some (n,μ s++q)→own'' b=some (s,q))→(∀s o,(s,o)∈u→H'' s=o)→
  Pw (VR F β'' own'' H'' w') vs xs∧∀s o,(s,o)∈u→OR F β'' own'' H'' w' s o)
 (hv:∀(β'':Nat→Base) (own'':Nat→Option (Nat×List Nat)) (H'':Hp),Pw (VR F β'' own'' H'' w') vs xs→VR F β'' own'' H'' w' v x):Imp F w' own' n H v x u p:=by
 obtain⟨h1,h2,βs,μ,h3,h4,h5⟩:=h
 refine⟨h1,h2,βs,μ,fun s hs=> ?_,h4,fun β'' own'' H'' a b c=> ?_⟩
 ·obtain⟨i,q,hq⟩:=h3 s hs
  exact⟨_,hq⟩
 ·obtain⟨g1,g2⟩:=h5 β'' own'' H'' a b c
  exact⟨hv _ _ _ g1,g2⟩
theorem XI:∀ {cs:List V} {i:Nat} {v:V},F5 cs=true→cs[i]? =some v→(∃u,v= .sc u)∨∃e len c,v= .sl 3 e len c
 | [],i,v,_,hv=>by simp at hv
 | a::l,i,v,h,hv=>by
  unfold F5 at h
  split at h
  ·cases‹_=[]›
  ·rename_i heq;cases heq
   cases i with
   | zero=>simp at hv;exact .inl ⟨_,hv.symm⟩
   | succ i=>exact XI h (by simpa using hv)
  ·rename_i heq;cases heq
   cases i with
   | zero=>simp at hv;exact .inr ⟨_,_,_,hv.symm⟩
   | succ i=>exact XI h (by simpa using hv)
  ·cases h
theorem Au0 {p:List Nat} {v v':V} {x:Value} {u:Gq} {ss ss':List Nat} (ho:Ow F.Ah w' own' (fun _ b=>F.G b) 0 n p v x) (h:AG6 H ss v=some (v',u,ss')):
 Imp F w' own' n H v' x u p:=by
 unfold AG6 at h
 split at h
 ·split at h
  ·rename_i cs cs' u1 ss1 h1
   cases h
   cases ho with
   | agg q1 q2 q3=>
    exact Imp.ofList (AEW 0 p q2.symm (fun i v x hv hx=>by rw[Nat.zero_add];exact q3 i v x hv hx) h1) fun β'' own'' H'' hp=> .agg q1 hp.1 hp.2
  ·cases h
 ·rename_i s ss cs
  split at h
  ·rename_i hs
   split at h
   ·rename_i hpl
    cases h
    cases ho with
    | rptr h1 _ _=>exact absurd h1 (by omega)
    | @ptr _ _ b o vs hv hb hm hc=>
     refine⟨by simpa using hs,by simp,fun _=>⟨some ⟨b,o,none⟩,0⟩,fun _=>p,fun _ _=>⟨[],by simp⟩,?_,?_⟩
     ·intro s1 s2 q1 q2 h1 h2 _
      simp at h1 h2
      rw[h1,h2]
     ·intro β'' own'' H'' hβ hown hH
      have hβs:β'' s=⟨some ⟨b,o,none⟩,0⟩:=hβ s (by simp)
      have hHs:H'' s= .var cs:=hH s _ (by simp)
      refine⟨.ptr (.inr ⟨cs,hHs⟩) (by rw[hβs]),?_⟩
      intro s' o' hso
      simp at hso
      obtain⟨rfl,rfl⟩:=hso
      refine⟨b,o,vs,by rw[hβs],hown s' b [] (by simp) (by simpa using hb),hv,hm,?_⟩
      intro i v x hv' hx
      have:=hc i v x hv' hx
      rcases XI hpl hv' with⟨u,rfl⟩ | ⟨e,len,c,rfl⟩
      ·cases this;exact .sc ‹_›
      ·cases this with
       | ro h1 h2 hr=>exact .rd h1 hr
   ·cases h
  ·cases h
 ·exact AuJ ho h
theorem ACC:∀ {vs vs':List V} {xs:List Value} {H:Hp} {u:Gq} {ss ss':List Nat} (i0:Nat) (pre:List Nat),vs.length=xs.length→
 (∀(i:Nat) (v:V) (x:Value),vs[i]? =some v→xs[i]? =some x→Ow F.Ah w' own' (fun _ b=>F.G b) 0 n (pre++ [i0+i]) v x)→AuR H ss vs=some (vs',u,ss')→
 (∀s,s∈u.map (·.1)→H s= .free)∧(u.map (·.1)).Nodup∧∃(βs:Nat→Base) (μ:Nat→List Nat),(∀s,s∈u.map (·.1)→∃i q,μ s=pre++(i0+i)::q)∧
  (∀s1 s2 q1 q2,s1∈u.map (·.1)→s2∈u.map (·.1)→μ s1++q1=μ s2++q2→s1=s2)∧
  ∀(β'':Nat→Base) (own'':Nat→Option (Nat×List Nat)) (H'':Hp),(∀s,s∈u.map (·.1)→β'' s=βs s)→
   (∀s b q,s∈u.map (·.1)→own' b=some (n,μ s++q)→own'' b=some (s,q))→(∀s o,(s,o)∈u→H'' s=o)→
   Pw (VR F β'' own'' H'' w') vs' xs∧∀s o,(s,o)∈u→OR F β'' own'' H'' w' s o:=by
 intro vs
 induction vs with
 | nil=>
  intro vs' xs H u ss ss' i0 pre hl hv h
  cases xs with
  | cons _ _=>simp at hl
  | nil=>
   simp only[AuR]at h
   cases h
   exact⟨by simp,by simp,fun _=>⟨none,0⟩,fun _=> [],by simp,by simp,fun _ _ _ _ _ _=>⟨.nil,by simp⟩⟩
 | cons v r ih=>
  intro vs' xs H u ss ss' i0 pre hl hv h
  cases xs with
  | nil=>simp at hl
  | cons x xs=>
   simp only[AuR]at h
   split at h
   ·cases h
   ·rename_i v1 u1 ss1 h1
    split at h
    ·cases h
    ·rename_i r2 u2 ss2 h2
     cases h
     exact Imp.cons (Au0 (hv 0 v x (by simp) (by simp)) h1) (ih (i0+1) pre (by simpa using hl) (fun i v x hv' hx=>by
      have:=hv (i+1) v x (by simpa using hv') (by simpa using hx)
      rwa [show i0+1+i=i0+(i+1)by omega]) h2)
theorem AIc {p:List Nat} {v v':V} {x:Value} {u:Gq} {ss ss':List Nat} (ho:Ow F.Ah w' own' (fun _ b=>F.G b) 0 n p v x) (h:imp H ss v=some (v',u,ss')):
 Imp F w' own' n H v' x u p:=by
 unfold imp at h
 split at h
 ·split at h
  ·rename_i cs cs' u1 ss1 h1
   cases h
   cases ho with
   | tup q2 q3=>
    exact Imp.ofList (ACC 0 p q2.symm (fun i v x hv hx=>by rw[Nat.zero_add];exact q3 i v x hv hx) h1) fun β'' own'' H'' hp=> .tup hp.1 hp.2
  ·cases h
 ·exact Au0 ho h
end
end Go.Eng
