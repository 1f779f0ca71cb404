/- Own work: part 32 of the proof of FnEvents. -/
import Derived.Test.YtfdnolfnbmnafaaGreatEngAE
set_option linter.unusedSimpArgs false
set_option linter.unusedVariables false
namespace Go.Eng
theorem Aju (vals:List V):∀(l:List (Nat×Nat)) (env:List V) (i:Nat),(∃j,(i,j)∈l∧(sets vals env l).getD i .undef=vals.getD j .undef)∨
 ((sets vals env l).getD i .undef=env.getD i .undef∧∀j,(i,j)∉l)∨(sets vals env l).getD i .undef= .undef
 | [],env,i=> .inr (.inl ⟨rfl,by simp⟩)
 | (k,j)::l,env,i=>by
  simp only[sets]
  rcases Aju vals l (env.set k (vals.getD j .undef)) i with⟨j',h1,h2⟩ | ⟨h1,h2⟩ | h1
  ·exact .inl ⟨j',by simp[h1],h2⟩
  ·by_cases hik:i=k
   ·subst hik
    rcases Nat.lt_or_ge i env.length with hl | hl
    ·refine .inl ⟨j,by simp,?_⟩
     rw[h1,List.getD_eq_getElem?_getD,List.getElem?_set_self hl]
     rfl
    ·refine .inr (.inr ?_)
     rw[h1,List.getD_eq_getElem?_getD,List.getElem?_eq_none (by simpa using hl)]
     rfl
   ·refine .inr (.inl ⟨?_,?_⟩)
    ·rw[h1,List.getD_eq_getElem?_getD,List.getElem?_set_ne (fun h=>hik h.symm),←List.getD_eq_getElem?_getD]
    ·intro j' hj'
     rcases List.mem_cons.1 hj' with h | h
     ·cases h;exact hik rfl
     ·exact h2 j' h
  ·exact .inr (.inr h1)
theorem ApA:∀(l:List Nat) (env:List V) (i:Nat),(clear env l).getD i .undef=if i∈l then .undef else env.getD i .undef
 | [],env,i=>by simp[clear]
 | k::l,env,i=>by
  simp only[clear]
  rw[ApA l (env.set k .undef) i]
  by_cases hik:i=k
  ·subst hik
   simp only[List.mem_cons,true_or,if_true]
   split
   ·rfl
   ·rw[List.getD_eq_getElem?_getD,List.getElem?_set]
    simp
    split<;>rfl
  ·by_cases hil:i∈l
   ·simp[hil]
   ·simp only[List.mem_cons,hik,hil,or_self,if_false]
    rw[List.getD_eq_getElem?_getD,List.getElem?_set_ne (fun h=>hik h.symm),←List.getD_eq_getElem?_getD]
section
variable {P:Program} {F:Fr} {st:List Tmp} {nt:Nat} {β:Nat→Base} {own:Nat→Option (Nat×List Nat)} {s:St} {a:Act} {w:World}
theorem AzY {c:Cf} (hct:c.takes=F.takes) {dsts:List (Option Tmp)} {anc:Nat→Nat→Bool} {q:Nat} {rop:Qq} {o:Oper} (h:opB P F.Ah F.takes st nt dsts anc q rop o=true) (hd:dsts[q]? =some o.dst):
 Aww P F c st nt dsts anc q rop o:=by
 simp only[opB,Bool.and_eq_true,Bool.or_eq_true,Bool.not_eq_true',beq_iff_eq]at h
 obtain⟨⟨⟨⟨h1,h2⟩,h3⟩,h4⟩,h5⟩:=h
 refine⟨by rw[hct];exact h1,h2,?_,hd,?_,?_⟩
 ·intro j t hg
  rw[hg]at h3
  simp only[Bool.and_eq_true]at h3
  refine⟨h3.1,?_⟩
  split at h3
  ·rename_i d hh;exact⟨d,hh⟩
  ·cases h3.2
 ·intro t ht
  rw[ht]at h4
  simpa using h4
 ·intro hn l hl s hs
  rcases h5 with h5 | h5
  ·rw[hn]at h5;cases h5
  ·rw[hl]at h5
   simp only[List.all_eq_true,List.contains_iff_mem]at h5
   exact h5 s (by rw[←hct];exact hs)
theorem AFs (ACK:P.follows .mixedOrders=true) {c:Cf} (hcb:c.bor=F.bor) (hct:c.takes=F.takes) {D:Dn} (hD:∀g a gi r o,D g a gi r o→Den P F.Ah F.G g a gi r o) (hF:∀g f,F.Ah g=some f→okF P f=true)
 {r:Bl} {d:Bool} {id:Nat} {ops:Array Oper} (hm:AMy P F.Ah F.takes F.ngiven st nt r d ops=true) (rel:Rel F st nt β own s a w) {Qs:St→Prop} (h:AEM D c r Qs s) {Q:Exit→Act→World→Prop}
 (hQ:∀s' a' w' β' own',Qs s'→Rel F st nt β' own' s' a' w'→Q .normal a' w'):(Code.region id ops d).wp P Q a w:=by
 simp only[AMy,Bool.and_eq_true,List.all_eq_true,decide_eq_true_eq]at hm
 obtain⟨⟨⟨⟨⟨⟨h1,h2⟩,h3⟩,h4⟩,h5⟩,h6⟩,h7⟩:=hm
 obtain⟨own1,rel1⟩:=Akv rel h5
 generalize hdsts:ops.toList.map (·.dst)=dsts at *
 have hdd:∀j:Nat,dsts[j]? =(ops[j]?).map (·.dst):=by
  intro j;rw[←hdsts];simp
 have huniq:=AaM h2
 obtain⟨hlen,hops⟩:=Aua h1
 simp only[Array.length_toList]at hlen
 have hlt:∀(j:Nat) (t:Tmp),dsts[j]? =some (some t)→t<nt:=by
  intro j t hj
  have hjo:j<ops.size:=by
   have:=(List.getElem?_eq_some_iff.1 hj).1
   rw[←hdsts]at this;simpa using this
  obtain⟨rop,hrop⟩:∃rop,r.ops[j]? =some rop:=⟨r.ops[j]'(by omega),by simp⟩
  obtain⟨o,ho,hob,_⟩:=hops j rop hrop
  have hd:dsts[j]? =some o.dst:=by rw[hdd];simp at ho;simp[ho]
  rw[Nat.zero_add]at hob
  have so:=AzY (c:=c) hct hob hd
  rw[hd]at hj
  exact so.lt t (by simpa using hj)
 have hstat:∀(i:Nat) (rop:Qq),r.ops[i]? =some rop→∃o,ops[i]? =some o∧Aww P F c st nt dsts (if d then AH2 (Ac1 ops.toList [])else AyV) i rop o:=by
  intro i rop hi
  obtain⟨o,ho,hob,_⟩:=hops i rop hi
  rw[Nat.zero_add]at hob
  have ho':ops[i]? =some o:=by simpa using ho
  exact⟨o,ho',AzY hct hob (by rw[hdd,ho'];rfl)⟩
 have hfin:∀ {vals':List V} {HL':List O} {a':Act} {w':World} {β':Nat→Base} {own':Nat→Option (Nat×List Nat)},
  (match JK ⟨clear (sets vals' (Fu s r.fresh).env r.sets) r.clr,HL'⟩ r.JK with | some s'=>Qs s' | none=>False)→
  At F st nt dsts (Fu s r.fresh).env β' own' (fun j=>vals'.getD j .undef) (fun j=>j<ops.size) (hp HL') a' w'→Q .normal a' w':=by
  intro vals' HL' a' w' β' own' hq at_
  have rel2:Rel F st nt β' own' ⟨clear (sets vals' (Fu s r.fresh).env r.sets) r.clr,HL'⟩ a' w':=by
   refine⟨at_.inv,?_,at_.nt,at_.defers⟩
   intro i t hi
   show VR F β' own' (hp HL') w' ((clear (sets vals' (Fu s r.fresh).env r.sets) r.clr).getD i .undef) _
   rw[ApA]
   split
   ·exact .undef
   rename_i hcl
   rcases Aju vals' r.sets (Fu s r.fresh).env i with⟨j,g1,g2⟩ | ⟨g1,g2⟩ | g1
   ·rw[g2]
    have hb:=h3 (i,j) g1
    simp only[ANU]at hb
    split at hb
    ·rename_i t1 t2 e1 e2
     have:t1=t2:=by simpa using hb
     subst this
     rw[hi]at e1;cases e1
     have hj:j<ops.size:=by
      have:=(List.getElem?_eq_some_iff.1 e2).1
      rw[←hdsts]at this;simpa using this
     exact at_.loc j t hj e2
    ·cases hb
   ·rw[g1]
    refine at_.slot i t hi fun j hj hd=> ?_
    rcases Akp h4 i t hi with g3 | ⟨j',g3⟩ | g3
    ·have:dsts.contains (some t)=true:=by simpa using List.mem_of_getElem? hd
     rw[g3]at this;cases this
    ·rw[Nat.zero_add]at g3;exact g2 j' g3
    ·rw[Nat.zero_add]at g3;exact hcl g3
   ·rw[g1];exact .undef
  split at hq
  ·rename_i s' hs'
   obtain⟨β2,own2,rel3⟩:=Aof rel2 (by simpa[List.all_eq_true]using h6) hs'
   exact hQ s' a' w' β2 own2 hq rel3
  ·exact hq.elim
 have h':IX D c (Fu s r.fresh).env r.ops [] (Fu s r.fresh).H (fun vals H=>match JK ⟨clear (sets vals (Fu s r.fresh).env r.sets) r.clr,H⟩ r.JK with | some s'=>Qs s' | none=>False):=h
 have at0:∀(wd:World),wd.heap=w.heap→wd.os=w.os→wd.tape=w.tape→wd.output=w.output→∀(S:Nat→Prop) (vals:Nat→V),(∀j,¬S j)→
  At F st nt dsts (Fu s r.fresh).env β own1 vals S (hp (Fu s r.fresh).H) a wd:=by
  intro wd e1 e2 e3 e4 S vals hS
  have stp:=Step.refl' rel1.inv e1 e2 e3 e4
  exact⟨stp.inv rel1.inv (fun _ h=>by simp at h) (fun _ h=>by simp at h),fun j t hj _=>absurd hj (hS j),fun i t hi _=>stp.vr rel1.inv (rel1.env i t hi),rel1.nt,rel1.defers⟩
 cases d with
 | false=>
  refine wp_region ?_
  have:=run_text (F:=F) (st:=st) (nt:=nt) (dsts:=dsts) (env:=(Fu s r.fresh).env) hcb hct hD hF hdd huniq hlt (Q:=Q) (Qs:=fun vals H=>match JK ⟨clear (sets vals (Fu s r.fresh).env r.sets) r.clr,H⟩ r.JK with | some s'=>Qs s' | none=>False)
   (fun vals' HL' a' w' β' own' _ hq at_=>hfin hq at_) r.ops [] (Fu s r.fresh).H a w β own1 (fun i rop hi=>by
    have:=hstat i rop hi
    simpa using this) (by simpa using hlen) (at0 w rfl rfl rfl rfl _ _ (by simp)) h'
  rw[List.range_eq_range']
  simpa[hlen]using this
 | true=>
  refine wp_region_any ACK ?_
  obtain⟨vs,us,t1,t2,t3,t4⟩:=trace h'
  have sr:ALA ops r.ops (AH2 (Ac1 ops.toList [])):=by
   obtain⟨_,g2⟩:=Arz ops.toList []
   refine⟨hlen,?_,?_,?_,?_⟩
   ·intro q o ho j hj
    obtain⟨e,p1,p2,p3⟩:=g2 q o (by simpa using ho) j (by simpa[AH2]using hj)
    exact⟨e,p1,p2,p3⟩
   ·intro q o ho e he hb
    have hq:q<ops.size:=(Array.getElem?_eq_some_iff.1 ho).1
    obtain⟨rop,hrop⟩:∃rop,r.ops[q]? =some rop:=⟨r.ops[q]'(by omega),by simp⟩
    obtain⟨o',ho',_,hp⟩:=hops q rop hrop
    have:o' =o:=by
     have h8:ops[q]? =some o':=by simpa using ho'
     rw[ho]at h8;cases h8;rfl
    subst this
    have hpre:=(hp rfl).2
    simp only[preB,List.all_eq_true,Bool.or_eq_true,Bool.not_eq_true',decide_eq_true_eq]at hpre
    rcases hpre e (Array.mem_toList_iff.2 he)with h8 | h8
    ·rw[hb]at h8;cases h8
    ·omega
   ·intro q rop hrop
    obtain⟨o',ho',_,hp⟩:=hops q rop hrop
    have ht:=(hp rfl).1
    unfold AMn at ht
    split at ht
    ·rename_i t hh
     simp only[List.all_eq_true,List.contains_iff_mem]at ht
     exact⟨t,hh,ht⟩
    ·cases ht
   ·intro i j ri rj hij hi hj k hk
    have h8:ApL r.ops (AH2 (Ac1 ops.toList [])) r.ops 0=true:=by
     rcases h7 with h7
     simpa using h7
    have:=AkE h8 i j ri rj hij hi hj k hk
    simpa using this
  have hunl:unl ops.size (Array.replicate ops.size false)≤ops.size:=by
   unfold unl
   have:=List.countP_le_length (p:=fun j=> !(Array.replicate ops.size false).getD j false) (l:=List.range ops.size)
   simpa using this
  have hfalse:∀j,¬(Array.replicate ops.size false).getD j false=true:=by
   intro j
   rw[Array.getD_eq_getD_getElem?]
   by_cases hj:j<ops.size<;>simp[hj]
  refine AFS (F:=F) (st:=st) (nt:=nt) (dsts:=dsts) (env:=(Fu s r.fresh).env) hcb hct hD hF hdd huniq hlt sr hstat t1 t2 (HL:=(Fu s r.fresh).H) (fun i rop hi=>by simpa using t4 i rop hi) (Q:=Q)
   (fun a' w' β' own' at_=>hfin (vals':=vs) (HL':=Lv (Fu s r.fresh).H us) (by simpa using t3) at_) ops.size (Array.replicate ops.size false) a _ β own1 (hp (Fu s r.fresh).H) (by simp) hunl
   (fun j i hj _=>absurd hj (hfalse j)) (at0 {w with drawn:=w.drawn+1} rfl rfl rfl rfl _ _ hfalse) ?_ (fun _ _=>rfl)
  have hom:∀j,∀k,k∈(us.getD j []).map (·.1)→k∈Yt r.ops j:=by
   intro j k hk
   cases hj:r.ops[j]? with
   | none=>
    have:us[j]? =none:=by rw[List.getElem?_eq_none_iff]at hj⊢;omega
    simp[List.getD_eq_getElem?_getD,this]at hk
   | some rop=>
    have tr:=t4 j rop hj
    have hgo:okU rop.tau rop.om (hp (Lv (Fu s r.fresh).H (us.take j))) (us.getD j [])=true→k∈Yt r.ops j:=by
     intro h
     obtain⟨t,ht,_⟩:=sr.tau j rop hj
     rw[ht]at h
     simp only[okU,List.all_eq_true,Bool.and_eq_true,List.contains_iff_mem]at h
     obtain⟨p,hp',hpk⟩:=List.mem_map.1 hk
     have:=(h p hp').1
     rw[hpk]at this
     simpa[Yt,hj]using this
    cases hg:rop.guard with
    | none=>exact hgo (by simpa using(tr.go (.inl hg)).2)
    | some g=>
     obtain⟨jj,t⟩:=g
     rcases tr.skip jj t hg with⟨b,hb,hs⟩ | ⟨_,_,hu⟩
     ·by_cases hbt:b=t
      ·subst hbt
       exact hgo (by simpa using(tr.go (.inr ⟨jj,b,hg,by simpa using hb⟩)).2)
      ·rw[(hs hbt).2]at hk;simp at hk
     ·rw[hu]at hk;simp at hk
  have ag:=Agree.start (om:=Yt r.ops) (n:=ops.size) (HL:=(Fu s r.fresh).H) (us:=us) (by rw[t2,hlen]) hom
  intro i k hi hc
  exact ag i k hi fun j hj hk=>⟨fun h=>h.elim,fun h=>(hfalse j ((hc j hj hk).2 h)).elim⟩
end
end Go.Eng
