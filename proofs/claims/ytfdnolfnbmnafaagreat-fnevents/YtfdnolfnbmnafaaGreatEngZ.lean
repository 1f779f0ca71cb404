/- Own work: part 26 of the proof of FnEvents. -/
import Derived.Test.YtfdnolfnbmnafaaGreatEngY
set_option linter.unusedSimpArgs false
set_option linter.unusedVariables false
namespace Go.Eng
set_option linter.unusedVariables false
def unl (n:Nat) (listed:Array Bool):Nat:=(List.range n).countP fun j=> !listed.getD j false
theorem Ay5 {l:List Nat} (hn:l.Nodup) {p p':Nat→Bool} {q:Nat} (hq:q∈l) (h1:p q=true) (h2:p' q=false) (h:∀j,j≠q→p' j=p j):l.countP p'+1=l.countP p:=by
 induction l with
 | nil=>cases hq
 | cons a l ih=>
  simp only[List.nodup_cons]at hn
  rw[List.countP_cons,List.countP_cons]
  by_cases ha:a=q
  ·subst ha
   have:l.countP p' =l.countP p:=by
    apply List.countP_congr
    intro x hx
    rw[h x (fun e=>hn.1 (e▸hx))]
   rw[this,h1,h2]
   simp
  ·have:=ih hn.2 (by rcases List.mem_cons.1 hq with g | g;exact absurd g.symm ha;exact g)
   rw[h a ha]
   omega
theorem AHI {n:Nat} {listed:Array Bool} {q:Nat} (hs:listed.size=n) (hq:q<n) (h:listed.getD q true=false):unl n (listed.setIfInBounds q true)+1=unl n listed:=by
 unfold unl
 have hlt:q<listed.size:=by omega
 refine Ay5 List.nodup_range (q:=q) (List.mem_range.2 hq) ?_ ?_ ?_
 ·rw[Array.getD_eq_getD_getElem?]at h⊢
  rw[Array.getElem?_eq_getElem hlt]at h⊢
  simpa using h
 ·rw[Array.getD_eq_getD_getElem?]
  simp[hlt]
 ·intro j hj
  rw[getD_set_ne false (fun e=>hj e.symm)]
theorem AG2 {n:Nat} {listed:Array Bool} (h:unl n listed=0):∀j,j<n→listed.getD j false=true:=by
 intro j hj
 unfold unl at h
 rw[List.countP_eq_zero]at h
 have:=h j (List.mem_range.2 hj)
 simpa using this
section
variable {P:Program} {F:Fr} {β β':Nat→Base} {own own':Nat→Option (Nat×List Nat)} {H H':Hp} {w w':World} {st:List Tmp} {nt:Nat} {dsts:List (Option Tmp)} {env:List V} {a:Act}
def AuA (rops:List Qq) (k:Nat):Bool:=rops.all fun w=> !w.om.contains k||w.om.contains (k+100000)
def WQ (rops:List Qq) (rd:Qq) (k:Nat):Bool:=AEk rd.op&&AuA rops k&& !rd.om.contains k
structure ALA (ops:Array Oper) (rops:List Qq) (anc:Nat→Nat→Bool):Prop where
 len:rops.length=ops.size
 up:∀q o,ops[q]? =some o→∀j,anc q j=true→∃e,e∈o.after∧Region.binds .any e=true∧(e.on=j∨anc e.on j=true)
 pre:∀q o,ops[q]? =some o→∀e,e∈o.after→Region.binds .any e=true→e.on<q
 tau:∀(q:Nat) (rop:Qq),rops[q]? =some rop→∃t,rop.tau=some t∧∀k,k∈rop.om→k∈t
 conf:∀(i j:Nat) (ri rj:Qq),i<j→rops[i]? =some ri→rops[j]? =some rj→∀k,(k∈ri.om∧k∈rj.tau.getD []∧WQ rops rj k=false∨k∈ri.tau.getD []∧k∈rj.om∧WQ rops ri k=false)→anc j i=true
def Yt (rops:List Qq) (j:Nat):List Nat:=((rops[j]?).map (·.om)).getD []
theorem AFS {c:Cf} (hcb:c.bor=F.bor) (hct:c.takes=F.takes) {D:Dn} (hD:∀g a gi r o,D g a gi r o→Den P F.Ah F.G g a gi r o) (hF:∀g f,F.Ah g=some f→okF P f=true)
 {ops:Array Oper} (hdd:∀j:Nat,dsts[j]? =(ops[j]?).map (·.dst)) (huniq:∀(i j:Nat) (t:Tmp),dsts[i]? =some (some t)→dsts[j]? =some (some t)→i=j)
 (hlt:∀(j:Nat) (t:Tmp),dsts[j]? =some (some t)→t<nt) {rops:List Qq} {anc:Nat→Nat→Bool} (sr:ALA ops rops anc)
 (hstat:∀(i:Nat) (rop:Qq),rops[i]? =some rop→∃o,ops[i]? =some o∧Aww P F c st nt dsts anc i rop o) {HL:List O} {vs:List V} {us:List Gq} (hvl:vs.length=rops.length) (hul:us.length=rops.length)
 (htr:∀(i:Nat) (rop:Qq),rops[i]? =some rop→Tr D c env rop (vs.take i) (Lv HL (us.take i)) (vs.getD i .undef) (us.getD i [])) {Q:Exit→Act→World→Prop}
 (hQ:∀a' w' β' own',At F st nt dsts env β' own' (fun j=>vs.getD j .undef) (fun j=>j<ops.size) (hp (Lv HL us)) a' w'→Q .normal a' w'):
 ∀(fuel:Nat) (listed:Array Bool) (a:Act) (w:World) (β:Nat→Base) (own:Nat→Option (Nat×List Nat)) (Hc:Hp),listed.size=ops.size→unl ops.size listed≤fuel→
  (∀j i,listed.getD j false=true→anc j i=true→listed.getD i false=true)→
  At F st nt dsts env β own (fun j=>vs.getD j .undef) (fun j=>listed.getD j false=true) Hc a w→Agree (Yt rops) ops.size HL us (fun j=>listed.getD j false=true) Hc→(∀k,AuA rops k=true→shp (Hc k)=shp (hp HL k))→
  wpAny P .any ops Q fuel listed a w:=by
 have hom:∀j,∀k,k∈(us.getD j []).map (·.1)→k∈Yt rops j:=by
  intro j k hk
  cases hj:rops[j]? with
  | none=>
   have:us[j]? =none:=by rw[List.getElem?_eq_none_iff]at hj⊢;omega
   simp[List.getD_eq_getElem?_getD,this]at hk
  | some rop=>
   have tr:=htr j rop hj
   have hgo:okU rop.tau rop.om (hp (Lv HL (us.take j))) (us.getD j [])=true→k∈Yt rops j:=by
    intro h
    obtain⟨t,ht,_⟩:=sr.tau j rop hj
    rw[ht]at h
    simp only[okU,List.all_eq_true,Bool.and_eq_true,List.contains_iff_mem]at h
    obtain⟨p,hp',hpk⟩:=List.mem_map.1 hk
    have:=(h p hp').1
    rw[hpk]at this
    simpa[Yt,hj]using this
   cases hg:rop.guard with
   | none=>exact hgo (tr.go (.inl hg)).2
   | some g=>
    obtain⟨jj,t⟩:=g
    rcases tr.skip jj t hg with⟨b,hb,hs⟩ | ⟨_,_,hu⟩
    ·by_cases hbt:b=t
     ·subst hbt
      exact hgo (tr.go (.inr ⟨jj,b,hg,hb⟩)).2
     ·rw[(hs hbt).2]at hk;simp at hk
    ·rw[hu]at hk;simp at hk
 have hul':us.length=ops.size:=by rw[hul,sr.len]
 have husk:∀j,(∀k,AuA rops k=true→shp (Hs HL us j k)=shp (hp HL k))→∀k o,(k,o)∈us.getD j []→AuA rops k=true→shp o=shp (hp HL k):=by
  intro j hH k o hko hkp
  cases hj:rops[j]? with
  | none=>
   have:us[j]? =none:=by rw[List.getElem?_eq_none_iff]at hj⊢;omega
   simp[List.getD_eq_getElem?_getD,this]at hko
  | some rop=>
   have tr:=htr j rop hj
   have hgo:okU rop.tau rop.om (hp (Lv HL (us.take j))) (us.getD j [])=true→shp o=shp (hp HL k):=by
    intro h
    obtain⟨t,ht,_⟩:=sr.tau j rop hj
    rw[ht]at h
    simp only[okU,List.all_eq_true,Bool.and_eq_true,Bool.or_eq_true,Bool.not_eq_true',decide_eq_true_eq]at h
    have h1:=h _ hko
    have h2:=List.all_eq_true.1 hkp rop (List.mem_of_getElem? hj)
    simp only[Bool.or_eq_true,Bool.not_eq_true']at h2
    have h3:rop.om.contains (k+100000)=true:=by
     rcases h2 with h2 | h2
     ·rw[h1.1]at h2;cases h2
     ·exact h2
    rcases h1.2 with h4 | h4
    ·rw[h3]at h4;cases h4
    ·rw[←h4];exact hH k hkp
   cases hg:rop.guard with
   | none=>exact hgo (tr.go (.inl hg)).2
   | some g=>
    obtain⟨jj,t⟩:=g
    rcases tr.skip jj t hg with⟨b,hb,hs⟩ | ⟨_,_,hu⟩
    ·by_cases hbt:b=t
     ·subst hbt
      exact hgo (tr.go (.inr ⟨jj,b,hg,hb⟩)).2
     ·rw[(hs hbt).2]at hko;simp at hko
    ·rw[hu]at hko;simp at hko
 have hHs:∀j,j≤us.length→∀k,AuA rops k=true→shp (Hs HL us j k)=shp (hp HL k):=by
  intro j
  induction j with
  | zero=>intro _ k _;rw[ADo]
  | succ j ih=>
   intro hj k hk
   rw[Avz (by omega)]
   exact Ard (fun o ho=>husk j (ih (by omega)) k o ho hk) (ih (by omega) k hk)
 have hconf1:∀q rop,rops[q]? =some rop→∀tau,rop.tau=some tau→(∀j k,j<q→k∈Yt rops j→k∈tau→WQ rops rop k=false→anc q j=true)∧(∀j k,q<j→j<ops.size→k∈Yt rops j→k∈tau→WQ rops rop k=false→anc j q=true):=by
  intro q rop hq tau ht
  refine⟨fun j k hj hk hkt hex=> ?_,fun j k hj hjn hk hkt hex=> ?_⟩
  ·cases hrj:rops[j]? with
   | none=>simp[Yt,hrj]at hk
   | some rj=>exact sr.conf j q rj rop hj hrj hq k (.inl ⟨by simpa[Yt,hrj]using hk,by rw[ht];exact hkt,hex⟩)
  ·cases hrj:rops[j]? with
   | none=>simp[Yt,hrj]at hk
   | some rj=>exact sr.conf q j rop rj hj hq hrj k (.inr ⟨by rw[ht];exact hkt,by simpa[Yt,hrj]using hk,hex⟩)
 have hend:∀(listed:Array Bool) (a:Act) (w:World) (β:Nat→Base) (own:Nat→Option (Nat×List Nat)) (Hc:Hp),
  At F st nt dsts env β own (fun j=>vs.getD j .undef) (fun j=>listed.getD j false=true) Hc a w→Agree (Yt rops) ops.size HL us (fun j=>listed.getD j false=true) Hc→
  (∀j,j<ops.size→listed.getD j false=true)→listed.size=ops.size→Q .normal a w:=by
  intro listed a w β own Hc at_ ag hall hsz
  have hH:=ag.done hall
  have h2:Hs HL us ops.size=hp (Lv HL us):=by
   unfold Hs
   rw[←hul',List.take_length]
  rw[hH,h2]at at_
  refine hQ a w β own ⟨at_.inv,fun j t hj hd=>at_.loc j t (hall j hj) hd,fun i t hi hn=>at_.slot i t hi fun j hj=>hn j ?_,at_.nt,at_.defers⟩
  rw[←hsz]
  rcases Nat.lt_or_ge j listed.size with h | h
  ·exact h
  ·simp[Array.getElem?_eq_none h]at hj
 have hready:∀(listed:Array Bool),listed.size=ops.size→Region.ready .any ops listed=[]→∀j,j<ops.size→listed.getD j false=true:=by
  intro listed hsz hr j
  induction j using Nat.strongRecOn with
  | _ j ih=>
   intro hj
   cases hl:listed.getD j false with
   | true=>rfl
   | false=>
    exfalso
    have:j∈Region.ready .any ops listed:=by
     rw[mem_ready]
     refine⟨?_,ops[j],by simp[hj],fun e he hb=> ?_⟩
     ·have hlt:j<listed.size:=by omega
      rw[Array.getD_eq_getD_getElem?]at hl⊢
      rw[Array.getElem?_eq_getElem hlt]at hl⊢
      simpa using hl
     ·have:=sr.pre j ops[j] (by simp[hj]) e he hb
      exact ih e.on this (by omega)
    rw[hr]at this
    cases this
 intro fuel
 induction fuel with
 | zero=>
  intro listed a w β own Hc hsz hf hcl at_ ag hsh
  have hall:=AG2 (Nat.le_zero.1 hf)
  refine⟨?_,hend listed a w β own Hc at_ ag hall hsz⟩
  apply List.eq_nil_iff_forall_not_mem.2
  intro j hj
  rw[mem_ready]at hj
  obtain⟨h1,o,ho,_⟩:=hj
  have hjn:j<ops.size:=(Array.getElem?_eq_some_iff.1 ho).1
  have h2:=hall j hjn
  have hlt:j<listed.size:=by omega
  rw[Array.getD_eq_getD_getElem?]at h1 h2
  rw[Array.getElem?_eq_getElem hlt]at h1 h2
  simp at h1 h2
  rw[h1]at h2;cases h2
 | succ fuel ih=>
  intro listed a w β own Hc hsz hf hcl at_ ag hsh
  refine⟨fun hr=>hend listed a w β own Hc at_ ag (hready listed hsz hr) hsz,?_⟩
  intro q hq
  rw[mem_ready]at hq
  obtain⟨hq0,o,ho,hpre⟩:=hq
  have hqn:q<ops.size:=(Array.getElem?_eq_some_iff.1 ho).1
  have hqlt:q<listed.size:=by omega
  have hqS:¬listed.getD q false=true:=by
   rw[Array.getD_eq_getD_getElem?]at hq0⊢
   rw[Array.getElem?_eq_getElem hqlt]at hq0⊢
   simp at hq0⊢
   exact hq0
  obtain⟨rop,hrop⟩:∃rop,rops[q]? =some rop:=⟨rops[q]'(by rw[sr.len];exact hqn),by simp⟩
  obtain⟨o',ho',so⟩:=hstat q rop hrop
  rw[ho]at ho';cases ho'
  obtain⟨tau,htau,homtau⟩:=sr.tau q rop hrop
  have hancS:∀j,anc q j=true→listed.getD j false=true:=by
   intro j hj
   obtain⟨e,he,hb,h⟩:=sr.up q o ho j hj
   have:=hpre e he hb
   rcases h with h | h
   ·rw[←h];exact this
   ·exact hcl _ _ this h
  obtain⟨hlo,hhi⟩:=hconf1 q rop hrop tau htau
  have hom0:∀k,k∈rop.om→WQ rops rop k=false:=fun k hk=>by
   have:rop.om.contains k=true:=by simpa using hk
   simp[WQ,hk]
  have hmaskS:AEk rop.op=true→∀k,shp (masked (some tau) (Hs HL us q) k)=shp (masked (some tau) Hc k):=by
   intro _ k
   unfold masked
   dsimp only
   split
   ·rename_i hk
    have hk':k∈tau:=by simpa using hk
    cases hex:WQ rops rop k with
    | true=>
     have hkp:AuA rops k=true:=by
      unfold WQ at hex
      simp only[Bool.and_eq_true]at hex
      exact hex.1.2
     rw[hHs q (by omega) k hkp,hsh k hkp]
    | false=>rw[ag.at (anc:=anc) hqn hqS (k:=k) hancS hcl (fun j h1 h2=>hlo j k h1 h2 hk' hex) (fun j h1 h2 h3=>hhi j k h1 h2 h3 hk' hex)]
   ·rfl
  have hmaskN:AEk rop.op=false→masked (some tau) Hc=masked (some tau) (Hs HL us q):=fun hn=>
   ag.mask (anc:=anc) hqn hqS (tau:=tau) hancS hcl (fun j k h1 h2 h3=>hlo j k h1 h2 h3 (by simp[WQ,hn])) (fun j k h1 h2 h3 h4=>hhi j k h1 h2 h3 h4 (by simp[WQ,hn]))
  have hS':∀j,(listed.setIfInBounds q true).getD j false=true↔(listed.getD j false=true∨j=q):=by
   intro j
   by_cases hj:j=q
   ·subst hj
    simp[hqlt]
   ·rw[getD_set_ne false (fun e=>hj e.symm)]
    simp[hj]
  have hnext:∀ {x:Value} {w':World} {β':Nat→Base} {own':Nat→Option (Nat×List Nat)},
   (∀z y,VR F β own Hc w z y→VR F β' own' (A7 Hc (us.getD q [])) w' z y)→Inv F β' own' (A7 Hc (us.getD q [])) w'→VR F β' own' (A7 Hc (us.getD q [])) w' (vs.getD q .undef) x→
   wpAny P .any ops Q fuel (listed.setIfInBounds q true) (a.put o.dst x) w':=by
   intro x w' β' own' h1 h2 h3
   have h5:=at_.step (q:=q) (dst:=o.dst) (v:=vs.getD q .undef) (x:=x) (vals':=fun j=>vs.getD j .undef) h1 h2 h3 so.dst (fun j t hj hd hd2=>by
    have hd3:dsts[q]? =some (some t):=by rw[so.dst,hd]
    have h6:=huniq j q t hd2 hd3
    rw[h6]at hj
    exact hqS hj) so.lt (fun j hj=>rfl) rfl hqS
   refine ih _ _ w' β' own' (A7 Hc (us.getD q [])) (by simpa using hsz) ?_ ?_ ?_ ?_ (fun k hk=>Ard (fun o ho=>husk q (hHs q (by omega)) k o ho hk) (hsh k hk))
   ·have:=AHI hsz hqn hq0
    omega
   ·intro j i hj hji
    rw[hS']at hj⊢
    rcases hj with hj | hj
    ·exact .inl (hcl j i hj hji)
    ·subst hj;exact .inl (hancS i hji)
   ·exact⟨h5.inv,fun j t hj hd=>h5.loc j t ((hS' j).1 hj) hd,fun i t hi hn=>h5.slot i t hi fun j hj=>hn j ((hS' j).2 hj),h5.nt,h5.defers⟩
   ·have hag:=ag.step hul' hom (anc:=anc) hqn hqS hcl (fun j k h1 h2 h3=>hlo j k h1 h2 (homtau k (by simpa[Yt,hrop]using h3)) (hom0 k (by simpa[Yt,hrop]using h3))) (fun j k h1 h2 h3 h4=>hhi j k h1 h2 h3 (homtau k (by simpa[Yt,hrop]using h4)) (hom0 k (by simpa[Yt,hrop]using h4)))
    intro i k hi hc
    exact hag i k hi fun j hj hk=>(hS' j).symm.trans (hc j hj hk)
  have hev:evs (vs.take q) env=fun s=>evs (vs.take q) env s:=rfl
  have hloc:∀j,j<q→(vs.take q).getD j .undef=vs.getD j .undef:=by
   intro j hj
   simp[List.getD_eq_getElem?_getD,hj]
  have hancq:∀n,∀q,q≤n→∀o,ops[q]? =some o→∀j,anc q j=true→j<q:=by
   intro n
   induction n with
   | zero=>
    intro q hq o ho j hj
    obtain⟨e,he,hb,h⟩:=sr.up q o ho j hj
    have:=sr.pre q o ho e he hb
    omega
   | succ n ihn=>
    intro q hq o ho j hj
    obtain⟨e,he,hb,h⟩:=sr.up q o ho j hj
    have hlt:=sr.pre q o ho e he hb
    rcases h with h | h
    ·omega
    ·have hq2:q<ops.size:=(Array.getElem?_eq_some_iff.1 ho).1
     have:=ihn e.on (by omega) ops[e.on] (by simp) j h
     omega
  have tr:=htr q rop hrop
  have hopS:(rop.guard=none∨∃j t,rop.guard=some (j,t)∧(vs.take q).getD j .undef= .sc (.bool t))→o.wp P a w (wpAny P .any ops Q fuel (listed.setIfInBounds q true)) Q:=by
   intro hg
   obtain⟨hs,_⟩:=tr.go hg
   have hs:stepW D c (masked rop.tau Hc) (evs (vs.take q) env) rop.op (fun v' u'=>v' =vs.getD q .undef∧u' =us.getD q []):=by
    cases hsl:AEk rop.op with
    | true=>exact ACu hsl (by rw[htau];exact hmaskS hsl) hs
    | false=>
     have hm:masked rop.tau (hp (Lv HL (us.take q)))=masked rop.tau Hc:=by
      rw[htau];exact(hmaskN hsl).symm
     rw[hm]at hs
     exact hs
   refine AyH at_.inv (AyD rop.tau Hc) hcb hct hD hF (ok:=okS F.Ah st dsts anc q) (ev:=evs (vs.take q) env) ?_ ?_ so.op hs ?_
   ·intro s x hsx
    have h1:=at_.ok (anc:=anc) (q:=q) hancS (fun j hj=>by
     cases hh:anc j q with
     | false=>rfl
     | true=>exact absurd (hcl j q hj hh) hqS) hqS (ev:=evs vs env) (fun j _=>rfl) (fun i=>rfl) (fun v=>rfl) s x hsx
    have h2:evs (vs.take q) env s=evs vs env s:=by
     cases s with
     | loc j=>
      unfold okS at hsx
      split at hsx
      ·rename_i heq
       cases heq
       simp only[Bool.and_eq_true]at hsx
       exact hloc _ (hancq q q (Nat.le_refl q) o ho _ hsx.1)
      ·rename_i heq;cases heq
      ·rename_i heq;cases heq
      ·rename_i heq;cases heq
      ·cases hsx
     | slot i=>rfl
     | con v=>rfl
    rw[h2];exact h1
   ·intro hn s hs'
    refine Aus fun l hl=>so.tk hn l hl s ?_
    rw[hct];exact hs'
   ·intro v u x w' β' own' hk h1 h2 h3
    obtain⟨rfl,rfl⟩:=hk
    exact hnext h1 h2 h3
  unfold wpOp
  rw[ho]
  dsimp only
  cases hg:rop.guard with
  | none=>
   have hw:Region.wanted o (yielded ops a.tmps)=true:=by
    have:=so.guard
    rw[hg]at this
    simp[Region.wanted,this]
   rw[if_pos hw]
   exact .inl (hopS (.inl hg))
  | some g=>
   obtain⟨j,t⟩:=g
   obtain⟨g1,d,g2⟩:=so.gin j t hg
   have hjS:=hancS j g1
   rcases tr.skip j t hg with⟨b,hb,hskip⟩ | ⟨hb,hv0,hu0⟩
   rotate_left
   ·have hb2:vs.getD j .undef= .tup []:=by rw[←hloc j (hancq q q (Nat.le_refl q) o ho j g1)];exact hb
    have hw:=Akw (ops:=ops) (o:=o) (q:=q) at_ hdd (by rw[so.guard,hg]) g2 hjS hb2 (hlt j d g2)
    rw[if_neg (by rw[hw];simp)]
    have:=hnext (x:=undef) (w':=w) (β':=β) (own':=own) (by rw[hu0];exact fun z y h=>h) (by rw[hu0];exact at_.inv) (by rw[hv0];exact AnG)
    exact this
   have hb2:vs.getD j .undef= .sc (.bool b):=by rw[←hloc j (hancq q q (Nat.le_refl q) o ho j g1)];exact hb
   have hw:=AgS (ops:=ops) (o:=o) (q:=q) at_ hdd (by rw[so.guard,hg]) g2 hjS hb2 (hlt j d g2)
   by_cases hbt:b=t
   ·rw[if_pos (by rw[hw];simpa using hbt)]
    subst hbt
    exact .inl (hopS (.inr ⟨j,b,hg,hb⟩))
   ·rw[if_neg (by rw[hw];simpa using hbt)]
    obtain⟨h1,h2⟩:=hskip hbt
    have:=hnext (x:=undef) (w':=w) (β':=β) (own':=own) (by rw[h2];exact fun z y h=>h) (by rw[h2];exact at_.inv) (by rw[h1];exact AnG)
    exact this
end
end Go.Eng
