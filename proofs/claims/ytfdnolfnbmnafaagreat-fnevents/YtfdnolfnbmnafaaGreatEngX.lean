/- Own work: part 24 of the proof of FnEvents. -/
import Derived.Test.YtfdnolfnbmnafaaGreatEngW
set_option linter.unusedSimpArgs false
set_option linter.unusedVariables false
namespace Go.Eng
def AyV (q j:Nat):Bool:=decide (j<q)
section
variable {P:Program} {F:Fr} {β β':Nat→Base} {own own':Nat→Option (Nat×List Nat)} {H H':Hp} {w w':World} {st:List Tmp} {nt:Nat} {dsts:List (Option Tmp)} {env:List V} {a:Act}
theorem Aus {t:Option (List Nat)} {H:Hp} {s:Nat} (h:∀l,t=some l→s∈l):masked t H s=H s:=by
 unfold masked
 cases t with
 | none=>rfl
 | some l=>dsimp only;rw[if_pos (by simpa using h l rfl)]
theorem AIP (l:List V) (v:V) (j:Nat) (hj:j<l.length):(l++ [v]).getD j .undef=l.getD j .undef:=by
 simp[List.getD_eq_getElem?_getD,List.getElem?_append_left hj]
theorem Aza (l:List V) (v:V):(l++ [v]).getD l.length .undef=v:=by
 simp[List.getD_eq_getElem?_getD]
theorem run_text {c:Cf} (hcb:c.bor=F.bor) (hct:c.takes=F.takes) {D:Dn} (hD:∀g a gi r o,D g a gi r o→Den P F.Ah F.G g a gi r o) (hF:∀g f,F.Ah g=some f→okF P f=true)
 {ops:Array Oper} (hdd:∀j:Nat,dsts[j]? =(ops[j]?).map (·.dst)) (huniq:∀(i j:Nat) (t:Tmp),dsts[i]? =some (some t)→dsts[j]? =some (some t)→i=j)
 (hlt:∀(j:Nat) (t:Tmp),dsts[j]? =some (some t)→t<nt) {Qs:List V→List O→Prop} {Q:Exit→Act→World→Prop}
 (hQ:∀vals' HL' a' w' β' own',vals'.length=ops.size→Qs vals' HL'→At F st nt dsts env β' own' (fun j=>vals'.getD j .undef) (fun j=>j<ops.size) (hp HL') a' w'→Q .normal a' w'):
 ∀(rops:List Qq) (valsL:List V) (HL:List O) (a:Act) (w:World) (β:Nat→Base) (own:Nat→Option (Nat×List Nat)),
  (∀(i:Nat) (rop:Qq),rops[i]? =some rop→∃o,ops[valsL.length+i]? =some o∧Aww P F c st nt dsts AyV (valsL.length+i) rop o)→valsL.length+rops.length=ops.size→
  At F st nt dsts env β own (fun j=>valsL.getD j .undef) (fun j=>j<valsL.length) (hp HL) a w→IX D c env rops valsL HL Qs→
  wpOps P ops Q (List.range' valsL.length rops.length) a w:=by
 intro rops
 induction rops with
 | nil=>
  intro valsL HL a w β own _ hl at_ hr
  have hlen:valsL.length=ops.size:=by simpa using hl
  exact hQ valsL HL a w β own hlen hr (by rw[←hlen];exact at_)
 | cons rop rops ih=>
  intro valsL HL a w β own hstat hl at_ hr
  obtain⟨o,ho,so⟩:=hstat 0 rop (by simp)
  rw[Nat.add_zero]at ho so
  have hnext:∀ {v:V} {x:Value} {u:Gq} {w':World} {β':Nat→Base} {own':Nat→Option (Nat×List Nat)},
   (∀z y,VR F β own (hp HL) w z y→VR F β' own' (A7 (hp HL) u) w' z y)→Inv F β' own' (A7 (hp HL) u) w'→VR F β' own' (A7 (hp HL) u) w' v x→IX D c env rops (valsL++ [v]) (Ahj HL u) Qs→
   wpOps P ops Q (List.range' (valsL.length+1) rops.length) (a.put o.dst x) w':=by
   intro v x u w' β' own' h1 h2 h3 h4
   have h5:=at_.step (q:=valsL.length) (dst:=o.dst) (v:=v) (x:=x) (vals':=fun j=>(valsL++ [v]).getD j .undef) h1 h2 h3 so.dst (fun j t hj hd hd2=>by
    have hd3:dsts[valsL.length]? =some (some t):=by rw[so.dst,hd]
    have h6:=huniq j valsL.length t hd2 hd3
    rw[h6]at hj
    exact absurd hj (Nat.lt_irrefl _)) so.lt (fun j hj=>AIP valsL v j hj) (Aza valsL v) (Nat.lt_irrefl _)
   have:=ih (valsL++ [v]) (Ahj HL u) (a.put o.dst x) w' β' own' (fun i rop' hi=>by
    have:=hstat (i+1) rop' (by simpa using hi)
    rwa [show valsL.length+(i+1)=(valsL++ [v]).length+i by simp;omega]at this) (by simp at hl⊢;omega) (by
    rw[ADE]
    refine⟨h5.inv,fun j t hj hd=>h5.loc j t ?_ hd,fun i t hi hn=>h5.slot i t hi fun j hj=>hn j ?_,h5.nt,h5.defers⟩
    ·simp at hj;omega
    ·simp;omega) h4
   simpa using this
  have hopS:stepW D c (masked rop.tau (hp HL)) (evs valsL env) rop.op (fun v u=>okU rop.tau rop.om (hp HL) u=true∧IX D c env rops (valsL++ [v]) (Ahj HL u) Qs)→
   o.wp P a w (wpOps P ops Q (List.range' (valsL.length+1) rops.length)) Q:=by
   intro hs
   refine AyH at_.inv (AyD rop.tau (hp HL)) hcb hct hD hF (ok:=okS F.Ah st dsts AyV valsL.length) (ev:=evs valsL env) ?_ ?_ so.op hs ?_
   ·refine at_.ok (anc:=AyV) (q:=valsL.length) (fun j hj=>by simpa[AyV]using hj) (fun j hj=>by simp[AyV];exact Nat.le_of_lt hj) (Nat.lt_irrefl _) (fun j _=>rfl) (fun i=>rfl) (fun v=>rfl)
   ·intro hn s hs'
    refine Aus fun l hl=>so.tk hn l hl s ?_
    rw[hct];exact hs'
   ·intro v u x w' β' own' hk h1 h2 h3
    exact hnext h1 h2 h3 hk.2
  show wpOps P ops Q (List.range' valsL.length (rops.length+1)) a w
  rw[List.range'_succ]
  unfold wpOps
  rw[ho]
  dsimp only
  unfold IX at hr
  dsimp only at hr
  cases hg:rop.guard with
  | none=>
   rw[hg]at hr
   have hw:Region.wanted o (yielded ops a.tmps)=true:=by
    have:=so.guard
    rw[hg]at this
    simp[Region.wanted,this]
   rw[if_pos hw]
   exact .inl (hopS hr)
  | some g=>
   obtain⟨j,t⟩:=g
   rw[hg]at hr
   dsimp only at hr
   obtain⟨g1,d,g2⟩:=so.gin j t hg
   have hj:j<valsL.length:=by simpa[AyV]using g1
   split at hr
   ·rename_i b hb
    have hw:=AgS (ops:=ops) (o:=o) (q:=valsL.length) at_ hdd (by rw[so.guard,hg]) g2 hj hb (hlt j d g2)
    split at hr
    ·rename_i hbt
     rw[if_pos (by rw[hw];simpa using hbt)]
     exact .inl (hopS hr)
    ·rename_i hbt
     rw[if_neg (by rw[hw];simpa using hbt)]
     exact hnext (u:=[]) (fun z y h=>h) at_.inv AnG hr
   ·rename_i hb
    have hw:=Akw (ops:=ops) (o:=o) (q:=valsL.length) at_ hdd (by rw[so.guard,hg]) g2 hj hb (hlt j d g2)
    rw[if_neg (by rw[hw];simp)]
    exact hnext (u:=[]) (fun z y h=>h) at_.inv AnG hr
   ·exact hr.elim
end
end Go.Eng
