/- Own work: part 30 of the proof of FnEvents. -/
import Derived.Test.YtfdnolfnbmnafaaGreatEngAC
set_option linter.unusedSimpArgs false
set_option linter.unusedVariables false
namespace Go.Eng
def AlX (own:Nat→Option (Nat×List Nat)) (t k off:Nat):Nat→Option (Nat×List Nat):=fun b=>
 match own b with
 | some (j,p)=>if j=t then some (k,off::p)else some (j,p)
 | none=>none
section
variable {F:Fr} {st:List Tmp} {nt:Nat} {β:Nat→Base} {own:Nat→Option (Nat×List Nat)} {H:Hp} {s:St} {a:Act} {w:World}
theorem AzX {t k off b:Nat} {p:List Nat} (h:own b=some (t,p)):AlX own t k off b=some (k,off::p):=by unfold AlX;rw[h];simp
theorem Yi {t k off b j:Nat} {p:List Nat} (h:own b=some (j,p)) (hj:j≠t):AlX own t k off b=some (j,p):=by unfold AlX;rw[h];simp[hj]
theorem AF8 {t k off b:Nat} {q:Nat×List Nat} (h:AlX own t k off b=some q):∃r,own b=some r:=by
 unfold AlX at h
 cases ho:own b with
 | none=>rw[ho]at h;cases h
 | some r=>exact⟨r,rfl⟩
theorem Azq (inv:Inv F β own H w) {t k off e t' len:Nat} {cs:List V} (ht:H t= .tarr k off e t' len cs) (hkt:k≠t) {e2 t2 len2:Nat} {cs2:List V} (hk:Al (H k)=some (e2,t2,len2,cs2))
 (hoff:off<cs2.length) {O':O} (hO:(H k= .arr e2 t2 len2 cs2∧O' = .arr e2 (max t2 t') len2 (cs2.set off (.sl 0 e len cs)))∨
  ∃k3 o3,H k= .tarr k3 o3 e2 t2 len2 cs2∧O' = .tarr k3 o3 e2 (max t2 t') len2 (cs2.set off (.sl 0 e len cs))):
 Inv F β (AlX own t k off) (A7 H [(k,O'),(t,.dead)]) w∧∀z y,VR F β own H w z y→VR F β (AlX own t k off) (A7 H [(k,O'),(t,.dead)]) w z y:=by
 have hot:=inv.objs t
 rw[ht]at hot
 obtain⟨hARt,_,_,hhome⟩:=hot
 obtain⟨b,o,hb,hlb,hcell⟩:=hhome (Hq.2 ⟨_,_,_,_,hk⟩)
 obtain⟨vs,g1,g2,g3,g4,g5⟩:=Nj inv hk
 have hH:∀j,A7 H [(k,O'),(t,.dead)] j=if j=t then .dead else if j=k then O' else H j:=fun j=>rfl
 have hO':Al O' =some (e2,max t2 t',len2,cs2.set off (.sl 0 e len cs)):=by
  rcases hO with⟨_,h⟩ | ⟨_,_,_,h⟩<;>rw[h]<;>rfl
 have stp:Step F β own H w β (AlX own t k off) (A7 H [(k,O'),(t,.dead)]) w (fun j=>j=k∨j=t):=by
  refine⟨Nat.le_refl _,rfl,rfl,rfl,fun _ _ _=>rfl,?_,?_,?_,?_,?_,?_,?_,?_,?_⟩
  ·intro _ b2 _ hn
   refine⟨rfl,fun k2 h2=> ?_⟩
   unfold AlX at h2
   cases ho:own b2 with
   | none=>rw[ho]at h2;cases h2
   | some r=>
    obtain⟨j,p⟩:=r
    rw[ho]at h2
    simp only at h2
    split at h2
    ·cases h2
    ·cases h2;exact hn k2 ho
  ·intro b2 j p h2 hK
   exact Yi h2 (fun h=>hK (.inr h))
  ·intro b2 p h2
   obtain⟨r,hr⟩:=AF8 h2
   exact⟨(inv.ownb b2 r hr).1,fun _=>by rw[hr];simp⟩
  ·intro j hj
   exact⟨rfl,by rw[hH,if_neg (fun h=>hj (.inr h)),if_neg (fun h=>hj (.inl h))]⟩
  ·intro j e4 t4 l4 c4 hj h
   by_cases hjt:j=t
   ·exact .inl (by rw[hH,if_pos hjt])
   ·rcases hj with hj | hj
    ·subst hj
     rw[hk]at h;cases h
     exact .inr ⟨rfl,_,_,by rw[hH,if_neg hjt,if_pos rfl];exact hO'⟩
    ·exact absurd hj hjt
  ·intro j c4 hj h
   by_cases hjt:j=t
   ·exact .inl (by rw[hH,if_pos hjt])
   ·rcases hj with hj | hj
    ·subst hj;rw[h]at hk;cases hk
    ·exact absurd hj hjt
  ·intro j hj h
   by_cases hjt:j=t
   ·rw[hH,if_pos hjt]
   ·rcases hj with hj | hj
    ·subst hj;rw[h]at hk;cases hk
    ·exact absurd hj hjt
  ·intro j hj _
   by_cases hjt:j=t
   ·rw[hH,if_pos hjt];simp
   ·rcases hj with hj | hj
    ·rw[hH,if_neg hjt,if_pos hj]
     rcases hO with⟨_,h⟩ | ⟨_,_,_,h⟩<;>rw[h]<;>simp
    ·exact absurd hj hjt
  ·intro s j o4 e4 t4 l4 c4 hs h hj ha
   by_cases hjt:j=t
   ·rw[hH,if_pos hjt]at ha;cases ha
   ·rcases hj with hj | hj
    ·subst hj
     exact⟨Hq.2 ⟨_,_,_,_,hk⟩,fun b4 o5 h3 h4=>⟨Yi h4 hjt,rfl⟩⟩
    ·exact absurd hj hjt
 have hsS:∀fl b2,1≤fl→F.S w own fl b2→F.S w (AlX own t k off) fl b2∧w.heap[b2]? =w.heap[b2]? :=fun fl b2 h1 h=>stp.sS inv fl b2 h1 h
 have hAR:AR F (AlX own t k off) w k (β k) e2 (max t2 t') len2 (cs2.set off (.sl 0 e len cs)):=by
  rcases g4 with g4 | ⟨b',o',q1,q2,q3⟩
  ·have:len2*e2≤(β k).cap*e2:=Nat.mul_le_mul_right _ g3.1
   omega
  rw[hb]at q1;cases q1
  refine⟨vs,by simp[g1],by simp[g2],g3,.inr ⟨b,o,hb,Yi q2 hkt,q3⟩,?_⟩
  intro i v x hv hx
  by_cases hio:i=off
  ·subst hio
   rw[List.getElem?_set_self hoff]at hv
   cases hv
   have hxx:x= .slice (β t).a len (β t).cap:=by
    have h2:=(EF q3).2 i (by omega)
    rw[hcell,hx]at h2
    exact(Option.some.inj h2).symm
   subst hxx
   obtain⟨us,p1,p2,p3,p4,p5⟩:=hARt
   refine .own p3 p2 p1 ?_ ?_
   ·rcases p4 with p4 | ⟨b3,o3,r1,r2,r3⟩
    ·exact .inl p4
    ·exact .inr ⟨b3,o3,r1,AzX r2,r3⟩
   ·intro j v x hv hx
    refine ML (p5 j v x hv hx) (Nat.le_max_right _ _) (fun b3 q h3=>⟨?_,rfl⟩) (fun fl b2 h1 h2=>hsS fl b2 h1 h2)
    have:=AzX (k:=k) (off:=i) h3
    simpa using this
  ·rw[List.getElem?_set_ne (fun h=>hio h.symm)]at hv
   exact ML (g5 i v x hv hx) (Nat.le_max_left _ _) (fun b3 q h3=>⟨Yi h3 hkt,rfl⟩) (fun fl b2 h1 h2=>hsS fl b2 h1 h2)
 refine⟨stp.inv inv ?_ ?_,fun z y h=>stp.vr inv h⟩
 ·intro j hj
  by_cases hjt:j=t
  ·rw[hH,if_pos hjt];trivial
  ·rcases hj with hj | hj
   ·subst hj
    rw[hH,if_neg hjt,if_pos rfl]
    rcases hO with⟨_,h2⟩ | ⟨k3,o3,h1,h2⟩
    ·subst h2;exact hAR
    ·subst h2
     have ho:=inv.objs j
     rw[h1]at ho
     obtain⟨_,p2,⟨p3,p4⟩,p5⟩:=ho
     refine⟨hAR,p2,⟨p3,?_⟩,?_⟩
     ·rw[hH]
      by_cases h3:k3=t
      ·rw[if_pos h3];simp
      ·rw[if_neg h3,if_neg p3];exact p4
     ·intro ha
      rw[hH]at ha
      by_cases h3:k3=t
      ·rw[if_pos h3]at ha;cases ha
      ·rw[if_neg h3,if_neg p3]at ha
       obtain⟨b3,ob3,r1,r2,r3⟩:=p5 ha
       exact⟨b3,ob3,r1,Yi r2 h3,r3⟩
   ·exact absurd hj hjt
 ·intro j hj _ hd
  by_cases hjt:j=t
  ·rw[hH,if_pos hjt]at hd;exact absurd rfl hd
  ·rcases hj with hj | hj
   ·subst hj
    exact⟨rfl,fun h=>by rw[h]at hk;cases hk⟩
   ·exact absurd hj hjt
def ALq (ngiven:Nat):Gh→Bool
 | .ren k' k=>decide (ngiven≤k')&&decide (ngiven≤k)
 | _=>true
theorem AEc (r:Rel F st nt β own s a w) {g:Gh} (hok:ALq F.ngiven g=true) {s':St} (h:ghost s g=some s'):∃β' own',Rel F st nt β' own' s' a w:=by
 cases g with
 | own slot k=>
  simp only[ghost]at h
  split at h
  ·rename_i e h1 h2
   cases h
   exact ALb r h1 h2
  ·cases h
 | ownc kv off k=>
  simp only[ghost]at h
  split at h
  ·rename_i cs h1 h2
   split at h
   ·rename_i e h3
    cases h
    exact AIn r h1 h3 h2
   ·cases h
  ·cases h
 | ren k' k=>
  simp only[ghost]at h
  split at h
  ·cases h
  ·rename_i hc
   cases h
   simp only[ALq,Bool.and_eq_true,decide_eq_true_eq]at hok
   exact ACq r (by omega) hok.2 hok.1 (by omega) (by omega)
 | untake t=>
  simp only[ghost]at h
  split at h
  ·rename_i k off e t' len cs ht
   obtain⟨hlt,hft⟩:=getD_lt ht (by simp)
   have fin:∀ {e2 t2 len2:Nat} {cs2:List V} {O':O},k<s.H.length→k≠t→Al (hp s.H k)=some (e2,t2,len2,cs2)→off<cs2.length→
    ((hp s.H k= .arr e2 t2 len2 cs2∧O' = .arr e2 (max t2 t') len2 (cs2.set off (.sl 0 e len cs)))∨∃k3 o3,hp s.H k= .tarr k3 o3 e2 t2 len2 cs2∧O' = .tarr k3 o3 e2 (max t2 t') len2 (cs2.set off (.sl 0 e len cs)))→
    ∃β' own',Rel F st nt β' own' ⟨s.env,(s.H.set k O').set t .dead⟩ a w:=by
    intro e2 t2 len2 cs2 O' hkl hkt hk hoff hO
    obtain⟨h1,h2⟩:=Azq r.inv hft hkt hk hoff hO
    have hHe:hp ((s.H.set k O').set t .dead)=A7 (hp s.H) [(k,O'),(t,.dead)]:=by
     rw[AaO (by simpa using hlt),AaO hkl];rfl
    exact⟨β,_,by rw[hHe];exact h1,fun i t hi=>by rw[hHe];exact h2 _ _ (r.env i t hi),r.nt,r.defers⟩
   split at h
   ·rename_i e2 t2 len2 cs2 hk
    obtain⟨hkl,hfk⟩:=getD_lt hk (by simp)
    split at h
    ·cases h
    ·rename_i hkt
     split at h
     ·rename_i hoff
      cases h
      exact fin hkl hkt (by rw[hfk];rfl) hoff (.inl ⟨hfk,rfl⟩)
     ·cases h
   ·rename_i k3 o3 e2 t2 len2 cs2 hk
    obtain⟨hkl,hfk⟩:=getD_lt hk (by simp)
    split at h
    ·cases h
    ·rename_i hkt
     split at h
     ·rename_i hoff
      cases h
      exact fin hkl hkt (by rw[hfk];rfl) hoff (.inr ⟨k3,o3,hfk,rfl⟩)
     ·cases h
   ·cases h
  ·cases h
 | drop k=>
  cases h
  exact⟨β,own,AIj r k⟩
theorem Aof:∀ {gs:List Gh} {β:Nat→Base} {own:Nat→Option (Nat×List Nat)} {s:St} (_:Rel F st nt β own s a w) (_:gs.all (ALq F.ngiven)=true) {s':St} (_:JK s gs=some s'),
 ∃β' own',Rel F st nt β' own' s' a w
 | [],β,own,s,r,_,s',h=>by cases h;exact⟨β,own,r⟩
 | g::gs,β,own,s,r,hok,s',h=>by
  simp only[List.all_cons,Bool.and_eq_true]at hok
  simp only[JK]at h
  split at h
  ·rename_i s1 h1
   obtain⟨β1,own1,r1⟩:=AEc r hok.1 h1
   exact Aof r1 hok.2 h
  ·cases h
end
end Go.Eng
