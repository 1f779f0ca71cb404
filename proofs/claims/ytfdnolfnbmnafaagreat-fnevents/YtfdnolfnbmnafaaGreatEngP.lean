/- Own work: part 16 of the proof of FnEvents. -/
import Derived.Test.YtfdnolfnbmnafaaGreatEngO
set_option linter.unusedSimpArgs false
set_option linter.unusedVariables false
namespace Go.Eng
theorem VQ (H:Hp) (a b:Gq):A7 H (a++b)=A7 (A7 H a) b:=by
 induction a generalizing H with
 | nil=>rfl
 | cons x a ih=>obtain⟨k,o⟩:=x;simp[A7,ih]
section
variable {P:Program} {F:Fr} {β:Nat→Base} {own:Nat→Option (Nat×List Nat)} {H:Hp} {w w':World}
theorem Ayj (takes:List Nat) (Hm:Hp) (k off n:Nat):∀(H:Hp) (j:Nat),(∀s,s∈takes→Hm s=H s)→
 A7 H (Ff Hm takes k off n) j=H j∧(j∈takes→∀o' e t len cs,H j= .tarr k o' e t len cs→¬(off≤o'∧o' <off+n))∨
 ∃k' o' e t len cs,H j= .tarr k' o' e t len cs∧A7 H (Ff Hm takes k off n) j= .arr e t len cs:=by
 have gen:∀(l:List Nat) (H:Hp),(∀s,s∈l→s∈takes)→∀j,
  (A7 H (Ff Hm l k off n) j=H j∧(j∈l→∀o' e t len cs,Hm j= .tarr k o' e t len cs→¬(off≤o'∧o' <off+n)))∨
  (j∈l∧∃k' o' e t len cs,Hm j= .tarr k' o' e t len cs∧A7 H (Ff Hm l k off n) j= .arr e t len cs):=by
  intro l
  induction l with
  | nil=>intro H _ j;left;exact⟨rfl,by simp⟩
  | cons s l ih=>
   intro H hs j
   have hs':∀x,x∈l→x∈takes:=fun x hx=>hs x (by simp[hx])
   have step:∀(o:O),Ff Hm (s::l) k off n=(s,o)::Ff Hm l k off n→(∃k' o' e t len cs,Hm s= .tarr k' o' e t len cs∧o= .arr e t len cs)→
    (A7 H (Ff Hm (s::l) k off n) j=H j∧(j∈s::l→∀o' e t len cs,Hm j= .tarr k o' e t len cs→¬(off≤o'∧o' <off+n)))∨
    (j∈s::l∧∃k' o' e t len cs,Hm j= .tarr k' o' e t len cs∧A7 H (Ff Hm (s::l) k off n) j= .arr e t len cs):=by
    intro o ho hto
    rw[ho]
    simp only[A7]
    rcases ih (fun i=>if i=s then o else H i) hs' j with⟨h1,h2⟩ | ⟨h1,h2⟩
    ·by_cases hjs:j=s
     ·subst hjs
      right
      obtain⟨k',o',e,t,len,cs,g1,g2⟩:=hto
      refine⟨by simp,k',o',e,t,len,cs,g1,?_⟩
      rw[h1,if_pos rfl,g2]
     ·left
      refine⟨by rw[h1,if_neg hjs],?_⟩
      intro hj
      rcases List.mem_cons.1 hj with h | h
      ·exact absurd h hjs
      ·exact h2 h
    ·right
     exact⟨by simp[h1],h2⟩
   have skip:Ff Hm (s::l) k off n=Ff Hm l k off n→(∀o' e t len cs,Hm s= .tarr k o' e t len cs→¬(off≤o'∧o' <off+n))→
    (A7 H (Ff Hm (s::l) k off n) j=H j∧(j∈s::l→∀o' e t len cs,Hm j= .tarr k o' e t len cs→¬(off≤o'∧o' <off+n)))∨
    (j∈s::l∧∃k' o' e t len cs,Hm j= .tarr k' o' e t len cs∧A7 H (Ff Hm (s::l) k off n) j= .arr e t len cs):=by
    intro h0 h1
    rw[h0]
    rcases ih H hs' j with⟨g1,g2⟩ | ⟨g1,g2⟩
    ·left
     refine⟨g1,fun hj=> ?_⟩
     rcases List.mem_cons.1 hj with h | h
     ·subst h;exact h1
     ·exact g2 h
    ·right;exact⟨by simp[g1],g2⟩
   cases hsm:Hm s with
   | tarr k' o' e t len cs=>
    by_cases hc:k' =k∧off≤o'∧o' <off+n
    ·exact step (.arr e t len cs) (by simp only[Ff,List.filterMap_cons,hsm,if_pos hc]) ⟨k',o',e,t,len,cs,hsm,rfl⟩
    ·refine skip (by simp only[Ff,List.filterMap_cons,hsm,if_neg hc]) ?_
     intro o2 e2 t2 l2 c2 h
     rw[hsm]at h
     cases h
     exact fun h2=>hc ⟨rfl,h2⟩
   | _=>exact skip (by simp only[Ff,List.filterMap_cons,hsm]) (by intro _ _ _ _ _ h;rw[hsm]at h;cases h)
 intro H j ht
 rcases gen takes H (fun _ h=>h) j with⟨h1,h2⟩ | ⟨h1,k',o',e,t,len,cs,h2,h3⟩
 ·left
  refine⟨h1,fun hj o' e t len cs h=> ?_⟩
  exact h2 hj o' e t len cs (by rw[ht j hj];exact h)
 ·right
  exact⟨k',o',e,t,len,cs,by rw[←ht j h1];exact h2,h3⟩
theorem Inv.weaken (inv:Inv F β own H w) {H':Hp} (hH:∀j,H' j=H j∨∃k' o' e t len cs,H j= .tarr k' o' e t len cs∧H' j= .arr e t len cs):
 Inv F β own H' w∧∀z y,VR F β own H w z y→VR F β own H' w z y:=by
 have harr:∀ {j e t len cs},Al (H j)=some (e,t,len,cs)→Al (H' j)=some (e,t,len,cs):=by
  intro j e t len cs h
  rcases hH j with h1 | ⟨k',o',e',t',len',cs',h1,h2⟩
  ·rw[h1];exact h
  ·rw[h1]at h;rw[h2];exact h
 have hvr:∀z y,VR F β own H w z y→VR F β own H' w z y:=by
  intro z y h
  refine h.move (fun _ _ _ h=>h) (fun _ _ _ _=>rfl) (fun j e t len cs hj=> .inr ⟨rfl,t,cs,harr hj⟩) ?_ ?_
  ·intro j cs hj
   rcases hH j with h1 | ⟨k',o',e',t',len',cs',h1,h2⟩
   ·exact .inr ⟨rfl,cs,by rw[h1];exact hj⟩
   ·rw[h1]at hj;cases hj
  ·intro j hj
   rcases hH j with h1 | ⟨k',o',e',t',len',cs',h1,h2⟩
   ·rw[h1];exact hj
   ·rw[h1]at hj;cases hj
 refine⟨⟨inv.size,inv.keep,inv.os,inv.tape,inv.output,inv.ownb,inv.glob,?_,?_,?_⟩,hvr⟩
 ·intro j
  have hj:=inv.objs j
  rcases hH j with h1 | ⟨k',o',e',t',len',cs',h1,h2⟩
  ·rw[h1]
   cases hc:H j with
   | free=>trivial
   | dead=>trivial
   | var cs=>
    rw[hc]at hj
    obtain⟨b,o,vs,g1,g2,g3,g4,g5⟩:=hj
    exact⟨b,o,vs,g1,g2,g3,g4,fun i v x hv hx=>hvr v x (g5 i v x hv hx)⟩
   | arr e t len cs=>rw[hc]at hj;exact hj
   | tarr k2 o2 e t len cs=>
    rw[hc]at hj
    obtain⟨g1,g2,⟨g0,g3⟩,g4⟩:=hj
    refine⟨g1,g2,⟨g0,?_⟩,?_⟩
    ·rcases hH k2 with h3 | ⟨_,_,_,_,_,_,h3,h4⟩
     ·rw[h3];exact g3
     ·rw[h4];simp
    ·intro ha
     apply g4
     rcases hH k2 with h3 | ⟨_,_,_,_,_,_,h3,h4⟩
     ·rw[←h3];exact ha
     ·rw[h3];rfl
  ·rw[h1]at hj
   rw[h2]
   exact hj.1
 ·intro j hj hd
  refine inv.given j hj ?_
  rcases hH j with h1 | ⟨k',o',e',t',len',cs',h1,h2⟩
  ·rw[←h1];exact hd
  ·rw[h1];simp
 ·intro j hj
  rcases hH j with h1 | ⟨k',o',e',t',len',cs',h1,h2⟩
  ·rw[h1];exact inv.gfree j hj
  ·rw[h2];simp
theorem AFx (inv:Inv F β own H w) {k:Nat} {cs:List V} (hk:H k= .var cs) {off b o:Nat} (hb:(β k).a=some ⟨b,o,none⟩) {vs:List V} {xs:List Value} (hv:Pw (VR F β own H w) vs xs) (h1:GY xs)
 (hle:off+vs.length≤cs.length):∃w',(storeCells ⟨b,o+off,none⟩ xs).run P w= .ok () w'∧Inv F β own (A7 H [(k,.var (putAt cs off vs))]) w'∧
  ∀z y,VR F β own H w z y→VR F β own (A7 H [(k,.var (putAt cs off vs))]) w' z y:=by
 have ho:=inv.objs k
 rw[hk]at ho
 obtain⟨b',o',us,g1,g2,g3,g4,g5⟩:=ho
 rw[hb]at g1
 cases g1
 obtain⟨w',r1,r2,r3,r4,r5,r6,r7,_⟩:=Aka (P:=P) g4 (off:=off) (ys:=xs) (by omega) (by rw[hv.1];omega) h1
 have hput:putAt us off xs=us.take off++xs++us.drop (off+xs.length):=Ayo us xs off (by rw[hv.1];omega)
 have hH:∀j,A7 H [(k,.var (putAt cs off vs))] j=if j=k then .var (putAt cs off vs)else H j:=fun j=>rfl
 have st:Step F β own H w β own (A7 H [(k,.var (putAt cs off vs))]) w' (fun j=>j=k):=by
  refine⟨by omega,r3,r4,r5,?_,?_,fun _ _ _ h _=>h,?_,?_,?_,?_,?_,?_,?_⟩
  ·intro b2 hb2 hn
   refine r6 b2 (fun hh=> ?_)
   subst hh
   exact hn k [] g2 rfl
  ·intro _ b2 hb2 hn
   exact⟨r6 b2 (fun hh=>hn k (hh▸g2)),hn⟩
  ·intro b2 p hp
   exact⟨by rw[r2];exact(inv.ownb b2 p hp).1,fun _=>by rw[hp];simp⟩
  ·intro j hj;exact⟨rfl,by rw[hH,if_neg hj]⟩
  ·intro j e t len c hj h;subst hj;rw[hk]at h;simp[Al]at h
  ·intro j c hj _;subst hj;exact .inr ⟨rfl,_,by rw[hH,if_pos rfl]⟩
  ·intro j hj h;subst hj;rw[hk]at h;cases h
  ·intro j hj _;subst hj;rw[hH,if_pos rfl];simp
  ·intro s j o2 e t len c _ _ hj ha;subst hj;rw[hH,if_pos rfl]at ha;simp[Mj]at ha
 refine⟨w',r1,st.inv inv ?_ ?_,fun z y h=>st.vr inv h⟩
 ·intro j hj
  subst hj
  rw[hH,if_pos rfl]
  refine⟨b,o,putAt us off xs,hb,g2,by simp[Uf,g3],?_,?_⟩
  ·rw[Uf,hput]
   exact r7
  ·have hp1:Pw (VR F β own (A7 H [(j,.var (putAt cs off vs))]) w') cs us:=⟨g3,fun i v x hv hx=>st.vr inv (g5 i v x hv hx)⟩
   have hp2:Pw (VR F β own (A7 H [(j,.var (putAt cs off vs))]) w') vs xs:=hv.mono fun v x h=>st.vr inv h
   exact(hp1.putAt off hp2).2
 ·intro j hj _ _
  subst hj
  exact⟨rfl,by rw[hk];simp⟩
theorem AEq (inv : Inv F β own H w) {Hm : Hp} (hm : ∀ k, Hm k = H k ∨ Hm k = .dead) {k e t len : Nat} {cs : List V} (hk : Al (H k) = some (e, t, len, cs)) {off b o : Nat} (hb : (β k).a = some ⟨b, o, none⟩)
    {vs vs' : List V} {xs : List Value} (hv : Pw (VR F β own H w) vs xs) {t' : Nat} {ks : List Nat} (hgv : Rk (Dp [k] Hm) vs = some (vs', t', ks)) (hle : off + vs.length ≤ cs.length)
    (hhome : ∀ s o2 e2 t2 l2 c2, H s = .tarr k o2 e2 t2 l2 c2 → ¬ (off ≤ o2 ∧ o2 < off + vs.length))
    {O' : O} (hO : (H k = .arr e t len cs ∧ O' = .arr e (max t t') len (putAt cs off vs')) ∨ ∃ k2 o2, H k = .tarr k2 o2 e t len cs ∧ O' = .tarr k2 o2 e (max t t') len (putAt cs off vs')) :
    ∃ w' own', (storeCells ⟨b, o + off, none⟩ xs).run P w = .ok () w' ∧ Inv F β own' (A7 H (EY ks ++ [(k, O')])) w' ∧
      ∀ z y, VR F β own H w z y → VR F β own' (A7 H (EY ks ++ [(k, O')])) w' z y := by
  obtain ⟨us, g1, g2, g3, g4, g5⟩ := Nj inv hk
  obtain ⟨a1, a2, a3, a4, μ, a5, a6⟩ := YF inv off [] (YI hm [k]) hv hgv
  have hkk : ∀ j, j ∈ ks → j ≠ k ∧ (Al (H j)).isSome = true := by
    intro j hj
    obtain ⟨r, hr⟩ := Option.isSome_iff_exists.1 (a1 j hj)
    obtain ⟨q1, q2⟩ := K5 hr
    exact ⟨by simpa using q1, by rw [IY hm q2]; rfl⟩
  have hO' : Al O' = some (e, max t t', len, putAt cs off vs') := by
    rcases hO with ⟨_, h⟩ | ⟨_, _, _, h⟩ <;> rw [h] <;> rfl
  have hH : ∀ j, A7 H (EY ks ++ [(k, O')]) j = if j = k then O' else if j ∈ ks then .dead else H j := IG ks k O' H
  have hrow : ∃ w', (storeCells ⟨b, o + off, none⟩ xs).run P w = .ok () w' ∧ w'.heap.size = w.heap.size ∧ w'.os = w.os ∧ w'.tape = w.tape ∧ w'.output = w.output ∧
      (∀ b', own b' ≠ some (k, []) → w'.heap[b']? = w.heap[b']?) ∧
      (((β k).cap * e = 0 ∧ w' = w) ∨ ∃ b o, (β k).a = some ⟨b, o, none⟩ ∧ own b = some (k, []) ∧ Has w' b o (putAt us off xs) ((β k).cap * e) ∧
        ∀ i, ¬ (off ≤ i ∧ i < off + vs.length) → w'.cell? ⟨b, o + i, none⟩ = w.cell? ⟨b, o + i, none⟩) := by
    rcases g4 with g4 | ⟨b', o', h1, h2, h3⟩
    · have hz : len * e ≤ (β k).cap * e := Nat.mul_le_mul_right _ g3.1
      have hx0 : xs = [] := List.eq_nil_of_length_eq_zero (by rw [hv.1]; omega)
      subst hx0
      exact ⟨w, rfl, rfl, rfl, rfl, rfl, fun _ _ => rfl, .inl ⟨g4, rfl⟩⟩
    · rw [hb] at h1
      cases h1
      have hle2 : len * e ≤ (β k).cap * e := Nat.mul_le_mul_right _ g3.1
      obtain ⟨w', r1, r2, r3, r4, r5, r6, r7, r8⟩ := Aka (P := P) h3 (off := off) (ys := xs) (by omega) (by rw [hv.1]; omega) a3
      have hput : putAt us off xs = us.take off ++ xs ++ us.drop (off + xs.length) := Ayo us xs off (by rw [hv.1]; omega)
      refine ⟨w', r1, r2, r3, r4, r5, fun b2 hb2 => r6 b2 (fun hh => hb2 (hh ▸ h2)), .inr ⟨b, o, hb, h2, by rw [hput]; exact r7, ?_⟩⟩
      intro i hi
      exact r8 i (by rw [hv.1]; exact hi)
  obtain ⟨w', r1, r2, r3, r4, r5, r6, r7⟩ := hrow
  have hblk : ∀ b', own b' ≠ some (k, []) → w'.heap[b']? = w.heap[b']? := r6
  have hμ : ∀ k1 p, p ≠ [] → (fun k1 p => μ k1 ++ p) k1 p ≠ [] := fun k1 p hp => by simp [hp]
  have hlabk : ∀ b2 p, own b2 = some (k, p) → Eo own none ks k (fun k1 p => μ k1 ++ p) b2 = some (k, p) := by
    intro b2 p hp
    unfold Eo
    rw [if_neg (by simp), hp]
    simp only
    rw [if_neg (fun hh => (hkk k hh).1 rfl)]
  have st : Step F β own H w β (Eo own none ks k fun k1 p => μ k1 ++ p) (A7 H (EY ks ++ [(k, O')])) w' (fun j => j ∈ ks ∨ j = k) := by
    refine ⟨by omega, r3, r4, r5, ?_, ?_, ?_, ?_, ?_, ?_, ?_, ?_, ?_, ?_⟩
    · intro b2 hb2 hn
      exact hblk b2 (fun hh => hn k [] hh (.inr rfl))
    · intro _ b2 hb2 hn
      refine ⟨hblk b2 (hn k), fun k' => ?_⟩
      unfold Eo
      rw [if_neg (by simp)]
      cases hob : own b2 with
      | none => simp
      | some q =>
        obtain ⟨k1, p⟩ := q
        simp only
        have hp : p ≠ [] := fun hp => hn k1 (by rw [hob, hp])
        split
        · simp; intro _ _; exact hp
        · simp; intro _; exact hp
    · intro b2 k1 p hp hK
      unfold Eo
      rw [if_neg (by simp), hp]
      simp only
      rw [if_neg (fun hh => hK (.inl hh))]
    · intro b2 p hp
      unfold Eo at hp
      rw [if_neg (by simp)] at hp
      cases hob : own b2 with
      | none => simp [hob] at hp
      | some q => exact ⟨by rw [r2]; exact (inv.ownb b2 q hob).1, by simp⟩
    · intro j hj
      exact ⟨rfl, by rw [hH, if_neg (fun h => hj (.inr h)), if_neg (fun h => hj (.inl h))]⟩
    · intro j e2 t2 l2 c2 hj h
      by_cases hjk : j = k
      · subst hjk
        rw [hk] at h; cases h
        exact .inr ⟨rfl, _, _, by rw [hH, if_pos rfl]; exact hO'⟩
      · rcases hj with hj | hj
        · left; rw [hH, if_neg hjk, if_pos hj]
        · exact absurd hj hjk
    · intro j c2 hj h
      by_cases hjk : j = k
      · subst hjk; rw [h] at hk; simp [Al] at hk
      · rcases hj with hj | hj
        · left; rw [hH, if_neg hjk, if_pos hj]
        · exact absurd hj hjk
    · intro j hj h
      by_cases hjk : j = k
      · subst hjk; rw [h] at hk; simp [Al] at hk
      · rcases hj with hj | hj
        · rw [hH, if_neg hjk, if_pos hj]
        · exact absurd hj hjk
    · intro j hj _
      by_cases hjk : j = k
      · subst hjk; rw [hH, if_pos rfl]
        rcases hO with ⟨_, h⟩ | ⟨_, _, _, h⟩ <;> rw [h] <;> simp
      · rcases hj with hj | hj
        · rw [hH, if_neg hjk, if_pos hj]; simp
        · exact absurd hj hjk
    · intro s j o2 e2 t2 l2 c2 hs hs2 hj ha
      by_cases hjk : j = k
      · subst hjk
        refine ⟨Hq.2 ⟨_, _, _, _, hk⟩, fun b2 o3 h3 h4 => ⟨hlabk b2 [] h4, ?_⟩⟩
        rcases r7 with ⟨_, r7⟩ | ⟨b4, o4, h5, h6, h7, h8⟩
        · rw [r7]
        · rw [h5] at h3; cases h3
          exact h8 o2 (hhome s o2 e2 t2 l2 c2 hs2)
      · rcases hj with hj | hj
        · rw [hH, if_neg hjk, if_pos hj] at ha; simp [Mj] at ha
        · exact absurd hj hjk
  have mv : Moved F own w (Eo own none ks k fun k1 p => μ k1 ++ p) w' (F.S w' (Eo own none ks k fun k1 p => μ k1 ++ p)) t' ks k μ := by
    refine ⟨?_, fun fl b2 h1 _ h3 => st.sS inv fl b2 h1 h3⟩
    intro b2 k1 p hk1 hb2
    refine ⟨?_, hblk b2 (fun hh => by rw [hb2] at hh; cases hh; exact (hkk k hk1).1 rfl)⟩
    unfold Eo
    rw [if_neg (by simp), hb2]
    simp [hk1]
  have hpw : Pw (fun v x => v = v) (putAt cs off vs') (putAt us off xs) := ⟨by simp [Uf, g1], fun _ _ _ _ _ => rfl⟩
  have hAR : AR F (Eo own none ks k fun k1 p => μ k1 ++ p) w' k (β k) e (max t t') len (putAt cs off vs') := by
    refine ⟨putAt us off xs, hpw.1, by rw [Uf]; exact g2, g3, ?_, ?_⟩
    · rcases r7 with ⟨r7, _⟩ | ⟨b4, o4, h5, h6, h7, _⟩
      · exact .inl r7
      · exact .inr ⟨b4, o4, h5, hlabk b4 [] h6, h7⟩
    · intro i v x hv' hx
      rw [Aaz _ _ _ _ (by rw [a4]; exact hle)] at hv'
      rw [Aaz _ _ _ _ (by rw [hv.1, g1]; exact hle)] at hx
      rw [a4] at hv'
      rw [hv.1] at hx
      by_cases hi : off ≤ i ∧ i < off + vs.length
      · rw [if_pos hi] at hv' hx
        have := a6 (k := k) (Nat.le_max_right t t') (fun _ _ => rfl) mv (i - off) v x hv' hx
        rw [show off + (i - off) = i by omega] at this
        simpa using this
      · rw [if_neg hi] at hv' hx
        refine ML (g5 i v x hv' hx) (Nat.le_max_left t t') (fun b2 q hb2 => ⟨hlabk b2 _ hb2, hblk b2 (fun hh => by rw [hb2] at hh; simp at hh)⟩) (fun fl b2 h1 h2 => st.sS inv fl b2 h1 h2)
  refine ⟨w', _, r1, ?_, fun z y h => st.vr inv h⟩
  refine st.inv inv ?_ ?_
  · intro j hj
    by_cases hjk : j = k
    · subst hjk
      rw [hH, if_pos rfl]
      rcases hO with ⟨h1, h2⟩ | ⟨k2, o2, h1, h2⟩
      · subst h2; exact hAR
      · subst h2
        have h3 := inv.objs j
        rw [h1] at h3
        obtain ⟨h4, h5, ⟨h0, h6⟩, h7⟩ := h3
        refine ⟨hAR, h5, ⟨h0, ?_⟩, ?_⟩
        · by_cases hk2 : k2 ∈ ks ∨ k2 = j
          · exact st.frees k2 hk2 h6
          · rw [(st.same k2 hk2).2]; exact h6
        · intro ha
          by_cases hkj : k2 = j
          · subst hkj
            obtain ⟨b3, o3, q1, q2, q3⟩ := h7 (by rw [h1]; rfl)
            refine ⟨b3, o3, q1, hlabk b3 [] q2, ?_⟩
            rw [← q3]
            rcases r7 with ⟨_, r7⟩ | ⟨b4, o4, h5', h6', h7', h8'⟩
            · rw [r7]
            · rw [h5'] at q1; cases q1
              exact h8' o2 (hhome k2 o2 e t len cs h1)
          · by_cases hk2 : k2 ∈ ks
            · rw [hH, if_neg hkj, if_pos hk2] at ha; simp [Mj] at ha
            · rw [hH, if_neg hkj, if_neg hk2] at ha
              obtain ⟨b3, o3, q1, q2, q3⟩ := h7 ha
              refine ⟨b3, o3, q1, ?_, ?_⟩
              · unfold Eo
                rw [if_neg (by simp), q2]
                simp only
                rw [if_neg hk2]
              · rw [← q3]
                simp only [World.cell?]
                rw [hblk b3 (fun hh => by rw [q2] at hh; cases hh; exact hkj rfl)]
    · rcases hj with hj | hj
      · rw [hH, if_neg hjk, if_pos hj]; trivial
      · exact absurd hj hjk
  · intro j hj hlt hnd
    by_cases hjk : j = k
    · subst hjk
      exact ⟨rfl, fun hh => by rw [hh] at hk; simp [Al] at hk⟩
    · rcases hj with hj | hj
      · rw [hH, if_neg hjk, if_pos hj] at hnd; exact absurd rfl hnd
      · exact absurd hj hjk
theorem AAj {H1 H2:Hp} (h:∀j,Al (H1 j)=Al (H2 j)) (v:V):VX H1 v=VX H2 v:=by
 cases v with
 | arr k=>simp only[VX,h]
 | sl fl e len cs=>cases fl<;>rfl
 | _=>rfl
theorem Aks {H1 H2:Hp} (h:∀j,Al (H1 j)=Al (H2 j)) (ks:List Nat) (j:Nat):Al (Dp ks H1 j)=Al (Dp ks H2 j):=by
 unfold Dp
 split
 ·rfl
 ·exact h j
theorem Az1 (vs:List V):∀ {H1 H2:Hp},(∀j,Al (H1 j)=Al (H2 j))→Rk H1 vs=Rk H2 vs:=by
 induction vs with
 | nil=>intro H1 H2 _;rfl
 | cons v r ih=>
  intro H1 H2 h
  simp only[Rk,AAj h]
  cases VX H2 v with
  | none=>rfl
  | some p=>
   obtain⟨v',t,ks⟩:=p
   simp only
   rw[ih (Aks h ks)]
theorem Akl {t:TypeId} {n:Nat} (hn:szB P t=some n) {b o:Nat} {y:Value} (hy:y.cells.size=n) {w':World} (h:(storeCells ⟨b,o,none⟩ y.cells.toList).run P w= .ok () w'):
 (do Instr.storeAt t (.pointer (some ⟨b,o,none⟩)) y;pure .skip:Sem Next).run P w= .ok .skip w':=by
 simp only[Instr.storeAt,Instr.sureAddr,Sem.run_bind,Sem.run_pure,Result.andThen_ok,storeVar,Hf hn,hy,ne_eq,not_true_eq_false,if_false,Sem.run_ite,h]
theorem AHj (inv:Inv F β own H w) {Hm:Hp} (hm:∀k,Hm k=H k∨Hm k= .dead) {takes:List Nat} (htk:F.takes=takes) (ht:∀s,s∈takes→Hm s=H s) {t:TypeId} {n:Nat} (hn:szB P t=some n)
 {vx vv:V} {a y:Value} (ha:VR F β own H w vx a) (hy:VR F β own H w vv y) {u:Gq} (h:Ap2 takes Hm n vx vv=some u):
 Did F β own H w ((do Instr.storeAt t a y;pure .skip:Sem Next).run P w) .undef u:=by
 unfold Ap2 at h
 split at h
 ·rename_i k off vs hvs
  obtain⟨hpw,hones⟩:=Zh hy hvs
  split at h
  ·rename_i hlen
   have hyn:y.cells.size=n:=by have:=hpw.1;simp at this;omega
   have haddr:H k≠ .dead→∃b o,a= .pointer (some ⟨b,o+off,none⟩)∧(β k).a=some ⟨b,o,none⟩:=by
    intro hd
    cases ha with
    | goneP h1=>exact absurd h1 hd
    | ptr h1 h2=>exact⟨_,_,rfl,h2⟩
   have arrcase:∀ {e tt len:Nat} {cs vs':List V} {t':Nat} {ks:List Nat} {O':O},Al (H k)=some (e,tt,len,cs)→off+n≤cs.length→Rk (Dp [k] Hm) vs=some (vs',t',ks)→
    ((H k= .arr e tt len cs∧O' = .arr e (max tt t') len (putAt cs off vs'))∨∃k2 o2,H k= .tarr k2 o2 e tt len cs∧O' = .tarr k2 o2 e (max tt t') len (putAt cs off vs'))→
    Did F β own H w ((do Instr.storeAt t a y;pure .skip:Sem Next).run P w) .undef (Ff Hm takes k off n++EY ks++ [(k,O')]):=by
    intro e tt len cs vs' t' ks O' hk hle hg hO
    obtain⟨b,o,rfl,hb⟩:=haddr (fun hh=>by rw[hh]at hk;simp[Al]at hk)
    have hun:=fun j=>Ayj takes Hm k off n H j ht
    have hself:∀o' e t len cs,H k≠ .tarr k o' e t len cs:=by
     intro o' e t len cs hh
     have:=inv.objs k
     rw[hh]at this
     exact this.2.2.1.1 rfl
    obtain⟨inv1,hvr1⟩:=inv.weaken (H':=A7 H (Ff Hm takes k off n)) (fun j=>by
     rcases hun j with⟨h1,_⟩ | ⟨k',o',e',t2,l2,c2,h1,h2⟩
     ·exact .inl h1
     ·exact .inr ⟨k',o',e',t2,l2,c2,h1,h2⟩)
    have hkeep:A7 H (Ff Hm takes k off n) k=H k:=by
     rcases hun k with⟨h1,_⟩ | ⟨k',o',e',t2,l2,c2,h1,h2⟩
     ·exact h1
     ·
      have gen:∀(l:List Nat) (Hx:Hp),A7 Hx (Ff Hm l k off n) k=Hx k:=by
       intro l
       induction l with
       | nil=>intro Hx;rfl
       | cons s l ih=>
        intro Hx
        have hcons:Ff Hm (s::l) k off n=Ff Hm l k off n∨∃o,Ff Hm (s::l) k off n=(s,o)::Ff Hm l k off n∧∃o' e t len cs,Hm s= .tarr k o' e t len cs:=by
         cases hsm:Hm s with
         | tarr k2 o2 e2 t3 l3 c3=>
          by_cases hc:k2=k∧off≤o2∧o2<off+n
          ·right
           refine⟨.arr e2 t3 l3 c3,by simp only[Ff,List.filterMap_cons,hsm,if_pos hc],o2,e2,t3,l3,c3,?_⟩
           rw[←hc.1]
          ·left;simp only[Ff,List.filterMap_cons,hsm,if_neg hc]
         | _=>left;simp only[Ff,List.filterMap_cons,hsm]
        rcases hcons with h3 | ⟨o,h3,o',e3,t3,l3,c3,h4⟩
        ·rw[h3];exact ih Hx
        ·rw[h3]
         simp only[A7]
         rw[ih]
         by_cases hks:k=s
         ·exfalso
          rw[←hks]at h4
          rcases hm k with h5 | h5
          ·rw[h5]at h4;exact hself _ _ _ _ _ h4
          ·rw[h5]at h4;cases h4
         ·rw[if_neg hks]
      exact gen takes H
    obtain⟨Hm1,hm1,hm1a⟩:∃Hm1:Hp,(∀j,Hm1 j=A7 H (Ff Hm takes k off n) j∨Hm1 j= .dead)∧∀j,Al (Hm1 j)=Al (Hm j):=by
     refine⟨fun j=>match Hm j with | .dead=> .dead | _=>A7 H (Ff Hm takes k off n) j,fun j=> ?_,fun j=> ?_⟩
     ·dsimp only
      split
      ·exact .inr rfl
      ·exact .inl rfl
     ·dsimp only
      split
      ·rename_i hd;rw[hd]
      ·rename_i hd
       have hj:Hm j=H j:=by
        rcases hm j with h5 | h5
        ·exact h5
        ·exact absurd h5 hd
       rcases hun j with⟨h1,_⟩ | ⟨k',o',e',t2,l2,c2,h1,h2⟩
       ·rw[h1,hj]
       ·rw[h2,hj,h1];rfl
    have hk1:Al (A7 H (Ff Hm takes k off n) k)=some (e,tt,len,cs):=by rw[hkeep];exact hk
    have hg1:Rk (Dp [k] Hm1) vs=some (vs',t',ks):=by rw[Az1 vs (Aks hm1a [k])];exact hg
    obtain⟨w',own',q1,q2,q3⟩:=AEq (P:=P) inv1 hm1 hk1 hb (hpw.mono fun v x h=>hvr1 v x h) hg1 (by rw[hlen];exact hle) (by
     intro s o2 e2 t2 l2 c2 hs
     rcases hun s with⟨h1,h2⟩ | ⟨k',o',e',t3,l3,c3,h1,h2⟩
     ·rw[h1]at hs
      have hsin:s∈takes:=by
       have h3:=inv.objs s
       rw[hs]at h3
       rw[←htk];exact h3.2.1
      rw[hlen]
      exact h2 hsin o2 e2 t2 l2 c2 hs
     ·rw[h2]at hs;cases hs) (O':=O') (by rw[hkeep];exact hO)
    rw[←VQ,←List.append_assoc]at q2 q3
    exact⟨undef,w',β,own',.inr ⟨Akl hn hyn q1,rfl⟩,fun z x hz=>q3 z x (hvr1 z x hz),q2,.undef⟩
   have hkc:Hm k= .dead∨Hm k=H k:=by
    rcases hm k with h5 | h5
    ·exact .inr h5
    ·exact .inl h5
   split at h
   ·rename_i cs hc
    split at h
    ·rename_i hle
     cases h
     have hk:H k= .var cs:=by
      rcases hkc with h5 | h5
      ·rw[h5]at hc;cases hc
      ·rw[←h5];exact hc
     obtain⟨b,o,rfl,hb⟩:=haddr (by rw[hk];simp)
     obtain⟨w',q1,q2,q3⟩:=AFx (P:=P) inv hk hb hpw hones (show off+vs.length≤cs.length by omega)
     exact⟨undef,w',β,own,.inr ⟨Akl hn hyn q1,rfl⟩,q3,q2,.undef⟩
    ·cases h
   ·rename_i e tt len cs hc
    split at h
    ·rename_i hle
     split at h
     ·rename_i vs' t' ks hg
      cases h
      have hk:H k= .arr e tt len cs:=by
       rcases hkc with h5 | h5
       ·rw[h5]at hc;cases hc
       ·rw[←h5];exact hc
      exact arrcase (by rw[hk];rfl) hle hg (.inl ⟨hk,rfl⟩)
     ·cases h
    ·cases h
   ·rename_i k2 o2 e tt len cs hc
    split at h
    ·rename_i hle
     split at h
     ·rename_i vs' t' ks hg
      cases h
      have hk:H k= .tarr k2 o2 e tt len cs:=by
       rcases hkc with h5 | h5
       ·rw[h5]at hc;cases hc
       ·rw[←h5];exact hc
      exact arrcase (by rw[hk];rfl) hle hg (.inr ⟨k2,o2,hk,rfl⟩)
     ·cases h
    ·cases h
   ·cases h
  ·cases h
 ·cases h
end
end Go.Eng
