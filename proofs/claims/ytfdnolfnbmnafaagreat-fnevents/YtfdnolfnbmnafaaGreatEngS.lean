/- Own work: part 19 of the proof of FnEvents. -/
import Derived.Test.YtfdnolfnbmnafaaGreatEngR
set_option linter.unusedSimpArgs false
set_option linter.unusedVariables false
namespace Go.Eng
def TA (Hm:Hp) (ks:List Nat):Prop:=∀k,k∈ks→(∃e len cs,Al (Hm k)=some (e,0,len,cs))∨∃cs,Hm k= .var cs∧F5 cs=true
def alive:O→Bool
 | .free=>false
 | .dead=>false
 | _=>true
theorem TA.alive {Hm:Hp} {ks:List Nat} (h:TA Hm ks) {k:Nat} (hk:k∈ks):alive (Hm k)=true:=by
 rcases h k hk with⟨e,len,cs,h⟩ | ⟨cs,h,_⟩
 ·cases ho:Hm k<;>rw[ho]at h<;>simp_all[Al,Eng.alive]
 ·rw[h];rfl
theorem Aqm {Hm:Hp} {ks:List Nat} {k:Nat} (h:alive (Dp ks Hm k)=true):k∉ks∧Dp ks Hm k=Hm k:=by
 unfold Dp at h⊢
 split at h
 ·cases h
 ·rename_i hk
  exact⟨by simpa using hk,by rw[if_neg hk]⟩
theorem TA.AHz {Hm:Hp} {ks ks':List Nat} (h:TA (Dp ks Hm) ks'):TA Hm ks'∧∀k,k∈ks'→k∉ks:=by
 refine⟨fun k hk=> ?_,fun k hk=>(Aqm (h.alive hk)).1⟩
 have:=(Aqm (h.alive hk)).2
 have h2:=h k hk
 rw[this]at h2
 exact h2
theorem Axa {ks:List Nat} {f:Nat→O} {i k:Nat} (h:ks[i]? =some k):hp (ks.map f) i=f k:=by
 simp[hp,List.getD_eq_getElem?_getD,List.getElem?_map,h]
section
variable {P:Program} {F:Fr} {β:Nat→Base} {own:Nat→Option (Nat×List Nat)} {H:Hp} {w w':World} {ks:List Nat}
theorem Ax4 {o:O}:Al (Mk o)=Al o:=by cases o<;>rfl
theorem ACs (inv:Inv F β own H w) {Hm:Hp} (hm:∀k,Hm k=H k∨Hm k= .dead) (hok:TA Hm ks) (hn:ks.Nodup):
 Inv (callee F β own w ks) (callee F β own w ks).β0 (FH ks own) (hp (ks.map fun k=>Mk (Hm k))) w:=by
 refine⟨Nat.le_refl _,fun _ _ _=>rfl,rfl,rfl,rfl,?_,?_,?_,fun _ _ _=>rfl,?_⟩
 ·intro b p hb
  obtain⟨k,h1,_⟩:=Ayg hb
  exact⟨(inv.ownb b _ h1).1,fun _ h=>by rw[show(callee F β own w ks).own0 b=FH ks own b from rfl,hb]at h;cases h⟩
 ·intro b hb
  have:=inv.glob b hb
  refine⟨Nat.lt_of_lt_of_le this.1 inv.size,?_,(inv.keep b this.1 this.2.1).trans this.2.2⟩
  cases ho:own b with
  | none=>exact NT ho
  | some q=>exact absurd this.2.1 ((inv.ownb b q ho).2 this.1)
 ·intro i
  cases hi:ks[i]? with
  | none=>
   have:hp (ks.map fun k=>Mk (Hm k)) i= .free:=by simp[hp,List.getD_eq_getElem?_getD,List.getElem?_map,hi]
   rw[this];trivial
  | some k=>
   have hk:k∈ks:=List.mem_of_getElem? hi
   have hidx:=AJ3 hn hi
   have hβ:(callee F β own w ks).β0 i=β k:=by simp[callee,List.getD_eq_getElem?_getD,hi]
   rw[Axa hi]
   rcases hok k hk with⟨e,len,cs,h1⟩ | ⟨cs,h1,h2⟩
   ·have hAR:=Nj inv (IY hm h1)
    have:AR (callee F β own w ks) (FH ks own) w i ((callee F β own w ks).β0 i) e 0 len cs:=by
     rw[hβ]
     obtain⟨vs,g1,g2,g3,g4,g5⟩:=hAR
     refine⟨vs,g1,g2,g3,?_,?_⟩
     ·rcases g4 with g4 | ⟨b,o,q1,q2,q3⟩
      ·exact .inl g4
      ·exact .inr ⟨b,o,q1,by unfold FH;rw[q2];simp[hidx],q3⟩
     ·intro j v x hv hx
      refine(g5 j v x hv hx).move (Nat.le_refl 0) ?_ (fun _ _ _ _ _=>rfl) ?_
      ·intro fl b h1 hfl hS
       match fl with
       | 0=>exact absurd h1 (by omega)
       | 1=>simp[lv]at hfl
       | 2=>simp[lv]at hfl
       | 3=>exact hS
       | n+4=>simp[lv]at hfl
      ·intro b q hb
       refine⟨?_,rfl⟩
       unfold FH;rw[hb];simp[hidx]
    cases ho:Hm k with
    | arr e' t' len' cs'=>rw[ho]at h1;cases h1;exact this
    | tarr k' o' e' t' len' cs'=>rw[ho]at h1;cases h1;exact this
    | free=>rw[ho]at h1;cases h1
    | dead=>rw[ho]at h1;cases h1
    | var _=>rw[ho]at h1;cases h1
   ·have hk2:H k= .var cs:=by
     rcases hm k with g | g
     ·rw[←g];exact h1
     ·rw[g]at h1;cases h1
    have ho:=inv.objs k
    rw[hk2]at ho
    obtain⟨b,o,vs,g1,g2,g3,g4,g5⟩:=ho
    rw[h1]
    refine⟨b,o,vs,by rw[hβ];exact g1,by unfold FH;rw[g2];simp[hidx],g3,g4,?_⟩
    intro j v x hv hx
    have hvr:=g5 j v x hv hx
    have hp:∀(l:List V),F5 l=true→v∈l→(∃u,v= .sc u)∨∃e len cs,v= .sl 3 e len cs:=by
     intro l
     induction l with
     | nil=>simp
     | cons a l ih=>
      intro hl hv
      rcases List.mem_cons.1 hv with hh | hh
      ·subst hh
       unfold F5 at hl
       split at hl
       ·cases‹_=[]›
       ·rename_i heq;cases heq;exact .inl ⟨_,rfl⟩
       ·rename_i heq;cases heq;exact .inr ⟨_,_,_,rfl⟩
       ·cases hl
      ·refine ih ?_ hh
       unfold F5 at hl
       split at hl
       ·cases‹_=[]›
       ·rename_i heq;cases heq;exact hl
       ·rename_i heq;cases heq;exact hl
       ·cases hl
    rcases hp cs h2 (List.mem_of_getElem? hv)with⟨u,rfl⟩ | ⟨e,len,c,rfl⟩
    ·cases hvr;exact .sc ‹_›
    ·cases hvr with
     | rd q1 q2=>exact .rd q1 q2
 ·intro i hi
  have hi':i<ks.length:=hi
  rw[Axa (k:=ks[i]) (by simp)]
  have:=hok.alive (k:=ks[i]) (by simp)
  intro h
  cases ho:Hm ks[i]<;>rw[ho]at this h<;>simp[Eng.alive,Mk]at this h
theorem AfA {Hm0 Hm:Hp} (hm0:∀k,Hm0 k=H k∨Hm0 k= .dead) (hmm:∀k,Hm k=Hm0 k∨Hm k= .dead) {n:Nat} {v v':V} {x:Value} {ksv:List Nat} (hv:VR F β own H w v x)
 (h:VW Hm n v=some (v',ksv)):TA Hm ksv∧ksv.Nodup∧
 ((∀i k,ksv[i]? =some k→ks[n+i]? =some k)→VR (callee F β own w ks) (callee F β own w ks).β0 (FH ks own) (hp (ks.map fun k=>Mk (Hm0 k))) w v' x):=by
 cases v with
 | sc u=>cases h;cases hv;exact⟨by simp[TA],by simp,fun _=> .sc ‹_›⟩
 | sl fl e len cs=>
  unfold VW at h
  split at h
  ·rename_i heq;cases heq
  ·rename_i heq;cases heq;cases h
   cases hv with
   | rd q1 q2=>exact⟨by simp[TA],by simp,fun _=> .rd q1 q2⟩
  ·rename_i heq;cases heq
  ·cases h
 | arr k=>
  simp only[VW]at h
  split at h
  ·rename_i e len cs hk
   cases h
   refine⟨fun j hj=> ?_,by simp,fun hks=> ?_⟩
   ·simp at hj;subst hj;exact .inl ⟨e,len,cs,hk⟩
   ·have hnk:=hks 0 k (by simp)
    have hk0:Al (Hm0 k)=some (e,0,len,cs):=by
     rcases hmm k with g | g
     ·rw[←g];exact hk
     ·rw[g]at hk;cases hk
    rw[IW hv (IY hm0 hk0)]
    have hβ:(callee F β own w ks).β0 n=β k:=by
     rw[Nat.add_zero]at hnk
     simp[callee,List.getD_eq_getElem?_getD,hnk]
    rw[←hβ]
    exact .arr (e:=e) (t:=0) (len:=len) (cs:=cs) (by rw[Axa (by simpa using hnk),Ax4];exact hk0)
  ·cases h
 | _=>simp[VW]at h
theorem AsI {Hm0:Hp} (hm0:∀k,Hm0 k=H k∨Hm0 k= .dead):∀ {vs vs':List V} {xs:List Value} {Hm:Hp} {n:Nat} {ksv:List Nat},(∀k,Hm k=Hm0 k∨Hm k= .dead)→Pw (VR F β own H w) vs xs→
 Aab Hm n vs=some (vs',ksv)→TA Hm ksv∧ksv.Nodup∧
 ((∀i k,ksv[i]? =some k→ks[n+i]? =some k)→Pw (VR (callee F β own w ks) (callee F β own w ks).β0 (FH ks own) (hp (ks.map fun k=>Mk (Hm0 k))) w) vs' xs):=by
 intro vs
 induction vs with
 | nil=>intro vs' xs Hm n ksv hmm hv h;cases h;rw[hv.PO];exact⟨by simp[TA],by simp,fun _=> .nil⟩
 | cons v r ih=>
  intro vs' xs Hm n ksv hmm hv h
  obtain⟨x,xr,rfl,hvx,hr⟩:=hv.Ju
  simp only[Aab]at h
  split at h
  ·cases h
  ·rename_i v1 ks1 h1
   split at h
   ·cases h
   ·rename_i r2 ks2 h2
    cases h
    obtain⟨a1,a2,a3⟩:=AfA (ks:=ks) hm0 hmm hvx h1
    obtain⟨b1,b2,b3⟩:=ih (Hm:=Dp ks1 Hm) (fun k=>by
     rcases hmm k with g | g
     ·unfold Dp;split
      ·exact .inr rfl
      ·exact .inl g
     ·unfold Dp;split
      ·exact .inr rfl
      ·exact .inr g) hr h2
    obtain⟨b4,b5⟩:=b1.AHz
    refine⟨fun k hk=> ?_,?_,fun hks=> ?_⟩
    ·rcases List.mem_append.1 hk with g | g
     ·exact a1 k g
     ·exact b4 k g
    ·rw[List.nodup_append]
     exact⟨a2,b2,fun a ha b hb hab=>b5 b hb (hab▸ha)⟩
    ·refine .cons (a3 fun i k hi=>hks i k ?_) (b3 fun i k hi=> ?_)
     ·rw[List.getElem?_append_left (List.getElem?_eq_some_iff.1 hi).1];exact hi
     ·have:=hks (ks1.length+i) k (by rw[List.getElem?_append_right (by omega)];simpa using hi)
      rw[←this];congr 1;omega
theorem AAo {Hm0 Hm:Hp} (hm0:∀k,Hm0 k=H k∨Hm0 k= .dead) (hmm:∀k,Hm k=Hm0 k∨Hm k= .dead) {n:Nat} {v v':V} {x:Value} {ksv:List Nat} (hv:VR F β own H w v x)
 (h:Aqy Hm n v=some (v',ksv)):TA Hm ksv∧ksv.Nodup∧
 ((∀i k,ksv[i]? =some k→ks[n+i]? =some k)→VR (callee F β own w ks) (callee F β own w ks).β0 (FH ks own) (hp (ks.map fun k=>Mk (Hm0 k))) w v' x):=by
 have atom:VW Hm n v=some (v',ksv)→TA Hm ksv∧ksv.Nodup∧
  ((∀i k,ksv[i]? =some k→ks[n+i]? =some k)→VR (callee F β own w ks) (callee F β own w ks).β0 (FH ks own) (hp (ks.map fun k=>Mk (Hm0 k))) w v' x):=AfA hm0 hmm hv
 unfold Aqy at h
 split at h
 ·rename_i cs
  split at h
  ·rename_i cs' ks1 h1
   cases h
   cases hv with
   | agg q1 q2 q3=>
    obtain⟨a1,a2,a3⟩:=AsI (ks:=ks) hm0 hmm ⟨q2,q3⟩ h1
    exact⟨a1,a2,fun hks=> .agg q1 (a3 hks).1 (a3 hks).2⟩
  ·cases h
 ·rename_i k
  split at h
  ·rename_i cs hc
   split at h
   ·rename_i hpl
    cases h
    have hk0:Hm0 k= .var cs:=by
     rcases hmm k with g | g
     ·rw[←g];exact hc
     ·rw[g]at hc;cases hc
    have hk:H k= .var cs:=by
     rcases hm0 k with g | g
     ·rw[←g];exact hk0
     ·rw[g]at hk0;cases hk0
    refine⟨fun j hj=> ?_,by simp,fun hks=> ?_⟩
    ·simp at hj;subst hj;exact .inr ⟨cs,hc,hpl⟩
    ·have hnk:=hks 0 k (by simp)
     rw[Nat.add_zero]at hnk
     cases hv with
     | goneP g=>rw[hk]at g;cases g
     | @ptr _ _ b o h1 h2=>
      refine .ptr (.inr ⟨cs,?_⟩) ?_
      ·rw[Axa hnk,hk0];rfl
      ·simpa[callee,List.getD_eq_getElem?_getD,hnk]using h2
   ·cases h
  ·cases h
 ·exact atom h
theorem AEK (inv : Inv F β own H w) {Hm0 : Hp} (hm0 : ∀ k, Hm0 k = H k ∨ Hm0 k = .dead) (hbor : F.bor = true → ∀ k b p, k ∈ ks → own b = some (k, p) → p = []) : ∀ {args : List (Bool × V)} {args' : List V} {xs : List Value} {Hm : Hp} {n : Nat} {ksr : List Nat},
    (∀ k, Hm k = Hm0 k ∨ Hm k = .dead) → Pw (VR F β own H w) (args.map (·.2)) xs → Kc Hm n args = some ksr → TA Hm ksr ∧ ksr.Nodup ∧
    ((∀ i k, ksr[i]? = some k → ks[n + i]? = some k) → Jp Hm (Dp ks Hm0) n args = some args' →
      Pw (VR (callee F β own w ks) (callee F β own w ks).β0 (FH ks own) (hp (ks.map fun k => Mk (Hm0 k))) w) args' xs) := by
  intro args
  induction args generalizing ks with
  | nil => intro args' xs Hm n ksr hmm hv h; cases h; rw [List.map_nil] at hv; rw [hv.PO]; exact ⟨by simp [TA], by simp, fun _ h => by cases h; exact .nil⟩
  | cons a r ih =>
    intro args' xs Hm n ksr hmm hv h
    obtain ⟨t, v⟩ := a
    obtain ⟨x, xr, rfl, hvx, hr⟩ := hv.Ju
    cases t with
    | true =>
      simp only [Kc] at h
      split at h
      · cases h
      · rename_i v1 ks1 h1
        split at h
        · cases h
        · rename_i ks2 h2
          cases h
          obtain ⟨a1, a2, a3⟩ := AAo (ks := ks) hm0 hmm hvx h1
          have hmm' : ∀ k, Dp ks1 Hm k = Hm0 k ∨ Dp ks1 Hm k = .dead := fun k => by
            rcases hmm k with g | g
            · unfold Dp; split
              · exact .inr rfl
              · exact .inl g
            · unfold Dp; split
              · exact .inr rfl
              · exact .inr g
          obtain ⟨b1, b2, _⟩ := ih (ks := ks) hbor (args' := []) hmm' hr h2
          obtain ⟨b4, b5⟩ := b1.AHz
          refine ⟨fun k hk => ?_, ?_, fun hks hc => ?_⟩
          · rcases List.mem_append.1 hk with g | g
            · exact a1 k g
            · exact b4 k g
          · rw [List.nodup_append]
            exact ⟨a2, b2, fun a ha b hb hab => b5 b hb (hab ▸ ha)⟩
          · simp only [Jp, h1] at hc
            split at hc
            · cases hc
            · rename_i r' hr'
              cases hc
              refine .cons (a3 fun i k hi => hks i k ?_) ((ih (ks := ks) hbor hmm' hr h2).2.2 (fun i k hi => ?_) hr')
              · rw [List.getElem?_append_left (List.getElem?_eq_some_iff.1 hi).1]; exact hi
              · have := hks (ks1.length + i) k (by rw [List.getElem?_append_right (by omega)]; simpa using hi)
                rw [← this]; congr 1; omega
    | false =>
      simp only [Kc] at h
      obtain ⟨b1, b2, _⟩ := ih (ks := ks) hbor (args' := []) hmm hr h
      refine ⟨b1, b2, fun hks hc => ?_⟩
      simp only [Jp] at hc
      split at hc
      · cases hc
      · rename_i v' hv'
        split at hc
        · cases hc
        · rename_i r' hr'
          cases hc
          refine .cons ?_ ((ih (ks := ks) hbor hmm hr h).2.2 hks hr')
          refine AKj inv hbor (YI hm0 ks) (fun k hk => ?_) hvx hv'
          unfold Dp
          rw [if_pos (by simpa using hk)]
end
end Go.Eng
