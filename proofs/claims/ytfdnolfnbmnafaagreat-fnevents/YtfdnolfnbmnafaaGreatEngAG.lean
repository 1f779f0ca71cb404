/- Own work: part 33 of the proof of FnEvents. -/
import Derived.Test.YtfdnolfnbmnafaaGreatEngAF
set_option linter.unusedSimpArgs false
set_option linter.unusedVariables false
namespace Go.Eng
section
variable {P:Program} {F:Fr} {β:Nat→Base} {own:Nat→Option (Nat×List Nat)} {H:Hp} {w w':World}
abbrev AGT (F:Fr) (own:Nat→Option (Nat×List Nat)) (w:World) (q:List Nat) (v':V) (x:Value) (t:Nat) (ks:List Nat):Prop:=
 ∃μ:Nat→List Nat,(∀k1,∃r,μ k1=q++r)∧
  ∀ {own':Nat→Option (Nat×List Nat)} {w':World} {S':Nat→Nat→Prop} {lim k:Nat} {μ':Nat→List Nat},t≤lim→(∀k1,k1∈ks→μ' k1=μ k1)→
   Moved F own w own' w' S' t ks k μ'→Ow F.Ah w' own' S' lim k q v' x
theorem Ai0 {o:O} (h:(Al o).isSome=true):alive o=true:=by cases o<;>simp_all[Al,alive]
theorem AoA (inv:Inv F β own H w) {Hm:Hp} (hm:∀k,Hm k=H k∨Hm k= .dead) {v v':V} {x:Value} {t:Nat} {ks:List Nat} (hv:VR F β own H w v x)
 (h:Azr Hm v=some (v',t,ks)) (q:List Nat):(∀k1,k1∈ks→alive (Hm k1)=true)∧ks.Nodup∧AGT F own w q v' x t ks:=by
 have atom:VX Hm v=some (v',t,ks)→(∀k1,k1∈ks→alive (Hm k1)=true)∧ks.Nodup∧AGT F own w q v' x t ks:=by
  intro h
  obtain⟨a1,a2,a3,a4⟩:=Arb inv hm hv h
  refine⟨fun k1 hk=>Ai0 (a1 k1 hk),a2,fun _=>q,fun _=>⟨[],by simp⟩,?_⟩
  intro own' w' S' lim k μ' hl hμ mv
  exact a4 hl hμ mv
 unfold Azr at h
 split at h
 ·rename_i cs
  split at h
  ·rename_i cs' t' ks' hg
   cases h
   cases hv with
   | @agg _ vs h1 hvl hc=>
    obtain⟨b1,b2,b3,b4,μ,b5,b6⟩:=YF inv 0 q hm ⟨hvl,hc⟩ hg
    refine⟨fun k1 hk=>Ai0 (b1 k1 hk),b2,μ,fun k1=> ?_,?_⟩
    ·obtain⟨i,hi⟩:=b5 k1
     exact⟨[0+i],hi⟩
    ·intro own' w' S' lim k μ' hl hμ mv
     refine .agg h1 (by rw[hvl,b4]) fun i v x hv hx=> ?_
     have:=b6 (lim:=lim) (k:=k) hl hμ mv i v x hv hx
     rwa [Nat.zero_add]at this
  ·cases h
 ·rename_i k
  split at h
  ·rename_i cs hc
   split at h
   ·rename_i cs' t' ks' hg
    cases h
    have hk:H k= .var cs:=by
     rcases hm k with g | g
     ·rw[←g];exact hc
     ·rw[g]at hc;cases hc
    have ho:=inv.objs k
    rw[hk]at ho
    obtain⟨b,o,vs,g1,g2,g3,g4,g5⟩:=ho
    obtain⟨b1,b2,b3,b4,μ,b5,b6⟩:=YF inv 0 q (YI hm [k]) ⟨g3,g5⟩ hg
    have hkk:∀k1,k1∈ks'→k1≠k∧alive (Hm k1)=true:=by
     intro k1 hk1
     obtain⟨r,hr⟩:=Option.isSome_iff_exists.1 (b1 k1 hk1)
     obtain⟨p1,p2⟩:=K5 hr
     exact⟨by simpa using p1,Ai0 (by rw[p2];rfl)⟩
    refine⟨?_,?_,fun k1=>if k1=k then q else μ k1,?_,?_⟩
    ·intro k1 hk1
     rcases List.mem_cons.1 hk1 with h | h
     ·subst h;rw[hc];rfl
     ·exact(hkk k1 h).2
    ·simp only[List.nodup_cons]
     exact⟨fun h=>(hkk k h).1 rfl,b2⟩
    ·intro k1
     dsimp only
     split
     ·exact⟨[],by simp⟩
     ·obtain⟨i,hi⟩:=b5 k1
      exact⟨[0+i],hi⟩
    ·intro own' w' S' lim kk μ' hl hμ mv
     cases hv with
     | goneP h=>rw[hk]at h;cases h
     | @ptr _ _ b' o' h1 h2=>
      rw[g1]at h2;cases h2
      have hlk:=mv.lab b k [] (by simp) g2
      rw[hμ k (by simp)]at hlk;dsimp only at hlk;rw[if_pos rfl,List.append_nil]at hlk
      refine .ptr (vs:=vs) (by rw[b4];exact g3) hlk.1 (IE g4 hlk.2) fun i v x hv hx=> ?_
      have:=b6 (lim:=lim) (k:=kk) (μ':=μ') hl (fun k1 hk1=>by rw[hμ k1 (by simp[hk1])];dsimp only;rw[if_neg (hkk k1 hk1).1]) (mv.sub (fun k1 hk1=>by simp[hk1]) (Nat.le_refl _)) i v x hv hx
      rwa [Nat.zero_add]at this
   ·cases h
  ·cases h
 ·exact atom h
theorem Y6 {Hm:Hp} {ks:List Nat} {k:Nat} (h:alive (Dp ks Hm k)=true):k∉ks∧alive (Hm k)=true:=by
 obtain⟨h1,h2⟩:=Aqm h
 exact⟨h1,by rw[←h2];exact h⟩
theorem Azv (inv:Inv F β own H w):∀ {vs vs':List V} {xs:List Value} {Hm:Hp} {t:Nat} {ks:List Nat} (i0:Nat),(∀k,Hm k=H k∨Hm k= .dead)→
 Pw (VR F β own H w) vs xs→ApQ Hm vs=some (vs',t,ks)→(∀k1,k1∈ks→alive (Hm k1)=true)∧ks.Nodup∧vs'.length=vs.length∧∃μ:Nat→List Nat,
 ∀ {own':Nat→Option (Nat×List Nat)} {w':World} {S':Nat→Nat→Prop} {lim k:Nat} {μ':Nat→List Nat},t≤lim→(∀k1,k1∈ks→μ' k1=μ k1)→
  Moved F own w own' w' S' t ks k μ'→∀(i:Nat) (v:V) (x:Value),vs'[i]? =some v→xs[i]? =some x→Ow F.Ah w' own' S' lim k [i0+i] v x:=by
 intro vs
 induction vs with
 | nil=>
  intro vs' xs Hm t ks i0 hm hv h
  cases h
  rw[hv.PO]
  exact⟨by simp,by simp,rfl,fun _=> [],by simp⟩
 | cons v r ih=>
  intro vs' xs Hm t ks i0 hm hv h
  obtain⟨x,xr,rfl,hvx,hr⟩:=hv.Ju
  simp only[ApQ]at h
  split at h
  ·cases h
  ·rename_i v1 t1 ks1 h1
   split at h
   ·cases h
   ·rename_i r2 t2 ks2 h2
    cases h
    obtain⟨a1,a2,μ1,_,a4⟩:=AoA inv hm hvx h1 [i0]
    obtain⟨b1,b2,b3,μ2,b4⟩:=ih (i0+1) (YI hm ks1) hr h2
    refine⟨?_,?_,by simp[b3],fun k1=>if k1∈ks1 then μ1 k1 else μ2 k1,?_⟩
    ·intro k1 hk1
     rcases List.mem_append.1 hk1 with g | g
     ·exact a1 k1 g
     ·exact(Y6 (b1 k1 g)).2
    ·rw[List.nodup_append]
     exact⟨a2,b2,fun a ha b hb hab=>(Y6 (b1 b hb)).1 (hab▸ha)⟩
    ·intro own' w' S' lim k μ' hl hμ mv i u y hu hy
     cases i with
     | zero=>
      simp at hu hy;subst hu;subst hy
      exact a4 (μ':=μ') (by omega) (fun k1 hk1=>by rw[hμ k1 (by simp[hk1])];dsimp only;rw[if_pos hk1]) (mv.sub (by simp;intro k hk;exact .inl hk) (by omega))
     | succ i=>
      have:=b4 (own':=own') (w':=w') (S':=S') (lim:=lim) (k:=k) (μ':=μ') (by omega) (fun k1 hk1=>by rw[hμ k1 (by simp[hk1])];dsimp only;rw[if_neg (Y6 (b1 k1 hk1)).1])
       (mv.sub (by simp;intro k hk;exact .inr hk) (by omega)) i u y (by simpa using hu) (by simpa using hy)
      rw[show i0+(i+1)=i0+1+i by omega];exact this
theorem AEC (inv:Inv F β own H w) {Hm:Hp} (hm:∀k,Hm k=H k∨Hm k= .dead) {v v':V} {x:Value} {t:Nat} {ks:List Nat} (hv:VR F β own H w v x)
 (h:give Hm v=some (v',t,ks)):(∀k1,k1∈ks→alive (Hm k1)=true)∧ks.Nodup∧∃μ:Nat→List Nat,
 ∀ {own':Nat→Option (Nat×List Nat)} {w':World} {S':Nat→Nat→Prop} {lim k:Nat} {μ':Nat→List Nat},t≤lim→(∀k1,k1∈ks→μ' k1=μ k1)→
  Moved F own w own' w' S' t ks k μ'→Ow F.Ah w' own' S' lim k [] v' x:=by
 unfold give at h
 split at h
 ·split at h
  ·rename_i vs vs' t' ks' hg
   cases h
   cases hv with
   | tup hvl hc=>
    obtain⟨b1,b2,b3,μ,b4⟩:=Azv inv 0 hm ⟨hvl,hc⟩ hg
    refine⟨b1,b2,μ,?_⟩
    intro own' w' S' lim k μ' hl hμ mv
    refine .tup (by rw[hvl,b3]) fun i v x hv hx=> ?_
    have:=b4 (lim:=lim) (k:=k) hl hμ mv i v x hv hx
    simpa using this
  ·cases h
 ·obtain⟨a1,a2,μ,_,a4⟩:=AoA inv hm hv h []
  exact⟨a1,a2,μ,a4⟩
end
end Go.Eng
