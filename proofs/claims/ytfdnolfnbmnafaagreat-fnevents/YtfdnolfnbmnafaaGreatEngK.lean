/- Own work: part 11 of the proof of FnEvents. -/
import Derived.Test.YtfdnolfnbmnafaaGreatEngJ
set_option linter.unusedSimpArgs false
set_option linter.unusedVariables false
namespace Go.Eng
structure Moved (F:Fr) (own:Nat→Option (Nat×List Nat)) (w:World) (own':Nat→Option (Nat×List Nat)) (w':World) (S':Nat→Nat→Prop) (t:Nat)
 (ks:List Nat) (k:Nat) (μ:Nat→List Nat):Prop where
 lab:∀b k1 p,k1∈ks→own b=some (k1,p)→own' b=some (k,μ k1++p)∧w'.heap[b]? =w.heap[b]?
 ros:∀fl b,1≤fl→lv fl≤t→F.S w own fl b→S' fl b∧w'.heap[b]? =w.heap[b]?
section
variable {P:Program} {F:Fr} {β:Nat→Base} {own:Nat→Option (Nat×List Nat)} {H:Hp} {w w':World}
theorem YI {Hm:Hp} (hm:∀k,Hm k=H k∨Hm k= .dead) (ks:List Nat):∀k,Dp ks Hm k=H k∨Dp ks Hm k= .dead:=by
 intro k
 unfold Dp
 split
 ·exact .inr rfl
 ·exact hm k
theorem K5 {Hm:Hp} {ks:List Nat} {k:Nat} {r:Nat×Nat×Nat×List V} (h:Al (Dp ks Hm k)=some r):k∉ks∧Al (Hm k)=some r:=by
 unfold Dp at h
 split at h
 ·simp[Al]at h
 ·rename_i hk
  exact⟨by simpa using hk,h⟩
theorem Anx {fl:Nat} (h:1≤fl) (h2:lv fl=0):fl=3:=by
 unfold lv at h2
 split at h2
 ·omega
 ·rfl
 ·omega
theorem ANR (inv:Inv F β own H w) {k1 e t len:Nat} {cs:List V} (hk:Al (H k1)=some (e,t,len,cs)) {own':Nat→Option (Nat×List Nat)} {S':Nat→Nat→Prop} {lim k:Nat} {q:List Nat}
 (hlim:t≤lim) (hlab:∀b p,own b=some (k1,p)→own' b=some (k,q++p)∧w'.heap[b]? =w.heap[b]?)
 (hro:∀fl b,1≤fl→lv fl≤t→F.S w own fl b→S' fl b∧w'.heap[b]? =w.heap[b]?):Ow F.Ah w' own' S' lim k q (.sl 0 e len cs) (.slice (β k1).a len (β k1).cap):=by
 obtain⟨vs,g1,g2,g3,g4,g5⟩:=Nj inv hk
 have hR:∀ {v:V} {x:Value} {fl:Nat},1≤fl→lv fl≤t→Rd F.Ah w (F.S w own fl) v x→Rd F.Ah w' (S' fl) v x:=
  fun h1 h2 h=>h.move (fun b hb=>(hro _ b h1 h2 hb).1) (fun b hb=>(hro _ b h1 h2 hb).2)
 have mv:∀ {p:List Nat} {v:V} {x:Value},Ow F.Ah w own (F.S w own) t k1 p v x→Ow F.Ah w' own' S' lim k (q++p) v x:=by
  intro p v x h
  induction h with
  | sc h1=>exact .sc h1
  | own hl hw hv hm hc ih=>
   refine .own hl hw hv ?_ (fun i v x hv hx=>by simpa using ih i v x hv hx)
   rcases hm with hm | ⟨b,o,ha,hb,hr⟩
   ·exact .inl hm
   ·exact .inr ⟨b,o,ha,(hlab b _ hb).1,IE hr (hlab b _ hb).2⟩
  | ro h1 h2 h=>exact .ro h1 (Nat.le_trans h2 hlim) (hR h1 h2 h)
  | ptr hv hb hm hc ih=>exact .ptr hv (hlab _ _ hb).1 (IE hm (hlab _ _ hb).2) (fun i v x hv hx=>by simpa using ih i v x hv hx)
  | rptr h1 h2 h=>exact .rptr h1 (Nat.le_trans h2 hlim) (hR h1 h2 h)
  | fn h2 h=>exact .fn (Nat.le_trans h2 hlim) (hR (Nat.le_refl 1) h2 h)
  | agg h1 hv hc ih=>exact .agg h1 hv (fun i v x hv hx=>by simpa using ih i v x hv hx)
  | tup hv hc ih=>exact .tup hv (fun i v x hv hx=>by simpa using ih i v x hv hx)
  | undef=>exact .undef
 refine .own g3 g2 g1 ?_ (fun i v x hv hx=>mv (g5 i v x hv hx))
 rcases g4 with g4 | ⟨b,o,h1,h2,h3⟩
 ·exact .inl g4
 ·refine .inr ⟨b,o,h1,?_,IE h3 (hlab b [] h2).2⟩
  simpa using(hlab b [] h2).1
theorem Arb (inv:Inv F β own H w) {Hm:Hp} (hm:∀k,Hm k=H k∨Hm k= .dead) {v v':V} {x:Value} {t:Nat} {ks:List Nat} (hv:VR F β own H w v x)
 (h:VX Hm v=some (v',t,ks)):
 (∀k1,k1∈ks→(Al (Hm k1)).isSome=true)∧ks.Nodup∧x.oneCell' =true∧
 ∀ {own':Nat→Option (Nat×List Nat)} {w':World} {S':Nat→Nat→Prop} {lim k:Nat} {μ:Nat→List Nat} {q:List Nat},t≤lim→(∀k1,k1∈ks→μ k1=q)→
  Moved F own w own' w' S' t ks k μ→Ow F.Ah w' own' S' lim k q v' x:=by
 cases v with
 | sc u=>cases h;cases hv;exact⟨by simp,by simp,‹_›,fun _ _ _=> .sc ‹_›⟩
 | nil e=>cases h;cases hv;exact⟨by simp,by simp,rfl,fun _ _ _=> .own (vs:=[]) ⟨Nat.le_refl 0,by omega⟩ (by simp) rfl (.inl (by simp)) (by simp)⟩
 | sl fl e len cs=>
  cases fl with
  | zero=>simp[VX]at h
  | succ fl=>
   simp[VX]at h
   obtain⟨rfl,rfl,rfl⟩:=h
   cases hv with
   | rd h1 hr=>
    refine⟨by simp,by simp,by cases hr;rfl,?_⟩
    intro own' w' S' lim k μ q hl _ mv
    exact .ro h1 hl (hr.move (fun b hb=>(mv.ros _ b h1 (Nat.le_refl _) hb).1) (fun b hb=>(mv.ros _ b h1 (Nat.le_refl _) hb).2))
 | arr k1=>
  simp only[VX]at h
  cases hk:Al (Hm k1)with
  | none=>simp[hk]at h
  | some r=>
   obtain⟨e,t',len,cs⟩:=r
   simp only[hk]at h
   cases h
   have hk':=IY hm hk
   refine⟨by simp[hk],by simp,by rw[IW hv hk'];rfl,?_⟩
   intro own' w' S' lim k μ q hl hq mv
   rw[IW hv hk']
   refine ANR inv hk' hl (fun b p hb=> ?_) (fun fl b h1 h2 hs=>mv.ros fl b h1 h2 hs)
   have:=mv.lab b k1 p (by simp) hb
   rw[hq k1 (by simp)]at this
   exact this
 | _=>simp[VX]at h
theorem Moved.sub {own':Nat→Option (Nat×List Nat)} {S':Nat→Nat→Prop} {t t':Nat} {ks ks':List Nat} {k:Nat} {μ:Nat→List Nat} (m:Moved F own w own' w' S' t ks k μ)
 (hs:∀k,k∈ks'→k∈ks) (ht:t'≤t):Moved F own w own' w' S' t' ks' k μ:=
 ⟨fun b k1 p h1 h2=>m.lab b k1 p (hs _ h1) h2,fun fl b h1 h2 h3=>m.ros fl b h1 (Nat.le_trans h2 ht) h3⟩
theorem YF (inv:Inv F β own H w):∀ {vs vs':List V} {xs:List Value} {Hm:Hp} {t:Nat} {ks:List Nat} (i0:Nat) (pre:List Nat),(∀k,Hm k=H k∨Hm k= .dead)→
 Pw (VR F β own H w) vs xs→Rk Hm vs=some (vs',t,ks)→
 (∀k1,k1∈ks→(Al (Hm k1)).isSome=true)∧ks.Nodup∧GY xs∧vs'.length=vs.length∧∃μ:Nat→List Nat,(∀k1,∃i,μ k1=pre++ [i0+i])∧
 ∀ {own':Nat→Option (Nat×List Nat)} {w':World} {S':Nat→Nat→Prop} {lim k:Nat} {μ':Nat→List Nat},t≤lim→(∀k1,k1∈ks→μ' k1=μ k1)→
  Moved F own w own' w' S' t ks k μ'→∀(i:Nat) (v:V) (x:Value),vs'[i]? =some v→xs[i]? =some x→Ow F.Ah w' own' S' lim k (pre++ [i0+i]) v x:=by
 intro vs
 induction vs with
 | nil=>
  intro vs' xs Hm t ks i0 pre hm hv h
  cases h
  rw[hv.PO]
  exact⟨by simp,by simp,by simp[GY],rfl,fun _=>pre++ [i0+0],fun _=>⟨0,rfl⟩,by simp⟩
 | cons v r ih=>
  intro vs' xs Hm t ks i0 pre hm hv h
  obtain⟨x,xr,rfl,hvx,hr⟩:=hv.Ju
  simp only[Rk]at h
  cases h1:VX Hm v with
  | none=>simp[h1]at h
  | some p1=>
   obtain⟨v1,t1,ks1⟩:=p1
   simp only[h1]at h
   cases h2:Rk (Dp ks1 Hm) r with
   | none=>simp[h2]at h
   | some p2=>
    obtain⟨r2,t2,ks2⟩:=p2
    simp only[h2]at h
    cases h
    obtain⟨a1,a2,a3,a4⟩:=Arb inv hm hvx h1
    obtain⟨b1,b2,b3,b4,μ,b5,b6⟩:=ih (i0+1) pre (YI hm ks1) hr h2
    have hb1:∀k1,k1∈ks2→k1∉ks1∧(Al (Hm k1)).isSome=true:=by
     intro k1 hk1
     obtain⟨r,hr⟩:=Option.isSome_iff_exists.1 (b1 k1 hk1)
     obtain⟨g1,g2⟩:=K5 hr
     exact⟨g1,by rw[g2];rfl⟩
    refine⟨?_,?_,?_,by simp[b4],fun k1=>if k1∈ks1 then pre++ [i0+0]else μ k1,?_,?_⟩
    ·intro k1 hk1
     rcases List.mem_append.1 hk1 with g | g
     ·exact a1 k1 g
     ·exact(hb1 k1 g).2
    ·rw[List.nodup_append]
     exact⟨a2,b2,fun a ha b hb hab=>(hb1 b hb).1 (hab▸ha)⟩
    ·intro y hy
     rcases List.mem_cons.1 hy with g | g
     ·subst g;exact a3
     ·exact b3 y g
    ·intro k1
     dsimp only
     split
     ·exact⟨0,rfl⟩
     ·obtain⟨i,hi⟩:=b5 k1
      exact⟨i+1,by rw[hi];congr 2;omega⟩
    ·intro own' w' S' lim k μ' hl hμ mv i u y hu hy
     cases i with
     | zero=>
      simp at hu hy;subst hu;subst hy
      refine a4 (μ:=μ') (by omega) (fun k1 hk1=> ?_) (mv.sub (by simp;intro k hk;exact .inl hk) (by omega))
      rw[hμ k1 (by simp[hk1])]
      simp[hk1]
     | succ i=>
      have:=b6 (own':=own') (w':=w') (S':=S') (lim:=lim) (k:=k) (μ':=μ') (by omega) (fun k1 hk1=> ?_) (mv.sub (by simp;intro k hk;exact .inr hk) (by omega)) i u y (by simpa using hu) (by simpa using hy)
      ·rw[show i0+(i+1)=i0+1+i by omega];exact this
      ·rw[hμ k1 (by simp[hk1])]
       simp[(hb1 k1 hk1).1]
end
end Go.Eng
