/- Own work: part 37 of the proof of FnExactApplyEvent. -/
import Derived.Test.YtdoefikagfghnaaGreatEngAJ
set_option linter.unusedSimpArgs false
set_option linter.unusedVariables false
namespace Go.Eng
theorem Ai7 {D:Dn} {c:Cf} {H:Hp} {K K':V→Fb→Prop} (h:∀v u,K v u→K' v u) {g:Nat} {args:List (Bool×V)} {sites:List Nat} (hh:KJ D c H K g args sites):KJ D c H K' g args sites:=by
 unfold KJ at *
 split at hh
 ·exact hh.elim
 ·split at hh
  ·exact hh.elim
  ·rename_i hc
   rw[if_neg hc]
   split at hh
   ·exact hh.elim
   ·obtain⟨res,outs,h1,h2⟩:=hh
    refine⟨res,outs,h1,?_⟩
    split at h2
    ·exact h _ _ h2
    ·exact h2.elim
theorem Aed {K K':V→Fb→Prop} (h:∀v u,K v u→K' v u) {r:Option (V×Fb)} (hh:Uj r K):Uj r K':=by
 cases r with
 | none=>exact hh
 | some p=>exact h _ _ hh
theorem AvP {D:Dn} {c:Cf} {H:Hp} {ev:Src→V} {op:Ki} {K K':V→Fb→Prop} (h:∀v u,K v u→K' v u) (hh:stepW D c H ev op K):stepW D c H ev op K':=by
 cases op with
 | call g args sites=>exact Ai7 (D:=D) (c:=c) (H:=H) h hh
 | callv f args sites=>
  have h':(match ev f with | .fn g caps=>KJ D c H K g ((args.map fun(b,x)=>(b,ev x))++caps.map fun v=>(false,v)) sites | _=>False):=hh
  show(match ev f with | .fn g caps=>KJ D c H K' g ((args.map fun(b,x)=>(b,ev x))++caps.map fun v=>(false,v)) sites | _=>False)
  split at h'
  ·exact Ai7 h h'
  ·exact h'.elim
 | mv x=>exact Aed (r:=some (ev x,[])) h (show Uj (some (ev x,[])) K from hh)
 | makeFunc g caps=>exact Aed (r:=some (.fn g (caps.map ev),[])) h (show Uj (some (.fn g (caps.map ev),[])) K from hh)
 | _=>exact Aed h hh
theorem OQ {D:Dn} {c:Cf} {env:List V} {Q Q':List V→List O→Prop} (h:∀v u,Q v u→Q' v u):∀ {rops:List Oy} {vals:List V} {H:List O},Gy D c env rops vals H Q→Gy D c env rops vals H Q'
 | [],_,_,hh=>h _ _ hh
 | rop::r,vals,H,hh=>by
  unfold Gy at *
  dsimp only at *
  have go:∀ {K K':V→Fb→Prop},(∀v u,K v u→K' v u)→stepW D c (masked rop.tau (hp H)) (evs vals env) rop.op K→stepW D c (masked rop.tau (hp H)) (evs vals env) rop.op K':=fun h hh=>AvP h hh
  split at hh
  ·exact go (fun v u hk=>⟨hk.1,OQ h hk.2⟩) hh
  ·split at hh
   ·split at hh
    ·rename_i hb;rw[if_pos hb];exact go (fun v u hk=>⟨hk.1,OQ h hk.2⟩) hh
    ·rename_i hb;rw[if_neg hb];exact OQ h hh
   ·exact OQ h hh
   ·exact hh.elim
theorem Aw1 {D:Dn} {c:Cf} {r:Bc} {Q Q':St→Prop} (h:∀s,Q s→Q' s) {s:St} (hh:Ayn D c r Q s):Ayn D c r Q' s:=by
 refine OQ (D:=D) (c:=c) ?_ hh
 intro vals H hq
 split at hq
 ·exact h _ hq
 ·exact hq.elim
theorem AsK {D:Dn} {c:Cf}:∀(sc:SC) {Q Q':Out→St→Prop} {s:St},(∀o s,Q o s→Q' o s)→swp D c sc Q s→swp D c sc Q' s:=by
 intro sc
 induction sc with
 | skip=>intro Q Q' s h hh;exact h _ _ hh
 | reg r=>intro Q Q' s h hh;exact Aw1 (fun s hs=>h _ s hs) hh
 | seq a b iha ihb=>
  intro Q Q' s h hh
  refine iha (Q:=fun o s'=>match o with | .normal=>swp D c b Q s' | o=>Q o s') ?_ hh
  intro o s' hq
  cases o with
  | normal=>exact ihb h hq
  | exit i=>exact h _ _ hq
  | ret=>exact h _ _ hq
 | cond k a b iha ihb=>
  intro Q Q' s h hh
  have h':(match s.env.getD k .undef with
   | .sc (.bool t)=>if t then swp D c a Q ⟨s.env.set k .undef,s.H⟩else swp D c b Q ⟨s.env.set k .undef,s.H⟩
   | _=>False):=hh
  show(match s.env.getD k .undef with
   | .sc (.bool t)=>if t then swp D c a Q' ⟨s.env.set k .undef,s.H⟩else swp D c b Q' ⟨s.env.set k .undef,s.H⟩
   | _=>False)
  split at h'
  ·split at h'
   ·rename_i hb;rw[if_pos hb];exact iha h h'
   ·rename_i hb;rw[if_neg hb];exact ihb h h'
  ·exact h'.elim
 | block id a iha=>
  intro Q Q' s h hh
  refine iha (Q:=fun o s'=>match o with | .exit i=>if i=id then Q .normal s' else Q (.exit i) s' | o=>Q o s') ?_ hh
  intro o s' hq
  cases o with
  | normal=>exact h _ _ hq
  | exit i=>
   have hq':if i=id then Q .normal s' else Q (.exit i) s':=hq
   show if i=id then Q' .normal s' else Q' (.exit i) s'
   split at hq'
   ·rename_i hi;rw[if_pos hi];exact h _ _ hq'
   ·rename_i hi;rw[if_neg hi];exact h _ _ hq'
  | ret=>exact h _ _ hq
 | loop a iha=>
  intro Q Q' s h hh
  obtain⟨n,hn⟩:=hh
  refine⟨n,?_⟩
  induction n generalizing s with
  | zero=>exact hn
  | succ n ih=>
   refine iha (Q:=fun o s'=>match o with | .normal=>Nat.rec (motive:=fun _=>St→Prop) (fun _=>False) (fun _ ih s=>swp D c a (fun o s'=>match o with | .normal=>ih s' | o=>Q o s') s) n s' | o=>Q o s') ?_ hn
   intro o s' hq
   cases o with
   | normal=>exact ih hq
   | exit i=>exact h _ _ hq
   | ret=>exact h _ _ hq
 | exit id=>intro Q Q' s h hh;exact h _ _ hh
 | ret=>intro Q Q' s h hh;exact h _ _ hh
 | stuck=>intro Q Q' s h hh;exact hh.elim
theorem Ae {D:Dn} {c:Cf} {a:SC} {Q:Out→St→Prop} (I:Nat→St→Prop) (h:∀k s,I k s→swp D c a (fun o s'=>match o with | .normal=>∃k',k' <k∧I k' s' | o=>Q o s') s):
 ∀(k:Nat) (s:St),I k s→swp D c (.loop a) Q s:=by
 have key:∀(n k:Nat) (s:St),k<n→I k s→Nat.rec (motive:=fun _=>St→Prop) (fun _=>False) (fun _ ih s=>swp D c a (fun o s'=>match o with | .normal=>ih s' | o=>Q o s') s) n s:=by
  intro n
  induction n with
  | zero=>intro k s hk;omega
  | succ n ih=>
   intro k s hk hI
   refine AsK a ?_ (h k s hI)
   intro o s' hq
   cases o with
   | normal=>
    obtain⟨k',h1,h2⟩:=hq
    exact ih k' s' (by omega) h2
   | exit i=>exact hq
   | ret=>exact hq
 intro k s hI
 exact⟨k+1,key (k+1) k s (by omega) hI⟩
theorem AHr {D:Dn} {c:Cf} {a b:SC} {Q:Out→St→Prop} {s:St} (I:St→Prop) (h1:swp D c a (fun o s'=>match o with | .normal=>I s' | o=>Q o s') s) (h2:∀s',I s'→swp D c b Q s'):
 swp D c (.seq a b) Q s:=by
 refine AsK a ?_ h1
 intro o s' hq
 cases o with
 | normal=>exact h2 s' hq
 | exit i=>exact hq
 | ret=>exact hq
end Go.Eng
