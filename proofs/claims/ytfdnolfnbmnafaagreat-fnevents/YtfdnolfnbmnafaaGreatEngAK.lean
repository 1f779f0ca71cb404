/- Own work: part 37 of the proof of FnEvents. -/
import Derived.Test.YtfdnolfnbmnafaaGreatEngAJ
set_option linter.unusedSimpArgs false
set_option linter.unusedVariables false
namespace Go.Eng
theorem AdE {D:Dn} {c:Cf} {H:Hp} {K K':V→Gq→Prop} (h:∀v u,K v u→K' v u) {g:Nat} {args:List (Bool×V)} {sites:List Nat} (hh:KA D c H K g args sites):KA D c H K' g args sites:=by
 unfold KA at *
 split at hh
 ·exact hh.elim
 ·split at hh
  ·exact hh.elim
  ·rename_i hc
   rw[if_neg hc]
   split at hh
   ·exact hh.elim
   ·obtain⟨res,outs,h1,h2⟩:=hh
    refine⟨res,outs,h1,?_⟩
    split at h2
    ·exact h _ _ h2
    ·exact h2.elim
theorem AhO {K K':V→Gq→Prop} (h:∀v u,K v u→K' v u) {r:Option (V×Gq)} (hh:W9 r K):W9 r K':=by
 cases r with
 | none=>exact hh
 | some p=>exact h _ _ hh
theorem AA3 {D:Dn} {c:Cf} {H:Hp} {ev:Src→V} {op:JQ} {K K':V→Gq→Prop} (h:∀v u,K v u→K' v u) (hh:stepW D c H ev op K):stepW D c H ev op K':=by
 cases op with
 | call g args sites=>exact AdE (D:=D) (c:=c) (H:=H) h hh
 | callp g args sites=>exact AdE (D:=D) (c:=⟨true,c.takes⟩) (H:=H) h hh
 | callv f args sites=>
  have h':(match ev f with | .fn g caps=>KA D c H K g ((args.map fun(b,x)=>(b,ev x))++caps.map fun v=>(false,v)) sites | _=>False):=hh
  show(match ev f with | .fn g caps=>KA D c H K' g ((args.map fun(b,x)=>(b,ev x))++caps.map fun v=>(false,v)) sites | _=>False)
  split at h'
  ·exact AdE h h'
  ·exact h'.elim
 | mv x=>exact AhO (r:=some (ev x,[])) h (show W9 (some (ev x,[])) K from hh)
 | makeFunc g caps=>exact AhO (r:=some (.fn g (caps.map ev),[])) h (show W9 (some (.fn g (caps.map ev),[])) K from hh)
 | _=>exact AhO h hh
theorem Rz {D:Dn} {c:Cf} {env:List V} {Q Q':List V→List O→Prop} (h:∀v u,Q v u→Q' v u):∀ {rops:List Qq} {vals:List V} {H:List O},IX D c env rops vals H Q→IX D c env rops vals H Q'
 | [],_,_,hh=>h _ _ hh
 | rop::r,vals,H,hh=>by
  unfold IX at *
  dsimp only at *
  have go:∀ {K K':V→Gq→Prop},(∀v u,K v u→K' v u)→stepW D c (masked rop.tau (hp H)) (evs vals env) rop.op K→stepW D c (masked rop.tau (hp H)) (evs vals env) rop.op K':=fun h hh=>AA3 h hh
  split at hh
  ·exact go (fun v u hk=>⟨hk.1,Rz h hk.2⟩) hh
  ·split at hh
   ·split at hh
    ·rename_i hb;rw[if_pos hb];exact go (fun v u hk=>⟨hk.1,Rz h hk.2⟩) hh
    ·rename_i hb;rw[if_neg hb];exact Rz h hh
   ·exact Rz h hh
   ·exact hh.elim
theorem AE0 {D:Dn} {c:Cf} {r:Bl} {Q Q':St→Prop} (h:∀s,Q s→Q' s) {s:St} (hh:AEM D c r Q s):AEM D c r Q' s:=by
 refine Rz (D:=D) (c:=c) ?_ hh
 intro vals H hq
 split at hq
 ·exact h _ hq
 ·exact hq.elim
theorem AzT {D:Dn} {c:Cf}:∀(sc:SC) {Q Q':Out→St→Prop} {s:St},(∀o s,Q o s→Q' o s)→swp D c sc Q s→swp D c sc Q' s:=by
 intro sc
 induction sc with
 | skip=>intro Q Q' s h hh;exact h _ _ hh
 | reg r=>intro Q Q' s h hh;exact AE0 (fun s hs=>h _ s hs) hh
 | seq a b iha ihb=>
  intro Q Q' s h hh
  refine iha (Q:=fun o s'=>match o with | .normal=>swp D c b Q s' | o=>Q o s') ?_ hh
  intro o s' hq
  cases o with
  | normal=>exact ihb h hq
  | exit i=>exact h _ _ hq
  | ret=>exact h _ _ hq
 | cond k a b iha ihb=>
  intro Q Q' s h hh
  have h':(match s.env.getD k .undef with
   | .sc (.bool t)=>if t then swp D c a Q ⟨s.env.set k .undef,s.H⟩else swp D c b Q ⟨s.env.set k .undef,s.H⟩
   | _=>False):=hh
  show(match s.env.getD k .undef with
   | .sc (.bool t)=>if t then swp D c a Q' ⟨s.env.set k .undef,s.H⟩else swp D c b Q' ⟨s.env.set k .undef,s.H⟩
   | _=>False)
  split at h'
  ·split at h'
   ·rename_i hb;rw[if_pos hb];exact iha h h'
   ·rename_i hb;rw[if_neg hb];exact ihb h h'
  ·exact h'.elim
 | block id a iha=>
  intro Q Q' s h hh
  refine iha (Q:=fun o s'=>match o with | .exit i=>if i=id then Q .normal s' else Q (.exit i) s' | o=>Q o s') ?_ hh
  intro o s' hq
  cases o with
  | normal=>exact h _ _ hq
  | exit i=>
   have hq':if i=id then Q .normal s' else Q (.exit i) s':=hq
   show if i=id then Q' .normal s' else Q' (.exit i) s'
   split at hq'
   ·rename_i hi;rw[if_pos hi];exact h _ _ hq'
   ·rename_i hi;rw[if_neg hi];exact h _ _ hq'
  | ret=>exact h _ _ hq
 | loop a iha=>
  intro Q Q' s h hh
  obtain⟨n,hn⟩:=hh
  refine⟨n,?_⟩
  induction n generalizing s with
  | zero=>exact hn
  | succ n ih=>
   refine iha (Q:=fun o s'=>match o with | .normal=>Nat.rec (motive:=fun _=>St→Prop) (fun _=>False) (fun _ ih s=>swp D c a (fun o s'=>match o with | .normal=>ih s' | o=>Q o s') s) n s' | o=>Q o s') ?_ hn
   intro o s' hq
   cases o with
   | normal=>exact ih hq
   | exit i=>exact h _ _ hq
   | ret=>exact h _ _ hq
 | exit id=>intro Q Q' s h hh;exact h _ _ hh
 | ret=>intro Q Q' s h hh;exact h _ _ hh
 | stuck=>intro Q Q' s h hh;exact hh.elim
theorem Af {D:Dn} {c:Cf} {a:SC} {Q:Out→St→Prop} (I:Nat→St→Prop) (h:∀k s,I k s→swp D c a (fun o s'=>match o with | .normal=>∃k',k' <k∧I k' s' | o=>Q o s') s):
 ∀(k:Nat) (s:St),I k s→swp D c (.loop a) Q s:=by
 have key:∀(n k:Nat) (s:St),k<n→I k s→Nat.rec (motive:=fun _=>St→Prop) (fun _=>False) (fun _ ih s=>swp D c a (fun o s'=>match o with | .normal=>ih s' | o=>Q o s') s) n s:=by
  intro n
  induction n with
  | zero=>intro k s hk;omega
  | succ n ih=>
   intro k s hk hI
   refine AzT a ?_ (h k s hI)
   intro o s' hq
   cases o with
   | normal=>
    obtain⟨k',h1,h2⟩:=hq
    exact ih k' s' (by omega) h2
   | exit i=>exact hq
   | ret=>exact hq
 intro k s hI
 exact⟨k+1,key (k+1) k s (by omega) hI⟩
theorem AOq {D:Dn} {c:Cf} {a b:SC} {Q:Out→St→Prop} {s:St} (I:St→Prop) (h1:swp D c a (fun o s'=>match o with | .normal=>I s' | o=>Q o s') s) (h2:∀s',I s'→swp D c b Q s'):
 swp D c (.seq a b) Q s:=by
 refine AzT a ?_ h1
 intro o s' hq
 cases o with
 | normal=>exact h2 s' hq
 | exit i=>exact hq
 | ret=>exact hq
end Go.Eng
