/- Own work: part 48 of the proof of FnEvents. -/
import Derived.Test.YtfdnolfnbmnafaaGreatP47
set_option linter.unusedSimpArgs false
set_option linter.unusedVariables false
namespace Go.Eng
section
variable {D:Dn} {c:Cf}
theorem ASa {H:Hp} {K:V→Gq→Prop} {g:Nat} {args:List (Bool×V)} {sites:List Nat} (hh:KA D c H K g args sites):
 ∃v u,K v u∧KA D c H (fun v' u'=>v' =v∧u' =u) g args sites:=by
 unfold KA at hh
 split at hh
 ·exact hh.elim
 ·rename_i ks hks
  split at hh
  ·exact hh.elim
  ·rename_i hc
   split at hh
   ·exact hh.elim
   ·rename_i args' ha
    obtain⟨res,outs,h1,h2⟩:=hh
    split at h2
    ·rename_i u v u' l e1 e2
     refine⟨v,u++u',h2,?_⟩
     unfold KA
     rw[hks]
     dsimp only
     rw[if_neg hc,ha]
     dsimp only
     refine⟨res,outs,h1,?_⟩
     rw[e1,e2]
     exact⟨rfl,rfl⟩
    ·exact h2.elim
theorem ATm {K:V→Gq→Prop} {r:Option (V×Gq)} (hh:W9 r K):∃v u,K v u∧W9 r (fun v' u'=>v' =v∧u' =u):=by
 cases r with
 | none=>exact hh.elim
 | some p=>exact⟨p.1,p.2,hh,rfl,rfl⟩
theorem AVt {H:Hp} {ev:Src→V} {op:JQ} {K:V→Gq→Prop} (hh:stepW D c H ev op K):∃v u,K v u∧stepW D c H ev op (fun v' u'=>v' =v∧u' =u):=by
 cases op with
 | call g args sites=>exact ASa (D:=D) (c:=c) (H:=H) hh
 | callp g args sites=>exact ASa (D:=D) (c:=⟨true,c.takes⟩) (H:=H) hh
 | callv f args sites=>
  have h':(match ev f with | .fn g caps=>KA D c H K g ((args.map fun(b,x)=>(b,ev x))++caps.map fun v=>(false,v)) sites | _=>False):=hh
  split at h'
  ·rename_i g caps e
   obtain⟨v,u,h1,h2⟩:=ASa h'
   refine⟨v,u,h1,?_⟩
   show(match ev f with | .fn g caps=>KA D c H (fun v' u'=>v' =v∧u' =u) g ((args.map fun(b,x)=>(b,ev x))++caps.map fun v=>(false,v)) sites | _=>False)
   rw[e]
   exact h2
  ·exact h'.elim
 | mv x=>exact ATm (r:=some (ev x,[])) hh
 | makeFunc g caps=>exact ATm (r:=some (.fn g (caps.map ev),[])) hh
 | _=>exact ATm hh
theorem AQN {env:List V} {Q:List V→List O→Prop}:∀ {rops:List Qq} {vals:List V} {H:List O},IX D c env rops vals H Q→
 ∃vals' H',Q vals' H'∧IX D c env rops vals H (fun v h=>v=vals'∧h=H')
 | [],vals,H,hh=>⟨vals,H,hh,rfl,rfl⟩
 | rop::r,vals,H,hh=>by
  unfold IX at hh
  dsimp only at hh
  have go:stepW D c (masked rop.tau (hp H)) (evs vals env) rop.op (fun v u=>okU rop.tau rop.om (hp H) u=true∧IX D c env r (vals++ [v]) (Ahj H u) Q)→
   ∃vals' H',Q vals' H'∧stepW D c (masked rop.tau (hp H)) (evs vals env) rop.op (fun v u=>okU rop.tau rop.om (hp H) u=true∧IX D c env r (vals++ [v]) (Ahj H u) (fun v h=>v=vals'∧h=H')):=by
   intro h
   obtain⟨v,u,⟨h1,h2⟩,h3⟩:=AVt h
   obtain⟨vals',H',h4,h5⟩:=AQN h2
   exact⟨vals',H',h4,AA3 (fun v' u' h=>by obtain⟨rfl,rfl⟩:=h;exact⟨h1,h5⟩) h3⟩
  cases hg:rop.guard with
  | none=>
   rw[hg]at hh
   obtain⟨vals',H',h4,h5⟩:=go hh
   refine⟨vals',H',h4,?_⟩
   unfold IX
   dsimp only
   rw[hg]
   exact h5
  | some p=>
   obtain⟨j,t⟩:=p
   rw[hg]at hh
   dsimp only at hh
   split at hh
   ·rename_i b e
    split at hh
    ·rename_i hb
     obtain⟨vals',H',h4,h5⟩:=go hh
     refine⟨vals',H',h4,?_⟩
     unfold IX
     dsimp only
     rw[hg]
     dsimp only
     rw[e]
     dsimp only
     rw[if_pos hb]
     exact h5
    ·rename_i hb
     obtain⟨vals',H',h4,h5⟩:=AQN hh
     refine⟨vals',H',h4,?_⟩
     unfold IX
     dsimp only
     rw[hg]
     dsimp only
     rw[e]
     dsimp only
     rw[if_neg hb]
     exact h5
   ·rename_i e
    obtain⟨vals',H',h4,h5⟩:=AQN hh
    refine⟨vals',H',h4,?_⟩
    unfold IX
    dsimp only
    rw[hg]
    dsimp only
    rw[e]
    exact h5
   ·exact hh.elim
theorem AVX {r:Bl} {Q:St→Prop} {s:St} (hh:AEM D c r Q s):∃s',Q s'∧AEM D c r (fun s''=>s'' =s') s:=by
 obtain⟨vals,H,h1,h2⟩:=AQN (D:=D) (c:=c) hh
 split at h1
 ·rename_i s' e
  refine⟨s',h1,Rz (D:=D) (c:=c) (fun v h hv=> ?_) h2⟩
  obtain⟨rfl,rfl⟩:=hv
  rw[e]
 ·exact h1.elim
theorem AWt:∀(sc:SC) {Q:Out→St→Prop} {s:St},swp D c sc Q s→∃o s',Q o s'∧swp D c sc (fun o' s''=>o' =o∧s'' =s') s:=by
 intro sc
 induction sc with
 | skip=>intro Q s h;exact⟨_,_,h,rfl,rfl⟩
 | reg r=>
  intro Q s h
  obtain⟨s',h1,h2⟩:=AVX (Q:=Q .normal) h
  exact⟨.normal,s',h1,AE0 (fun s'' hs=>⟨rfl,hs⟩) h2⟩
 | seq a b iha ihb=>
  intro Q s h
  obtain⟨o,s1,h1,h2⟩:=iha h
  cases o with
  | normal=>
   obtain⟨o',s2,h3,h4⟩:=ihb h1
   refine⟨o',s2,h3,AzT a (fun o s hs=> ?_) h2⟩
   obtain⟨rfl,rfl⟩:=hs
   exact h4
  | exit i=>
   refine⟨_,_,h1,AzT a (fun o s hs=> ?_) h2⟩
   obtain⟨rfl,rfl⟩:=hs
   exact⟨rfl,rfl⟩
  | ret=>
   refine⟨_,_,h1,AzT a (fun o s hs=> ?_) h2⟩
   obtain⟨rfl,rfl⟩:=hs
   exact⟨rfl,rfl⟩
 | cond k a b iha ihb=>
  intro Q s h
  have h':(match s.env.getD k .undef with
   | .sc (.bool t)=>if t then swp D c a Q ⟨s.env.set k .undef,s.H⟩else swp D c b Q ⟨s.env.set k .undef,s.H⟩
   | _=>False):=h
  have mk:∀ {Q':Out→St→Prop},(match s.env.getD k .undef with
   | .sc (.bool t)=>if t then swp D c a Q' ⟨s.env.set k .undef,s.H⟩else swp D c b Q' ⟨s.env.set k .undef,s.H⟩
   | _=>False)→swp D c (.cond k a b) Q' s:=fun h=>h
  split at h'
  ·rename_i t e
   split at h'
   ·rename_i hb
    obtain⟨o,s1,h1,h2⟩:=iha h'
    refine⟨o,s1,h1,mk ?_⟩
    rw[e];dsimp only;rw[if_pos hb];exact h2
   ·rename_i hb
    obtain⟨o,s1,h1,h2⟩:=ihb h'
    refine⟨o,s1,h1,mk ?_⟩
    rw[e];dsimp only;rw[if_neg hb];exact h2
  ·exact h'.elim
 | block id a iha=>
  intro Q s h
  obtain⟨o,s1,h1,h2⟩:=iha h
  cases o with
  | normal=>
   refine⟨.normal,s1,h1,AzT a (fun o s hs=> ?_) h2⟩
   obtain⟨rfl,rfl⟩:=hs
   exact⟨rfl,rfl⟩
  | exit i=>
   have h1':if i=id then Q .normal s1 else Q (.exit i) s1:=h1
   split at h1'
   ·rename_i hi
    refine⟨.normal,s1,h1',AzT a (fun o s hs=> ?_) h2⟩
    obtain⟨rfl,rfl⟩:=hs
    show if i=id then _ else _
    rw[if_pos hi];exact⟨rfl,rfl⟩
   ·rename_i hi
    refine⟨.exit i,s1,h1',AzT a (fun o s hs=> ?_) h2⟩
    obtain⟨rfl,rfl⟩:=hs
    show if i=id then _ else _
    rw[if_neg hi];exact⟨rfl,rfl⟩
  | ret=>
   refine⟨.ret,s1,h1,AzT a (fun o s hs=> ?_) h2⟩
   obtain⟨rfl,rfl⟩:=hs
   exact⟨rfl,rfl⟩
 | loop a iha=>
  intro Q s h
  obtain⟨n,hn⟩:=h
  have key:∀(n:Nat) (s:St),Nat.rec (motive:=fun _=>St→Prop) (fun _=>False) (fun _ ih s=>swp D c a (fun o s'=>match o with | .normal=>ih s' | o=>Q o s') s) n s→
   ∃o s',Q o s'∧Nat.rec (motive:=fun _=>St→Prop) (fun _=>False) (fun _ ih s=>swp D c a (fun o'' s''=>match o'' with | .normal=>ih s'' | o''=>o'' =o∧s'' =s') s) n s:=by
   intro n
   induction n with
   | zero=>intro s h;exact h.elim
   | succ n ih=>
    intro s h
    obtain⟨o,s1,h1,h2⟩:=iha h
    cases o with
    | normal=>
     obtain⟨o',s2,h3,h4⟩:=ih s1 h1
     refine⟨o',s2,h3,AzT a (fun o s hs=> ?_) h2⟩
     obtain⟨rfl,rfl⟩:=hs
     exact h4
    | exit i=>
     refine⟨_,_,h1,AzT a (fun o s hs=> ?_) h2⟩
     obtain⟨rfl,rfl⟩:=hs
     exact⟨rfl,rfl⟩
    | ret=>
     refine⟨_,_,h1,AzT a (fun o s hs=> ?_) h2⟩
     obtain⟨rfl,rfl⟩:=hs
     exact⟨rfl,rfl⟩
  obtain⟨o,s',h1,h2⟩:=key n s hn
  exact⟨o,s',h1,n,h2⟩
 | exit id=>intro Q s h;exact⟨_,_,h,rfl,rfl⟩
 | ret=>intro Q s h;exact⟨_,_,h,rfl,rfl⟩
 | stuck=>intro Q s h;exact h.elim
end
def AQj (rs:List Res) (n:Nat) (s:St) (Q:V→List O→Prop):Prop:=
 match AkC s rs with
 | none=>False
 | some l=>match give (hp s.H) (tie l)with
  | some (v,0,ks)=>Q v ((List.range n).map fun i=>if ks.contains i then .dead else AhE (hp s.H i))
  | _=>False
def ASk (rs:List Res) (n:Nat) (Q:V→List O→Prop):Out→St→Prop:=fun o s=>match o with | .exit _=>False | _=>AQj rs n s Q
def AU6 (D:Dn) (f:Bp) (args:List V) (given:List O) (Q:V→List O→Prop):Prop:=
 args.length=f.params.length∧given.length=f.ngiven∧swp D ⟨f.bor,f.takes⟩ f.body (ASk f.results f.ngiven Q) (AwN f args given)
section
variable {D:Dn} {c:Cf} {s:St} {Q:V→List O→Prop}
theorem AVZ {f:Bp} {args:List V} {given:List O}:AU6 D f args given Q=
 (args.length=f.params.length∧given.length=f.ngiven∧swp D ⟨f.bor,f.takes⟩ f.body (ASk f.results f.ngiven Q) (AwN f args given)):=rfl
theorem AT6 {rs:List Res} {n:Nat}:ASk rs n Q .normal s=AQj rs n s Q:=rfl
theorem AVn {rs:List Res} {n:Nat}:ASk rs n Q .ret s=AQj rs n s Q:=rfl
theorem AUO {rs:List Res} {n:Nat} {i:Nat}:ASk rs n Q (.exit i) s=False:=rfl
end
def AU7 (n:Nat) (H:Hp) (Q:V→List O→Prop):Option (V×Nat×List Nat)→Prop
 | some (v,0,ks)=>Q v ((List.range n).map fun i=>if ks.contains i then .dead else AhE (H i))
 | _=>False
def AWv (n:Nat) (H:Hp) (Q:V→List O→Prop):Option (List V)→Prop
 | some l=>AU7 n H Q (give H (tie l))
 | none=>False
theorem AUP {rs:List Res} {n:Nat} {s:St} {Q:V→List O→Prop}:AQj rs n s Q=AWv n (hp s.H) Q (AkC s rs):=by
 unfold AQj AWv
 split
 ·rename_i e;rw[e]
 ·rename_i l e
  rw[e]
  dsimp only
  unfold AU7
  split<;>simp_all
theorem AUH {n:Nat} {H:Hp} {Q:V→List O→Prop} {v:V} {ks:List Nat}:AU7 n H Q (some (v,0,ks))=Q v ((List.range n).map fun i=>if ks.contains i then .dead else AhE (H i)):=rfl
theorem AVk {n:Nat} {H:Hp} {Q:V→List O→Prop} {l:List V}:AWv n H Q (some l)=AU7 n H Q (give H (tie l)):=rfl
@[congr] theorem AWn {rs:List Res} {n:Nat} {Q:V→List O→Prop} {o o':Out} {s s':St} (h:o=o') (h':s=s'):ASk rs n Q o s=ASk rs n Q o' s':=by rw[h,h']
attribute [simp] AVZ AT6 AVn AUO AUP AUH AVk
theorem AT8 {D:Dn} {f:Bp} {args:List V} {given:List O} {P:V→List O→Prop} (h:∀Q:V→List O→Prop,(∀v o,P v o→Q v o)→AU6 D f args given Q):
 ∃v o,P v o∧Body D f args given v o:=by
 obtain⟨h1,h2,h3⟩:=h P (fun _ _ h=>h)
 obtain⟨o,s',h4,h5⟩:=AWt f.body h3
 have h6:∃v l,P v l∧(match(generalizing:=false) o with | .exit _=>False | _=>finish f s' v l):=by
  cases o with
  | exit i=>exact h4.elim
  | normal=>
   have h4':AQj f.results f.ngiven s' P:=h4
   unfold AQj at h4'
   split at h4'
   ·exact h4'.elim
   ·rename_i l e1
    split at h4'
    ·rename_i v ks e2
     refine⟨v,_,h4',?_⟩
     show finish f s' v _
     unfold finish
     rw[e1];dsimp only;rw[e2];exact⟨rfl,rfl⟩
    ·exact h4'.elim
  | ret=>
   have h4':AQj f.results f.ngiven s' P:=h4
   unfold AQj at h4'
   split at h4'
   ·exact h4'.elim
   ·rename_i l e1
    split at h4'
    ·rename_i v ks e2
     refine⟨v,_,h4',?_⟩
     show finish f s' v _
     unfold finish
     rw[e1];dsimp only;rw[e2];exact⟨rfl,rfl⟩
    ·exact h4'.elim
 obtain⟨v,l,h7,h8⟩:=h6
 refine⟨v,l,h7,h1,h2,AzT f.body (fun o' s'' hs=> ?_) h5⟩
 obtain⟨rfl,rfl⟩:=hs
 exact h8
end Go.Eng
