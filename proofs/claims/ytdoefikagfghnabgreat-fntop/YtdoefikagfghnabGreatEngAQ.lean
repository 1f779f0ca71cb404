/- Own work: part 47 of the proof of FnTop. -/
import Derived.Test.YtdoefikagfghnabGreatP46
set_option linter.unusedSimpArgs false
set_option linter.unusedVariables false
namespace Go.Eng
section
variable {D:Dn} {c:Cf}
theorem Akt {H:Hp} {K:V→Ec→Prop} {g:Nat} {args:List (Bool×V)} {sites:List Nat} (hh:Gg D c H K g args sites):
 ∃v u,K v u∧Gg D c H (fun v' u'=>v' =v∧u' =u) g args sites:=by
 unfold Gg at hh
 split at hh
 ·exact hh.elim
 ·rename_i ks hks
  split at hh
  ·exact hh.elim
  ·rename_i hc
   split at hh
   ·exact hh.elim
   ·rename_i args' ha
    obtain⟨res,outs,h1,h2⟩:=hh
    split at h2
    ·rename_i u v u' l e1 e2
     refine⟨v,u++u',h2,?_⟩
     unfold Gg
     rw[hks]
     dsimp only
     rw[if_neg hc,ha]
     dsimp only
     refine⟨res,outs,h1,?_⟩
     rw[e1,e2]
     exact⟨rfl,rfl⟩
    ·exact h2.elim
theorem Ag0 {K:V→Ec→Prop} {r:Option (V×Ec)} (hh:Py r K):∃v u,K v u∧Py r (fun v' u'=>v' =v∧u' =u):=by
 cases r with
 | none=>exact hh.elim
 | some p=>exact⟨p.1,p.2,hh,rfl,rfl⟩
theorem Aur {H:Hp} {ev:Src→V} {op:LD} {K:V→Ec→Prop} (hh:stepW D c H ev op K):∃v u,K v u∧stepW D c H ev op (fun v' u'=>v' =v∧u' =u):=by
 cases op with
 | call g args sites=>exact Akt (D:=D) (c:=c) (H:=H) hh
 | callv f args sites=>
  have h':(match ev f with | .fn g caps=>Gg D c H K g ((args.map fun(b,x)=>(b,ev x))++caps.map fun v=>(false,v)) sites | _=>False):=hh
  split at h'
  ·rename_i g caps e
   obtain⟨v,u,h1,h2⟩:=Akt h'
   refine⟨v,u,h1,?_⟩
   show(match ev f with | .fn g caps=>Gg D c H (fun v' u'=>v' =v∧u' =u) g ((args.map fun(b,x)=>(b,ev x))++caps.map fun v=>(false,v)) sites | _=>False)
   rw[e]
   exact h2
  ·exact h'.elim
 | mv x=>exact Ag0 (r:=some (ev x,[])) hh
 | makeFunc g caps=>exact Ag0 (r:=some (.fn g (caps.map ev),[])) hh
 | _=>exact Ag0 hh
theorem Us {env:List V} {Q:List V→List O→Prop}:∀ {rops:List LF} {vals:List V} {H:List O},Dm D c env rops vals H Q→
 ∃vals' H',Q vals' H'∧Dm D c env rops vals H (fun v h=>v=vals'∧h=H')
 | [],vals,H,hh=>⟨vals,H,hh,rfl,rfl⟩
 | rop::r,vals,H,hh=>by
  unfold Dm at hh
  dsimp only at hh
  have go:stepW D c (masked rop.tau (hp H)) (evs vals env) rop.op (fun v u=>okU rop.tau rop.om (hp H) u=true∧Dm D c env r (vals++ [v]) (WR H u) Q)→
   ∃vals' H',Q vals' H'∧stepW D c (masked rop.tau (hp H)) (evs vals env) rop.op (fun v u=>okU rop.tau rop.om (hp H) u=true∧Dm D c env r (vals++ [v]) (WR H u) (fun v h=>v=vals'∧h=H')):=by
   intro h
   obtain⟨v,u,⟨h1,h2⟩,h3⟩:=Aur h
   obtain⟨vals',H',h4,h5⟩:=Us h2
   exact⟨vals',H',h4,AfK (fun v' u' h=>by obtain⟨rfl,rfl⟩:=h;exact⟨h1,h5⟩) h3⟩
  cases hg:rop.guard with
  | none=>
   rw[hg]at hh
   obtain⟨vals',H',h4,h5⟩:=go hh
   refine⟨vals',H',h4,?_⟩
   unfold Dm
   dsimp only
   rw[hg]
   exact h5
  | some p=>
   obtain⟨j,t⟩:=p
   rw[hg]at hh
   dsimp only at hh
   split at hh
   ·rename_i b e
    split at hh
    ·rename_i hb
     obtain⟨vals',H',h4,h5⟩:=go hh
     refine⟨vals',H',h4,?_⟩
     unfold Dm
     dsimp only
     rw[hg]
     dsimp only
     rw[e]
     dsimp only
     rw[if_pos hb]
     exact h5
    ·rename_i hb
     obtain⟨vals',H',h4,h5⟩:=Us hh
     refine⟨vals',H',h4,?_⟩
     unfold Dm
     dsimp only
     rw[hg]
     dsimp only
     rw[e]
     dsimp only
     rw[if_neg hb]
     exact h5
   ·rename_i e
    obtain⟨vals',H',h4,h5⟩:=Us hh
    refine⟨vals',H',h4,?_⟩
    unfold Dm
    dsimp only
    rw[hg]
    dsimp only
    rw[e]
    exact h5
   ·exact hh.elim
theorem Axo {r:Bu} {Q:St→Prop} {s:St} (hh:AoK D c r Q s):∃s',Q s'∧AoK D c r (fun s''=>s'' =s') s:=by
 obtain⟨vals,H,h1,h2⟩:=Us (D:=D) (c:=c) hh
 split at h1
 ·rename_i s' e
  refine⟨s',h1,Kq (D:=D) (c:=c) (fun v h hv=> ?_) h2⟩
  obtain⟨rfl,rfl⟩:=hv
  rw[e]
 ·exact h1.elim
theorem ACl:∀(sc:SC) {Q:Out→St→Prop} {s:St},swp D c sc Q s→∃o s',Q o s'∧swp D c sc (fun o' s''=>o' =o∧s'' =s') s:=by
 intro sc
 induction sc with
 | skip=>intro Q s h;exact⟨_,_,h,rfl,rfl⟩
 | reg r=>
  intro Q s h
  obtain⟨s',h1,h2⟩:=Axo (Q:=Q .normal) h
  exact⟨.normal,s',h1,Aka (fun s'' hs=>⟨rfl,hs⟩) h2⟩
 | seq a b iha ihb=>
  intro Q s h
  obtain⟨o,s1,h1,h2⟩:=iha h
  cases o with
  | normal=>
   obtain⟨o',s2,h3,h4⟩:=ihb h1
   refine⟨o',s2,h3,Gd a (fun o s hs=> ?_) h2⟩
   obtain⟨rfl,rfl⟩:=hs
   exact h4
  | exit i=>
   refine⟨_,_,h1,Gd a (fun o s hs=> ?_) h2⟩
   obtain⟨rfl,rfl⟩:=hs
   exact⟨rfl,rfl⟩
  | ret=>
   refine⟨_,_,h1,Gd a (fun o s hs=> ?_) h2⟩
   obtain⟨rfl,rfl⟩:=hs
   exact⟨rfl,rfl⟩
 | cond k a b iha ihb=>
  intro Q s h
  have h':(match s.env.getD k .undef with
   | .sc (.bool t)=>if t then swp D c a Q ⟨s.env.set k .undef,s.H⟩else swp D c b Q ⟨s.env.set k .undef,s.H⟩
   | _=>False):=h
  have mk:∀ {Q':Out→St→Prop},(match s.env.getD k .undef with
   | .sc (.bool t)=>if t then swp D c a Q' ⟨s.env.set k .undef,s.H⟩else swp D c b Q' ⟨s.env.set k .undef,s.H⟩
   | _=>False)→swp D c (.cond k a b) Q' s:=fun h=>h
  split at h'
  ·rename_i t e
   split at h'
   ·rename_i hb
    obtain⟨o,s1,h1,h2⟩:=iha h'
    refine⟨o,s1,h1,mk ?_⟩
    rw[e];dsimp only;rw[if_pos hb];exact h2
   ·rename_i hb
    obtain⟨o,s1,h1,h2⟩:=ihb h'
    refine⟨o,s1,h1,mk ?_⟩
    rw[e];dsimp only;rw[if_neg hb];exact h2
  ·exact h'.elim
 | block id a iha=>
  intro Q s h
  obtain⟨o,s1,h1,h2⟩:=iha h
  cases o with
  | normal=>
   refine⟨.normal,s1,h1,Gd a (fun o s hs=> ?_) h2⟩
   obtain⟨rfl,rfl⟩:=hs
   exact⟨rfl,rfl⟩
  | exit i=>
   have h1':if i=id then Q .normal s1 else Q (.exit i) s1:=h1
   split at h1'
   ·rename_i hi
    refine⟨.normal,s1,h1',Gd a (fun o s hs=> ?_) h2⟩
    obtain⟨rfl,rfl⟩:=hs
    show if i=id then _ else _
    rw[if_pos hi];exact⟨rfl,rfl⟩
   ·rename_i hi
    refine⟨.exit i,s1,h1',Gd a (fun o s hs=> ?_) h2⟩
    obtain⟨rfl,rfl⟩:=hs
    show if i=id then _ else _
    rw[if_neg hi];exact⟨rfl,rfl⟩
  | ret=>
   refine⟨.ret,s1,h1,Gd a (fun o s hs=> ?_) h2⟩
   obtain⟨rfl,rfl⟩:=hs
   exact⟨rfl,rfl⟩
 | loop a iha=>
  intro Q s h
  obtain⟨n,hn⟩:=h
  have key:∀(n:Nat) (s:St),Nat.rec (motive:=fun _=>St→Prop) (fun _=>False) (fun _ ih s=>swp D c a (fun o s'=>match o with | .normal=>ih s' | o=>Q o s') s) n s→
   ∃o s',Q o s'∧Nat.rec (motive:=fun _=>St→Prop) (fun _=>False) (fun _ ih s=>swp D c a (fun o'' s''=>match o'' with | .normal=>ih s'' | o''=>o'' =o∧s'' =s') s) n s:=by
   intro n
   induction n with
   | zero=>intro s h;exact h.elim
   | succ n ih=>
    intro s h
    obtain⟨o,s1,h1,h2⟩:=iha h
    cases o with
    | normal=>
     obtain⟨o',s2,h3,h4⟩:=ih s1 h1
     refine⟨o',s2,h3,Gd a (fun o s hs=> ?_) h2⟩
     obtain⟨rfl,rfl⟩:=hs
     exact h4
    | exit i=>
     refine⟨_,_,h1,Gd a (fun o s hs=> ?_) h2⟩
     obtain⟨rfl,rfl⟩:=hs
     exact⟨rfl,rfl⟩
    | ret=>
     refine⟨_,_,h1,Gd a (fun o s hs=> ?_) h2⟩
     obtain⟨rfl,rfl⟩:=hs
     exact⟨rfl,rfl⟩
  obtain⟨o,s',h1,h2⟩:=key n s hn
  exact⟨o,s',h1,n,h2⟩
 | exit id=>intro Q s h;exact⟨_,_,h,rfl,rfl⟩
 | ret=>intro Q s h;exact⟨_,_,h,rfl,rfl⟩
 | stuck=>intro Q s h;exact h.elim
end
def OD (rs:List Res) (n:Nat) (s:St) (Q:V→List O→Prop):Prop:=
 match Xd s rs with
 | none=>False
 | some l=>match give (hp s.H) (tie l)with
  | some (v,0,ks)=>Q v ((List.range n).map fun i=>if ks.contains i then .dead else NS (hp s.H i))
  | _=>False
def AhI (rs:List Res) (n:Nat) (Q:V→List O→Prop):Out→St→Prop:=fun o s=>match o with | .exit _=>False | _=>OD rs n s Q
def AsE (D:Dn) (f:Bw) (args:List V) (given:List O) (Q:V→List O→Prop):Prop:=
 args.length=f.params.length∧given.length=f.ngiven∧swp D ⟨f.bor,f.takes⟩ f.body (AhI f.results f.ngiven Q) (Abg f args given)
section
variable {D:Dn} {c:Cf} {s:St} {Q:V→List O→Prop}
theorem AxP {f:Bw} {args:List V} {given:List O}:AsE D f args given Q=
 (args.length=f.params.length∧given.length=f.ngiven∧swp D ⟨f.bor,f.takes⟩ f.body (AhI f.results f.ngiven Q) (Abg f args given)):=rfl
theorem Amy {rs:List Res} {n:Nat}:AhI rs n Q .normal s=OD rs n s Q:=rfl
theorem At3 {rs:List Res} {n:Nat}:AhI rs n Q .ret s=OD rs n s Q:=rfl
theorem Arl {rs:List Res} {n:Nat} {i:Nat}:AhI rs n Q (.exit i) s=False:=rfl
end
def AsJ (n:Nat) (H:Hp) (Q:V→List O→Prop):Option (V×Nat×List Nat)→Prop
 | some (v,0,ks)=>Q v ((List.range n).map fun i=>if ks.contains i then .dead else NS (H i))
 | _=>False
def ADo (n:Nat) (H:Hp) (Q:V→List O→Prop):Option (List V)→Prop
 | some l=>AsJ n H Q (give H (tie l))
 | none=>False
theorem ApH {rs:List Res} {n:Nat} {s:St} {Q:V→List O→Prop}:OD rs n s Q=ADo n (hp s.H) Q (Xd s rs):=by
 unfold OD ADo
 split
 ·rename_i e;rw[e]
 ·rename_i l e
  rw[e]
  dsimp only
  unfold AsJ
  split<;>simp_all
theorem AqN {n:Nat} {H:Hp} {Q:V→List O→Prop} {v:V} {ks:List Nat}:AsJ n H Q (some (v,0,ks))=Q v ((List.range n).map fun i=>if ks.contains i then .dead else NS (H i)):=rfl
theorem Ava {n:Nat} {H:Hp} {Q:V→List O→Prop} {l:List V}:ADo n H Q (some l)=AsJ n H Q (give H (tie l)):=rfl
@[congr] theorem ABJ {rs:List Res} {n:Nat} {Q:V→List O→Prop} {o o':Out} {s s':St} (h:o=o') (h':s=s'):AhI rs n Q o s=AhI rs n Q o' s':=by rw[h,h']
attribute [simp] AxP Amy At3 Arl ApH AqN Ava
theorem Alf {D:Dn} {f:Bw} {args:List V} {given:List O} {P:V→List O→Prop} (h:∀Q:V→List O→Prop,(∀v o,P v o→Q v o)→AsE D f args given Q):
 ∃v o,P v o∧Body D f args given v o:=by
 obtain⟨h1,h2,h3⟩:=h P (fun _ _ h=>h)
 obtain⟨o,s',h4,h5⟩:=ACl f.body h3
 have h6:∃v l,P v l∧(match(generalizing:=false) o with | .exit _=>False | _=>finish f s' v l):=by
  cases o with
  | exit i=>exact h4.elim
  | normal=>
   have h4':OD f.results f.ngiven s' P:=h4
   unfold OD at h4'
   split at h4'
   ·exact h4'.elim
   ·rename_i l e1
    split at h4'
    ·rename_i v ks e2
     refine⟨v,_,h4',?_⟩
     show finish f s' v _
     unfold finish
     rw[e1];dsimp only;rw[e2];exact⟨rfl,rfl⟩
    ·exact h4'.elim
  | ret=>
   have h4':OD f.results f.ngiven s' P:=h4
   unfold OD at h4'
   split at h4'
   ·exact h4'.elim
   ·rename_i l e1
    split at h4'
    ·rename_i v ks e2
     refine⟨v,_,h4',?_⟩
     show finish f s' v _
     unfold finish
     rw[e1];dsimp only;rw[e2];exact⟨rfl,rfl⟩
    ·exact h4'.elim
 obtain⟨v,l,h7,h8⟩:=h6
 refine⟨v,l,h7,h1,h2,Gd f.body (fun o' s'' hs=> ?_) h5⟩
 obtain⟨rfl,rfl⟩:=hs
 exact h8
end Go.Eng
