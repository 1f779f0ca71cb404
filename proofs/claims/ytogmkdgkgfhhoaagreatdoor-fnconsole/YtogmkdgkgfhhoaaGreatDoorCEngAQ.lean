/- Own work: part 17 of the proof of FnConsole. -/
import Derived.Test.YtogmkdgkgfhhoaaGreatDoorCEngAL
set_option linter.unusedSimpArgs false
set_option linter.unusedVariables false
namespace Go.Eng
section
variable {D:Dn} {c:Cf}
theorem V8 {H:Hp} {K:V->DL->Prop} {g:Nat} {args:List (Bool×V)} {sites:List Nat} (hh:EX D c H K g args sites):
 ∃v u,K v u/\EX D c H (fun v' u'=>v' =v/\u' =u) g args sites:=by
 unfold EX at hh
 split at hh
 ·exact hh.elim
 ·rename_i ks hks
  split at hh
  ·exact hh.elim
  ·rename_i hc
   split at hh
   ·exact hh.elim
   ·rename_i args' ha
    obtain⟨res,outs,h1,h2⟩:=hh
    split at h2
    ·rename_i u v u' l e1 e2
     refine⟨v,u++u',h2,?_⟩
     unfold EX
     rw[hks]
     dsimp only
     rw[if_neg hc,ha]
     dsimp only
     refine⟨res,outs,h1,?_⟩
     rw[e1,e2]
     exact⟨rfl,rfl⟩
    ·exact h2.elim
theorem ZR {K:V->DL->Prop} {r:Option (V×DL)} (hh:LZ r K):∃v u,K v u/\LZ r (fun v' u'=>v' =v/\u' =u):=by
 cases r with
 | none=>exact hh.elim
 | some p=>exact⟨p.1,p.2,hh,rfl,rfl⟩
theorem AkK {H:Hp} {ev:Src->V} {op:LG} {K:V->DL->Prop} (hh:stepW D c H ev op K):∃v u,K v u/\stepW D c H ev op (fun v' u'=>v' =v/\u' =u):=by
 cases op with
 | call g args sites=>exact V8 (D:=D) (c:=c) (H:=H) hh
 | callp g args sites=>exact V8 (D:=D) (c:=⟨true,c.takes⟩) (H:=H) hh
 | callv f args sites=>
  have h':(match ev f with | .fn g caps=>EX D c H K g ((args.map fun(b,x)=>(b,ev x))++caps.map fun v=>(false,v)) sites | _=>False):=hh
  split at h'
  ·rename_i g caps e
   obtain⟨v,u,h1,h2⟩:=V8 h'
   refine⟨v,u,h1,?_⟩
   show(match ev f with | .fn g caps=>EX D c H (fun v' u'=>v' =v/\u' =u) g ((args.map fun(b,x)=>(b,ev x))++caps.map fun v=>(false,v)) sites | _=>False)
   rw[e]
   exact h2
  ·exact h'.elim
 | mv x=>exact ZR (r:=some (ev x,[])) hh
 | makeFunc g caps=>exact ZR (r:=some (.fn g (caps.map ev),[])) hh
 | _=>exact ZR hh
theorem OL {env:List V} {Q:List V->List O->Prop}:∀ {rops:List I7} {vals:List V} {H:List O},Dk D c env rops vals H Q->
 ∃vals' H',Q vals' H'/\Dk D c env rops vals H (fun v h=>v=vals'/\h=H')
 | [],vals,H,hh=>⟨vals,H,hh,rfl,rfl⟩
 | rop::r,vals,H,hh=>by
  unfold Dk at hh
  dsimp only at hh
  have go:stepW D c (masked rop.tau (hp H)) (evs vals env) rop.op (fun v u=>okU rop.tau rop.om (hp H) u=true/\Dk D c env r (vals++ [v]) (Si H u) Q)->
   ∃vals' H',Q vals' H'/\stepW D c (masked rop.tau (hp H)) (evs vals env) rop.op (fun v u=>okU rop.tau rop.om (hp H) u=true/\Dk D c env r (vals++ [v]) (Si H u) (fun v h=>v=vals'/\h=H')):=by
   intro h
   obtain⟨v,u,⟨h1,h2⟩,h3⟩:=AkK h
   obtain⟨vals',H',h4,h5⟩:=OL h2
   exact⟨vals',H',h4,AbQ (fun v' u' h=>by obtain⟨rfl,rfl⟩:=h;exact⟨h1,h5⟩) h3⟩
  cases hg:rop.guard with
  | none=>
   rw[hg]at hh
   obtain⟨vals',H',h4,h5⟩:=go hh
   refine⟨vals',H',h4,?_⟩
   unfold Dk
   dsimp only
   rw[hg]
   exact h5
  | some p=>
   obtain⟨j,t⟩:=p
   rw[hg]at hh
   dsimp only at hh
   split at hh
   ·rename_i b e
    split at hh
    ·rename_i hb
     obtain⟨vals',H',h4,h5⟩:=go hh
     refine⟨vals',H',h4,?_⟩
     unfold Dk
     dsimp only
     rw[hg]
     dsimp only
     rw[e]
     dsimp only
     rw[if_pos hb]
     exact h5
    ·rename_i hb
     obtain⟨vals',H',h4,h5⟩:=OL hh
     refine⟨vals',H',h4,?_⟩
     unfold Dk
     dsimp only
     rw[hg]
     dsimp only
     rw[e]
     dsimp only
     rw[if_neg hb]
     exact h5
   ·rename_i e
    obtain⟨vals',H',h4,h5⟩:=OL hh
    refine⟨vals',H',h4,?_⟩
    unfold Dk
    dsimp only
    rw[hg]
    dsimp only
    rw[e]
    exact h5
   ·exact hh.elim
theorem AmC {r:Ce} {Q:St->Prop} {s:St} (hh:AhA D c r Q s):∃s',Q s'/\AhA D c r (fun s''=>s'' =s') s:=by
 obtain⟨vals,H,h1,h2⟩:=OL (D:=D) (c:=c) hh
 split at h1
 ·rename_i s' e
  refine⟨s',h1,Ig (D:=D) (c:=c) (fun v h hv=> ?_) h2⟩
  obtain⟨rfl,rfl⟩:=hv
  rw[e]
 ·exact h1.elim
theorem Aqg:∀(sc:SC) {Q:Out->St->Prop} {s:St},swp D c sc Q s->∃o s',Q o s'/\swp D c sc (fun o' s''=>o' =o/\s'' =s') s:=by
 intro sc
 induction sc with
 | skip=>intro Q s h;exact⟨_,_,h,rfl,rfl⟩
 | reg r=>
  intro Q s h
  obtain⟨s',h1,h2⟩:=AmC (Q:=Q .normal) h
  exact⟨.normal,s',h1,Adk (fun s'' hs=>⟨rfl,hs⟩) h2⟩
 | seq a b iha ihb=>
  intro Q s h
  obtain⟨o,s1,h1,h2⟩:=iha h
  cases o with
  | normal=>
   obtain⟨o',s2,h3,h4⟩:=ihb h1
   refine⟨o',s2,h3,F5 a (fun o s hs=> ?_) h2⟩
   obtain⟨rfl,rfl⟩:=hs
   exact h4
  | exit i=>
   refine⟨_,_,h1,F5 a (fun o s hs=> ?_) h2⟩
   obtain⟨rfl,rfl⟩:=hs
   exact⟨rfl,rfl⟩
  | ret=>
   refine⟨_,_,h1,F5 a (fun o s hs=> ?_) h2⟩
   obtain⟨rfl,rfl⟩:=hs
   exact⟨rfl,rfl⟩
 | cond k a b iha ihb=>
  intro Q s h
  have h':(match s.env.getD k .undef with
   | .sc (.bool t)=>if t then swp D c a Q ⟨s.env.set k .undef,s.H⟩else swp D c b Q ⟨s.env.set k .undef,s.H⟩
   | _=>False):=h
  have mk:∀ {Q':Out->St->Prop},(match s.env.getD k .undef with
   | .sc (.bool t)=>if t then swp D c a Q' ⟨s.env.set k .undef,s.H⟩else swp D c b Q' ⟨s.env.set k .undef,s.H⟩
   | _=>False)->swp D c (.cond k a b) Q' s:=fun h=>h
  split at h'
  ·rename_i t e
   split at h'
   ·rename_i hb
    obtain⟨o,s1,h1,h2⟩:=iha h'
    refine⟨o,s1,h1,mk ?_⟩
    rw[e];dsimp only;rw[if_pos hb];exact h2
   ·rename_i hb
    obtain⟨o,s1,h1,h2⟩:=ihb h'
    refine⟨o,s1,h1,mk ?_⟩
    rw[e];dsimp only;rw[if_neg hb];exact h2
  ·exact h'.elim
 | block id a iha=>
  intro Q s h
  obtain⟨o,s1,h1,h2⟩:=iha h
  cases o with
  | normal=>
   refine⟨.normal,s1,h1,F5 a (fun o s hs=> ?_) h2⟩
   obtain⟨rfl,rfl⟩:=hs
   exact⟨rfl,rfl⟩
  | exit i=>
   have h1':if i=id then Q .normal s1 else Q (.exit i) s1:=h1
   split at h1'
   ·rename_i hi
    refine⟨.normal,s1,h1',F5 a (fun o s hs=> ?_) h2⟩
    obtain⟨rfl,rfl⟩:=hs
    show if i=id then _ else _
    rw[if_pos hi];exact⟨rfl,rfl⟩
   ·rename_i hi
    refine⟨.exit i,s1,h1',F5 a (fun o s hs=> ?_) h2⟩
    obtain⟨rfl,rfl⟩:=hs
    show if i=id then _ else _
    rw[if_neg hi];exact⟨rfl,rfl⟩
  | ret=>
   refine⟨.ret,s1,h1,F5 a (fun o s hs=> ?_) h2⟩
   obtain⟨rfl,rfl⟩:=hs
   exact⟨rfl,rfl⟩
 | loop a iha=>
  intro Q s h
  obtain⟨n,hn⟩:=h
  have key:∀(n:Nat) (s:St),Nat.rec (motive:=fun _=>St->Prop) (fun _=>False) (fun _ ih s=>swp D c a (fun o s'=>match o with | .normal=>ih s' | o=>Q o s') s) n s->
   ∃o s',Q o s'/\Nat.rec (motive:=fun _=>St->Prop) (fun _=>False) (fun _ ih s=>swp D c a (fun o'' s''=>match o'' with | .normal=>ih s'' | o''=>o'' =o/\s'' =s') s) n s:=by
   intro n
   induction n with
   | zero=>intro s h;exact h.elim
   | succ n ih=>
    intro s h
    obtain⟨o,s1,h1,h2⟩:=iha h
    cases o with
    | normal=>
     obtain⟨o',s2,h3,h4⟩:=ih s1 h1
     refine⟨o',s2,h3,F5 a (fun o s hs=> ?_) h2⟩
     obtain⟨rfl,rfl⟩:=hs
     exact h4
    | exit i=>
     refine⟨_,_,h1,F5 a (fun o s hs=> ?_) h2⟩
     obtain⟨rfl,rfl⟩:=hs
     exact⟨rfl,rfl⟩
    | ret=>
     refine⟨_,_,h1,F5 a (fun o s hs=> ?_) h2⟩
     obtain⟨rfl,rfl⟩:=hs
     exact⟨rfl,rfl⟩
  obtain⟨o,s',h1,h2⟩:=key n s hn
  exact⟨o,s',h1,n,h2⟩
 | exit id=>intro Q s h;exact⟨_,_,h,rfl,rfl⟩
 | ret=>intro Q s h;exact⟨_,_,h,rfl,rfl⟩
 | stuck=>intro Q s h;exact h.elim
end
def Ls (rs:List Res) (n:Nat) (s:St) (Q:V->List O->Prop):Prop:=
 match Tf s rs with
 | none=>False
 | some l=>match give (hp s.H) (tie l)with
  | some (v,0,ks)=>Q v ((List.range n).map fun i=>if ks.contains i then .dead else Cu (hp s.H i))
  | _=>False
def AbH (rs:List Res) (n:Nat) (Q:V->List O->Prop):Out->St->Prop:=fun o s=>match o with | .exit _=>False | _=>Ls rs n s Q
def Aju (D:Dn) (f:Cm) (args:List V) (given:List O) (Q:V->List O->Prop):Prop:=
 args.length=f.params.length/\given.length=f.ngiven/\swp D ⟨f.bor,f.takes⟩ f.body (AbH f.results f.ngiven Q) (Xc f args given)
section
variable {D:Dn} {c:Cf} {s:St} {Q:V->List O->Prop}
theorem AmH {f:Cm} {args:List V} {given:List O}:Aju D f args given Q=
 (args.length=f.params.length/\given.length=f.ngiven/\swp D ⟨f.bor,f.takes⟩ f.body (AbH f.results f.ngiven Q) (Xc f args given)):=rfl
theorem AeD {rs:List Res} {n:Nat}:AbH rs n Q .normal s=Ls rs n s Q:=rfl
theorem Aky {rs:List Res} {n:Nat}:AbH rs n Q .ret s=Ls rs n s Q:=rfl
theorem Aib {rs:List Res} {n:Nat} {i:Nat}:AbH rs n Q (.exit i) s=False:=rfl
end
def Ajr (n:Nat) (H:Hp) (Q:V->List O->Prop):Option (V×Nat×List Nat)->Prop
 | some (v,0,ks)=>Q v ((List.range n).map fun i=>if ks.contains i then .dead else Cu (H i))
 | _=>False
def ApT (n:Nat) (H:Hp) (Q:V->List O->Prop):Option (List V)->Prop
 | some l=>Ajr n H Q (give H (tie l))
 | none=>False
theorem AhW {rs:List Res} {n:Nat} {s:St} {Q:V->List O->Prop}:Ls rs n s Q=ApT n (hp s.H) Q (Tf s rs):=by
 unfold Ls ApT
 split
 ·rename_i e;rw[e]
 ·rename_i l e
  rw[e]
  dsimp only
  unfold Ajr
  split<;>simp_all
theorem Aic {n:Nat} {H:Hp} {Q:V->List O->Prop} {v:V} {ks:List Nat}:Ajr n H Q (some (v,0,ks))=Q v ((List.range n).map fun i=>if ks.contains i then .dead else Cu (H i)):=rfl
theorem Alk {n:Nat} {H:Hp} {Q:V->List O->Prop} {l:List V}:ApT n H Q (some l)=Ajr n H Q (give H (tie l)):=rfl
@[congr] theorem Apn {rs:List Res} {n:Nat} {Q:V->List O->Prop} {o o':Out} {s s':St} (h:o=o') (h':s=s'):AbH rs n Q o s=AbH rs n Q o' s':=by rw[h,h']
attribute [simp] AmH AeD Aky Aib AhW Aic Alk
theorem Afh {D:Dn} {f:Cm} {args:List V} {given:List O} {P:V->List O->Prop} (h:∀Q:V->List O->Prop,(∀v o,P v o->Q v o)->Aju D f args given Q):
 ∃v o,P v o/\Body D f args given v o:=by
 obtain⟨h1,h2,h3⟩:=h P (fun _ _ h=>h)
 obtain⟨o,s',h4,h5⟩:=Aqg f.body h3
 have h6:∃v l,P v l/\(match(generalizing:=false) o with | .exit _=>False | _=>finish f s' v l):=by
  cases o with
  | exit i=>exact h4.elim
  | normal=>
   have h4':Ls f.results f.ngiven s' P:=h4
   unfold Ls at h4'
   split at h4'
   ·exact h4'.elim
   ·rename_i l e1
    split at h4'
    ·rename_i v ks e2
     refine⟨v,_,h4',?_⟩
     show finish f s' v _
     unfold finish
     rw[e1];dsimp only;rw[e2];exact⟨rfl,rfl⟩
    ·exact h4'.elim
  | ret=>
   have h4':Ls f.results f.ngiven s' P:=h4
   unfold Ls at h4'
   split at h4'
   ·exact h4'.elim
   ·rename_i l e1
    split at h4'
    ·rename_i v ks e2
     refine⟨v,_,h4',?_⟩
     show finish f s' v _
     unfold finish
     rw[e1];dsimp only;rw[e2];exact⟨rfl,rfl⟩
    ·exact h4'.elim
 obtain⟨v,l,h7,h8⟩:=h6
 refine⟨v,l,h7,h1,h2,F5 f.body (fun o' s'' hs=> ?_) h5⟩
 obtain⟨rfl,rfl⟩:=hs
 exact h8
end Go.Eng
namespace Go.Eng
open Go.ChangeShapes Go.WideShapes Go.RowKit
def AeK (W:World):Gl:=⟨fun b=>b<W.heap.size,fun b=>W.heap[b]?⟩
def AbC (as:List V):Prop:=∃c,Dat (.sl (.int .u8)) [c]/\as=[AO 3 c]
section
variable {H:Type} {enc:TypeId×Value->H} {P:Program} {W w':World} {base:Nat} {Ae:Nat->Option FuncId}
theorem Alq {β:Nat->Base} {own:Nat->Option (Nat×List Nat)} {Hh:Hp} {ts:List TypeId} {vs:List Value} {ds:List (DataW H)} {p:List MemPlace} (hy:Vd P [.sl (.int .u8)] ts=true)
 (hval:∀(j:Nat) t v,ts[j]? =some t->vs[j]? =some v->Value.okWide P W .any base t v) (h:DataW.TrodAll enc P W 0 (fun _=>true) true ts vs ds p):
 ∃as,AbC as/\Pw (VR (VB Ae (AeK W) W) β own Hh W) as vs:=by
 cases ts with
 | nil=>simp[Vd]at hy
 | cons t ts=>
  simp only[Vd,Bool.and_eq_true]at hy
  obtain⟨hy1,hy2⟩:=hy
  cases ts with
  | cons _ _=>simp[Vd]at hy2
  | nil=>
   obtain⟨v,vs',d,ds',p,q,rfl,rfl,rfl,h1,h2⟩:=trodAll_cons h
   obtain⟨rfl,_,_⟩:=trodAll_nil h2
   have hv:=hval 0 t v rfl rfl
   obtain⟨fuel,hf⟩:=h1
   obtain⟨xs,g1,g2,g3⟩:=Aee (Ae:=Ae) (.sl (.int .u8)) t fuel _ _ hy1 hf
   have hu:∃e,P.underlying t=some (.slice e):=by
    simp only[tyB]at hy1
    split at hy1
    ·exact⟨_,‹_›⟩
    ·cases hy1
   obtain⟨e,hu⟩:=hu
   obtain⟨a,l,c,rfl⟩:=okWide_slice hu hv
   have hc:(Value.slice a l c).cells.toList=[.slice a l c]:=rfl
   rw[hc]at g2
   have hl:xs.length=1:=ZK g1
   obtain⟨cc,rfl⟩:=List.length_eq_one_iff.1 hl
   refine⟨[AO 3 cc],⟨cc,g1,rfl⟩,XA ?_⟩
   have hr:=g2.2 0 cc _ rfl rfl
   have hd:=Am9 g1 cc (by simp)
   cases cc with
   | sc v=>cases hr with | sc h1=>exact .sc h1
   | sl fl e len cells=>
    refine .rd (by omega) ?_
    have:=hr.flag (fl:=3)
    exact Rd.move this (fun b hb=>hb) (fun _ _=>rfl)
   | _=>exact absurd hd (by simp[DC])
end
end Go.Eng
