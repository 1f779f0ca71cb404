/- Own work: part 3 of the proof of FnExactApplyEvent. -/
import Derived.Test.YtdoefikagfghnaaGreatEngB
set_option linter.unusedSimpArgs false
set_option linter.unusedVariables false
namespace Go.Eng
structure Cf where
 bor:Bool
 takes:List Nat
structure Oy where
 op:Ki
 guard:Option (Nat×Bool):=none
 tau:Option (List Nat):=none
 om:List Nat:=[]
 deriving Inhabited
inductive Gh where
 | own (slot k:Nat)
 | ownc (kv off k:Nat)
 | ren (k' k:Nat)
 | untake (s:Nat)
 | drop (k:Nat)
 deriving Inhabited
structure Bc where
 id:Nat
 draw:Bool:=false
 fresh:List Nat:=[]
 ops:List Oy
 sets:List (Nat×Nat):=[]
 Ie:List Gh:=[]
 clr:List Nat:=[]
 deriving Inhabited
inductive SC where
 | skip
 | reg (r:Bc)
 | seq (a b:SC)
 | cond (c:Nat) (a b:SC)
 | block (id:Nat) (a:SC)
 | loop (a:SC)
 | exit (id:Nat)
 | ret
 | stuck
 deriving Inhabited
inductive Out where
 | normal
 | exit (id:Nat)
 | ret
 deriving DecidableEq
structure St where
 env:List V
 H:List O
def hp (H:List O):Hp:=fun k=>H.getD k .free
def Ai9:List O→Nat→O→List O
 | [],0,o=> [o]
 | [],k+1,o=> .free::Ai9 [] k o
 | _::r,0,o=>o::r
 | a::r,k+1,o=>a::Ai9 r k o
def Ack (H:List O):Fb→List O
 | []=>H
 | (k,o)::r=>Ack (Ai9 H k o) r
def m1 (k:Nat):V→Bool
 | .sc _=>false
 | .nil _=>false
 | .sl .. =>false
 | .rptr .. =>false
 | .undef=>false
 | .arr j=>j==k
 | .sub j _ _=>j==k
 | .ptr j _=>j==k
 | _=>true
def m2 (k:Nat):V→Bool
 | .fn _ cs=>cs.any (m1 k)
 | .agg cs=>cs.any (m1 k)
 | v=>m1 k v
def m3 (k:Nat):V→Bool
 | .tup vs=>vs.any (m2 k)
 | v=>m2 k v
def RU (k:Nat) (v:V):V:=if m3 k v then .undef else v
def O4 (k:Nat):O→O
 | .var cs=> .var (cs.map (RU k))
 | .tarr j off e t len cs=>if j=k then .arr e t len cs else .tarr j off e t len cs
 | o=>o
def kill (s:St) (k:Nat):St:=⟨s.env.map (RU k),(s.H.map (O4 k)).set k .free⟩
def AbP (k' k:Nat) (v:V):V:=
 match v with
 | .arr j=>if j=k' then .arr k else v
 | .sub j o l=>if j=k' then .sub k o l else v
 | .ptr j o=>if j=k' then .ptr k o else v
 | v=>if m3 k' v then .undef else v
def Wn (k' k:Nat):O→O
 | .var cs=> .var (cs.map (AbP k' k))
 | .tarr j off e t len cs=>if j=k' then .tarr k off e t len cs else .tarr j off e t len cs
 | o=>o
def Tz:O→O
 | .tarr _ _ e t len cs=> .arr e t len cs
 | o=>o
def rename (s:St) (k' k:Nat):St:=
 let s:=kill s k
 let o:=s.H.getD k' .free
 ⟨s.env.map (AbP k' k),((s.H.map (Wn k' k)).set k (Tz (Wn k' k o))).set k' .free⟩
def ghost (s:St):Gh→Option St
 | .own slot k=>match s.env.getD slot .undef,s.H.getD k .dead with
  | .nil e,.free=>some ⟨s.env.set slot (.arr k),s.H.set k (.arr e 0 0 [])⟩
  | _,_=>none
 | .ownc kv off k=>match s.H.getD kv .free,s.H.getD k .dead with
  | .var cs,.free=>match cs.getD off .undef with
   | .nil e=>some ⟨s.env,(s.H.set kv (.var (cs.set off (.arr k)))).set k (.arr e 0 0 [])⟩
   | _=>none
  | _,_=>none
 | .ren k' k=>if k' =k∨s.H.length≤k'∨s.H.length≤k then none else some (rename s k' k)
 | .untake t=>match s.H.getD t .free with
  | .tarr k off e t' len cs=>match s.H.getD k .free with
   | .arr e2 t2 len2 cs2=>if k=t then none else if off<cs2.length then some ⟨s.env,(s.H.set k (.arr e2 (max t2 t') len2 (cs2.set off (.sl 0 e len cs)))).set t .dead⟩else none
   | .tarr k3 o3 e2 t2 len2 cs2=>if k=t then none else if off<cs2.length then some ⟨s.env,(s.H.set k (.tarr k3 o3 e2 (max t2 t') len2 (cs2.set off (.sl 0 e len cs)))).set t .dead⟩else none
   | _=>none
  | _=>none
 | .drop k=>some ⟨s.env,s.H.set k .dead⟩
def Ie (s:St):List Gh→Option St
 | []=>some s
 | g::r=>match ghost s g with
  | some s'=>Ie s' r
  | none=>none
def clear (env:List V):List Nat→List V
 | []=>env
 | k::r=>clear (env.set k .undef) r
def sets (vals:List V) (env:List V):List (Nat×Nat)→List V
 | []=>env
 | (k,j)::r=>sets vals (env.set k (vals.getD j .undef)) r
def Ti (H:Hp) (n:Nat):V→Option (V×List Nat)
 | .sc x=>some (.sc x,[])
 | .sl 3 e len cs=>some (.sl 3 e len cs,[])
 | .arr k=>match Ah (H k)with
  | some (_,0,_,_)=>some (.arr n,[k])
  | _=>none
 | _=>none
def Xl (H:Hp) (n:Nat):List V→Option (List V×List Nat)
 | []=>some ([],[])
 | v::r=>match Ti H n v with
  | none=>none
  | some (v',ks)=>match Xl (CK ks H) (n+ks.length) r with
   | none=>none
   | some (r',ks')=>some (v'::r',ks++ks')
def EG:List V→Bool
 | []=>true
 | .sc _::r=>EG r
 | .sl 3 _ _ _::r=>EG r
 | _=>false
def Aj8 (H:Hp) (n:Nat):V→Option (V×List Nat)
 | .agg cs=>match Xl H n cs with
  | some (cs',ks)=>some (.agg cs',ks)
  | none=>none
 | .ptr k 0=>match H k with
  | .var cs=>if EG cs then some (.ptr n 0,[k])else none
  | _=>none
 | v=>Ti H n v
def J4 (H:Hp) (n:Nat):List (Bool×V)→Option (List Nat)
 | []=>some []
 | (true,v)::r=>match Aj8 H n v with
  | none=>none
  | some (_,ks)=>match J4 (CK ks H) (n+ks.length) r with
   | none=>none
   | some ks'=>some (ks++ks')
 | (false,_)::r=>J4 H n r
def IV (H Hr:Hp) (n:Nat):List (Bool×V)→Option (List V)
 | []=>some []
 | (true,v)::r=>match Aj8 H n v with
  | none=>none
  | some (v',ks)=>match IV (CK ks H) Hr (n+ks.length) r with
   | none=>none
   | some r'=>some (v'::r')
 | (false,v)::r=>match ro Hr v with
  | none=>none
  | some v'=>match IV H Hr n r with
   | none=>none
   | some r'=>some (v'::r')
def MH:O→O
 | .tarr _ _ e t len cs=> .arr e t len cs
 | o=>o
def AnF:O→O→Option O
 | _,.dead=>some .dead
 | .arr e _ len cs,.arr e' 0 len' cs'=>if e' =e∧len' =len∧cs'.length=cs.length then some (.arr e 0 len cs')else none
 | .tarr k o e _ len cs,.arr e' 0 len' cs'=>if e' =e∧len' =len∧cs'.length=cs.length then some (.tarr k o e 0 len cs')else none
 | .var cs,.var cs'=>if cs'.length=cs.length∧EG cs' then some (.var cs')else none
 | _,_=>none
def Xb (H:Hp):List Nat→List O→Option Fb
 | [],[]=>some []
 | k::r,o::s=>match AnF (H k) o,Xb H r s with
  | some o',some u=>some ((k,o')::u)
  | _,_=>none
 | _,_=>none
def ABC (H:Hp):List Nat→V→Option (V×Fb×List Nat)
 | ss,.sc x=>some (.sc x,[],ss)
 | s::ss,.sl 0 e len cs=>match H s with
  | .free=>some (.arr s,[(s,.arr e 0 len cs)],ss)
  | _=>none
 | ss,.sl 3 e len cs=>some (.sl 3 e len cs,[],ss)
 | _,_=>none
def Ayl (H:Hp):List Nat→List V→Option (List V×Fb×List Nat)
 | ss,[]=>some ([],[],ss)
 | ss,v::r=>match ABC H ss v with
  | none=>none
  | some (v',u,ss')=>match Ayl (CK (u.map (·.1)) H) ss' r with
   | none=>none
   | some (r',u',ss'')=>some (v'::r',u++u',ss'')
def Az5 (H:Hp):List Nat→V→Option (V×Fb×List Nat)
 | ss,.agg cs=>match Ayl H ss cs with
  | some (cs',u,ss')=>some (.agg cs',u,ss')
  | none=>none
 | s::ss,.rptr 0 cs 0=>match H s with
  | .free=>if EG cs then some (.ptr s 0,[(s,.var cs)],ss)else none
  | _=>none
 | ss,v=>ABC H ss v
def AnW (H:Hp):List Nat→List V→Option (List V×Fb×List Nat)
 | ss,[]=>some ([],[],ss)
 | ss,v::r=>match Az5 H ss v with
  | none=>none
  | some (v',u,ss')=>match AnW (CK (u.map (·.1)) H) ss' r with
   | none=>none
   | some (r',u',ss'')=>some (v'::r',u++u',ss'')
def imp (H:Hp):List Nat→V→Option (V×Fb×List Nat)
 | ss,.tup vs=>match AnW H ss vs with
  | some (vs',u,ss')=>some (.tup vs',u,ss')
  | none=>none
 | ss,v=>Az5 H ss v
abbrev Dn:=Nat→List V→List O→V→List O→Prop
def Aau (c:Cf) (H:Hp) (ks:List Nat):Bool:=
 (!c.bor||ks.all fun k=>match H k with | .var _=>true | _=>false)&&c.takes.all fun s=>match H s with
  | .tarr k _ _ _ _ _=> !ks.contains k
  | _=>true
def Uj (r:Option (V×Fb)) (K:V→Fb→Prop):Prop:=
 match r with
 | some (v,u)=>K v u
 | none=>False
def KJ (D:Dn) (c:Cf) (H:Hp) (K:V→Fb→Prop) (g:Nat) (args:List (Bool×V)) (sites:List Nat):Prop:=
 match J4 H 0 args with
 | none=>False
 | some ks=>if Aau c H ks=false then False else match IV H (CK ks H) 0 args with
  | none=>False
  | some args'=>∃res outs,D g args' (ks.map fun k=>MH (H k)) res outs∧
   match Xb H ks outs,imp H sites res with
   | some u,some (v,u',_)=>K v (u++u')
   | _,_=>False
def stepW (D:Dn) (c:Cf) (H:Hp) (ev:Src→V) (op:Ki) (K:V→Fb→Prop):Prop:=
 match op with
 | .call g args sites=>KJ D c H K g (args.map fun(b,x)=>(b,ev x)) sites
 | .callv f args sites=>match ev f with
  | .fn g caps=>KJ D c H K g ((args.map fun(b,x)=>(b,ev x))++caps.map fun v=>(false,v)) sites
  | _=>False
 | op=>Uj (op1 c.bor c.takes H ev op) K
def masked (t:Option (List Nat)) (H:Hp):Hp:=
 match t with
 | none=>H
 | some l=>fun k=>if l.contains k then H k else .dead
def shp (o:O):Option (Nat×Nat):=(Ah o).map fun x=>(x.1,x.2.2.1)
def okU (t:Option (List Nat)) (om:List Nat) (H:Hp) (u:Fb):Bool:=
 match t with
 | none=>true
 | some _=>u.all fun p=>om.contains p.1&&(!om.contains (p.1+100000)||decide (shp (H p.1)=shp p.2))
def Gy (D:Dn) (c:Cf) (env:List V):List Oy→List V→List O→(List V→List O→Prop)→Prop
 | [],vals,H,Q=>Q vals H
 | o::r,vals,H,Q=>
  let go:Prop:=stepW D c (masked o.tau (hp H)) (evs vals env) o.op fun v u=>okU o.tau o.om (hp H) u=true∧Gy D c env r (vals++ [v]) (Ack H u) Q
  match o.guard with
  | none=>go
  | some (j,t)=>match vals.getD j .undef with
   | .sc (.bool b)=>if b=t then go else Gy D c env r (vals++ [.tup []]) H Q
   | .tup []=>Gy D c env r (vals++ [.tup []]) H Q
   | _=>False
def Ej (s:St) (ks:List Nat):St:=ks.foldl kill s
def Ayn (D:Dn) (c:Cf) (r:Bc) (Q:St→Prop) (s:St):Prop:=
 let s:=Ej s r.fresh
 Gy D c s.env r.ops [] s.H fun vals H=>
  match Ie ⟨clear (sets vals s.env r.sets) r.clr,H⟩ r.Ie with
  | some s'=>Q s'
  | none=>False
def swp (D:Dn) (c:Cf):SC→(Out→St→Prop)→St→Prop
 | .skip,Q,s=>Q .normal s
 | .reg r,Q,s=>Ayn D c r (Q .normal) s
 | .seq a b,Q,s=>swp D c a (fun o s'=>match o with | .normal=>swp D c b Q s' | o=>Q o s') s
 | .cond k a b,Q,s=>match s.env.getD k .undef with
  | .sc (.bool t)=>if t then swp D c a Q ⟨s.env.set k .undef,s.H⟩else swp D c b Q ⟨s.env.set k .undef,s.H⟩
  | _=>False
 | .block id a,Q,s=>swp D c a (fun o s'=>match o with | .exit i=>if i=id then Q .normal s' else Q (.exit i) s' | o=>Q o s') s
 | .loop a,Q,s=>∃n,Nat.rec (motive:=fun _=>St→Prop) (fun _=>False)
  (fun _ ih s=>swp D c a (fun o s'=>match o with | .normal=>ih s' | o=>Q o s') s) n s
 | .exit id,Q,s=>Q (.exit id) s
 | .ret,Q,s=>Q .ret s
 | .stuck,_,_=>False
inductive Res where
 | slot (i:Nat)
 | cell (i:Nat) (n:Option Nat)
 deriving Inhabited
structure Bh where
 nslots:Nat
 nobjs:Nat
 params:List Nat
 ngiven:Nat
 bor:Bool
 takes:List Nat
 body:SC
 results:List Res
def AAO (s:St):Res→Option V
 | .slot i=>some (s.env.getD i .undef)
 | .cell i n=>match s.env.getD i .undef,n with
  | .ptr k off,none=>match hp s.H k with
   | .var cs=>cs[off]?
   | _=>none
  | .ptr k off,some n=>match hp s.H k with
   | .var cs=>match Gj cs off n with
    | some c=>some (.agg c)
    | none=>none
   | _=>none
  | _,_=>none
def AfL (s:St):List Res→Option (List V)
 | []=>some []
 | r::t=>match AAO s r,AfL s t with
  | some v,some l=>some (v::l)
  | _,_=>none
def tie:List V→V
 | [v]=>v
 | l=> .tup l
def AF5:O→O
 | .arr e 0 len cs=> .arr e 0 len cs
 | .var cs=>if EG cs then .var cs else .dead
 | _=> .dead
def finish (f:Bh) (s:St) (res:V) (outs:List O):Prop:=
 match AfL s f.results with
 | none=>False
 | some l=>match give (hp s.H) (tie l)with
  | some (v,0,ks)=>v=res∧outs=(List.range f.ngiven).map fun i=>if ks.contains i then .dead else AF5 (hp s.H i)
  | _=>False
def Ah9 (f:Bh) (args:List V):List V:=sets args (List.replicate f.nslots .undef) (f.params.zipIdx)
def Aql (f:Bh) (args:List V) (given:List O):St:=⟨Ah9 f args,given++List.replicate (f.nobjs-given.length) .free⟩
def Body (D:Dn) (f:Bh) (args:List V) (given:List O) (res:V) (outs:List O):Prop:=
 args.length=f.params.length∧given.length=f.ngiven∧swp D ⟨f.bor,f.takes⟩ f.body (fun o s=>match o with | .exit _=>False | _=>finish f s res outs) (Aql f args given)
end Go.Eng
