/- Own work: part 3 of the proof of FnEvents. -/
import Derived.Test.YtfdnolfnbmnafaaGreatEngB
set_option linter.unusedSimpArgs false
set_option linter.unusedVariables false
namespace Go.Eng
structure Cf where
 bor:Bool
 takes:List Nat
structure Qq where
 op:JQ
 guard:Option (Nat×Bool):=none
 tau:Option (List Nat):=none
 om:List Nat:=[]
 deriving Inhabited
inductive Gh where
 | own (slot k:Nat)
 | ownc (kv off k:Nat)
 | ren (k' k:Nat)
 | untake (s:Nat)
 | drop (k:Nat)
 deriving Inhabited
structure Bl where
 id:Nat
 draw:Bool:=false
 fresh:List Nat:=[]
 ops:List Qq
 sets:List (Nat×Nat):=[]
 JK:List Gh:=[]
 clr:List Nat:=[]
 deriving Inhabited
inductive SC where
 | skip
 | reg (r:Bl)
 | seq (a b:SC)
 | cond (c:Nat) (a b:SC)
 | block (id:Nat) (a:SC)
 | loop (a:SC)
 | exit (id:Nat)
 | ret
 | stuck
 deriving Inhabited
inductive Out where
 | normal
 | exit (id:Nat)
 | ret
 deriving DecidableEq
structure St where
 env:List V
 H:List O
def hp (H:List O):Hp:=fun k=>H.getD k .free
def AoW:List O→Nat→O→List O
 | [],0,o=> [o]
 | [],k+1,o=> .free::AoW [] k o
 | _::r,0,o=>o::r
 | a::r,k+1,o=>a::AoW r k o
def Ahj (H:List O):Gq→List O
 | []=>H
 | (k,o)::r=>Ahj (AoW H k o) r
def m1 (k:Nat):V→Bool
 | .sc _=>false
 | .nil _=>false
 | .sl .. =>false
 | .rptr .. =>false
 | .undef=>false
 | .arr j=>j==k
 | .sub j _ _=>j==k
 | .ptr j _=>j==k
 | _=>true
def m2 (k:Nat):V→Bool
 | .fn _ cs=>cs.any (m1 k)
 | .agg cs=>cs.any (m1 k)
 | v=>m1 k v
def m3 (k:Nat):V→Bool
 | .tup vs=>vs.any (m2 k)
 | v=>m2 k v
def Vm (k:Nat) (v:V):V:=if m3 k v then .undef else v
def Q9 (k:Nat):O→O
 | .var cs=> .var (cs.map (Vm k))
 | .tarr j off e t len cs=>if j=k then .arr e t len cs else .tarr j off e t len cs
 | o=>o
def kill (s:St) (k:Nat):St:=⟨s.env.map (Vm k),(s.H.map (Q9 k)).set k .free⟩
def AfZ (k' k:Nat) (v:V):V:=
 match v with
 | .arr j=>if j=k' then .arr k else v
 | .sub j o l=>if j=k' then .sub k o l else v
 | .ptr j o=>if j=k' then .ptr k o else v
 | v=>if m3 k' v then .undef else v
def Ze (k' k:Nat):O→O
 | .var cs=> .var (cs.map (AfZ k' k))
 | .tarr j off e t len cs=>if j=k' then .tarr k off e t len cs else .tarr j off e t len cs
 | o=>o
def Wv:O→O
 | .tarr _ _ e t len cs=> .arr e t len cs
 | o=>o
def rename (s:St) (k' k:Nat):St:=
 let s:=kill s k
 let o:=s.H.getD k' .free
 ⟨s.env.map (AfZ k' k),((s.H.map (Ze k' k)).set k (Wv (Ze k' k o))).set k' .free⟩
def ghost (s:St):Gh→Option St
 | .own slot k=>match s.env.getD slot .undef,s.H.getD k .dead with
  | .nil e,.free=>some ⟨s.env.set slot (.arr k),s.H.set k (.arr e 0 0 [])⟩
  | _,_=>none
 | .ownc kv off k=>match s.H.getD kv .free,s.H.getD k .dead with
  | .var cs,.free=>match cs.getD off .undef with
   | .nil e=>some ⟨s.env,(s.H.set kv (.var (cs.set off (.arr k)))).set k (.arr e 0 0 [])⟩
   | _=>none
  | _,_=>none
 | .ren k' k=>if k' =k∨s.H.length≤k'∨s.H.length≤k then none else some (rename s k' k)
 | .untake t=>match s.H.getD t .free with
  | .tarr k off e t' len cs=>match s.H.getD k .free with
   | .arr e2 t2 len2 cs2=>if k=t then none else if off<cs2.length then some ⟨s.env,(s.H.set k (.arr e2 (max t2 t') len2 (cs2.set off (.sl 0 e len cs)))).set t .dead⟩else none
   | .tarr k3 o3 e2 t2 len2 cs2=>if k=t then none else if off<cs2.length then some ⟨s.env,(s.H.set k (.tarr k3 o3 e2 (max t2 t') len2 (cs2.set off (.sl 0 e len cs)))).set t .dead⟩else none
   | _=>none
  | _=>none
 | .drop k=>some ⟨s.env,s.H.set k .dead⟩
def JK (s:St):List Gh→Option St
 | []=>some s
 | g::r=>match ghost s g with
  | some s'=>JK s' r
  | none=>none
def clear (env:List V):List Nat→List V
 | []=>env
 | k::r=>clear (env.set k .undef) r
def sets (vals:List V) (env:List V):List (Nat×Nat)→List V
 | []=>env
 | (k,j)::r=>sets vals (env.set k (vals.getD j .undef)) r
def VW (H:Hp) (n:Nat):V→Option (V×List Nat)
 | .sc x=>some (.sc x,[])
 | .sl 3 e len cs=>some (.sl 3 e len cs,[])
 | .arr k=>match Al (H k)with
  | some (_,0,_,_)=>some (.arr n,[k])
  | _=>none
 | _=>none
def Aab (H:Hp) (n:Nat):List V→Option (List V×List Nat)
 | []=>some ([],[])
 | v::r=>match VW H n v with
  | none=>none
  | some (v',ks)=>match Aab (Dp ks H) (n+ks.length) r with
   | none=>none
   | some (r',ks')=>some (v'::r',ks++ks')
def F5:List V→Bool
 | []=>true
 | .sc _::r=>F5 r
 | .sl 3 _ _ _::r=>F5 r
 | _=>false
def Aqy (H:Hp) (n:Nat):V→Option (V×List Nat)
 | .agg cs=>match Aab H n cs with
  | some (cs',ks)=>some (.agg cs',ks)
  | none=>none
 | .ptr k 0=>match H k with
  | .var cs=>if F5 cs then some (.ptr n 0,[k])else none
  | _=>none
 | v=>VW H n v
def Kc (H:Hp) (n:Nat):List (Bool×V)→Option (List Nat)
 | []=>some []
 | (true,v)::r=>match Aqy H n v with
  | none=>none
  | some (_,ks)=>match Kc (Dp ks H) (n+ks.length) r with
   | none=>none
   | some ks'=>some (ks++ks')
 | (false,_)::r=>Kc H n r
def Jp (H Hr:Hp) (n:Nat):List (Bool×V)→Option (List V)
 | []=>some []
 | (true,v)::r=>match Aqy H n v with
  | none=>none
  | some (v',ks)=>match Jp (Dp ks H) Hr (n+ks.length) r with
   | none=>none
   | some r'=>some (v'::r')
 | (false,v)::r=>match ro Hr v with
  | none=>none
  | some v'=>match Jp H Hr n r with
   | none=>none
   | some r'=>some (v'::r')
def Mk:O→O
 | .tarr _ _ e t len cs=> .arr e t len cs
 | o=>o
def At7:O→O→Option O
 | _,.dead=>some .dead
 | .arr e _ len cs,.arr e' 0 len' cs'=>if e' =e∧len' =len∧cs'.length=cs.length then some (.arr e 0 len cs')else none
 | .tarr k o e _ len cs,.arr e' 0 len' cs'=>if e' =e∧len' =len∧cs'.length=cs.length then some (.tarr k o e 0 len cs')else none
 | .var cs,.var cs'=>if cs'.length=cs.length∧F5 cs' then some (.var cs')else none
 | _,_=>none
def XU (H:Hp):List Nat→List O→Option Gq
 | [],[]=>some []
 | k::r,o::s=>match At7 (H k) o,XU H r s with
  | some o',some u=>some ((k,o')::u)
  | _,_=>none
 | _,_=>none
def AIT (H:Hp):List Nat→V→Option (V×Gq×List Nat)
 | ss,.sc x=>some (.sc x,[],ss)
 | s::ss,.sl 0 e len cs=>match H s with
  | .free=>some (.arr s,[(s,.arr e 0 len cs)],ss)
  | _=>none
 | ss,.sl 3 e len cs=>some (.sl 3 e len cs,[],ss)
 | _,_=>none
def AFV (H:Hp):List Nat→List V→Option (List V×Gq×List Nat)
 | ss,[]=>some ([],[],ss)
 | ss,v::r=>match AIT H ss v with
  | none=>none
  | some (v',u,ss')=>match AFV (Dp (u.map (·.1)) H) ss' r with
   | none=>none
   | some (r',u',ss'')=>some (v'::r',u++u',ss'')
def AG6 (H:Hp):List Nat→V→Option (V×Gq×List Nat)
 | ss,.agg cs=>match AFV H ss cs with
  | some (cs',u,ss')=>some (.agg cs',u,ss')
  | none=>none
 | s::ss,.rptr 0 cs 0=>match H s with
  | .free=>if F5 cs then some (.ptr s 0,[(s,.var cs)],ss)else none
  | _=>none
 | ss,v=>AIT H ss v
def AuR (H:Hp):List Nat→List V→Option (List V×Gq×List Nat)
 | ss,[]=>some ([],[],ss)
 | ss,v::r=>match AG6 H ss v with
  | none=>none
  | some (v',u,ss')=>match AuR (Dp (u.map (·.1)) H) ss' r with
   | none=>none
   | some (r',u',ss'')=>some (v'::r',u++u',ss'')
def imp (H:Hp):List Nat→V→Option (V×Gq×List Nat)
 | ss,.tup vs=>match AuR H ss vs with
  | some (vs',u,ss')=>some (.tup vs',u,ss')
  | none=>none
 | ss,v=>AG6 H ss v
abbrev Dn:=Nat→List V→List O→V→List O→Prop
def Ws (c:Cf) (H:Hp) (ks:List Nat):Bool:=
 (!c.bor||ks.all fun k=>match H k with | .var _=>true | _=>false)&&c.takes.all fun s=>match H s with
  | .tarr k _ _ _ _ _=> !ks.contains k
  | _=>true
def W9 (r:Option (V×Gq)) (K:V→Gq→Prop):Prop:=
 match r with
 | some (v,u)=>K v u
 | none=>False
def KA (D:Dn) (c:Cf) (H:Hp) (K:V→Gq→Prop) (g:Nat) (args:List (Bool×V)) (sites:List Nat):Prop:=
 match Kc H 0 args with
 | none=>False
 | some ks=>if Ws c H ks=false then False else match Jp H (Dp ks H) 0 args with
  | none=>False
  | some args'=>∃res outs,D g args' (ks.map fun k=>Mk (H k)) res outs∧
   match XU H ks outs,imp H sites res with
   | some u,some (v,u',_)=>K v (u++u')
   | _,_=>False
def stepW (D:Dn) (c:Cf) (H:Hp) (ev:Src→V) (op:JQ) (K:V→Gq→Prop):Prop:=
 match op with
 | .call g args sites=>KA D c H K g (args.map fun(b,x)=>(b,ev x)) sites
 | .callv f args sites=>match ev f with
  | .fn g caps=>KA D c H K g ((args.map fun(b,x)=>(b,ev x))++caps.map fun v=>(false,v)) sites
  | _=>False
 | .callp g args sites=>KA D ⟨true,c.takes⟩ H K g (args.map fun(b,x)=>(b,ev x)) sites
 | op=>W9 (op1 c.bor c.takes H ev op) K
def masked (t:Option (List Nat)) (H:Hp):Hp:=
 match t with
 | none=>H
 | some l=>fun k=>if l.contains k then H k else .dead
def shp (o:O):Option (Nat×Nat):=(Al o).map fun x=>(x.1,x.2.2.1)
def okU (t:Option (List Nat)) (om:List Nat) (H:Hp) (u:Gq):Bool:=
 match t with
 | none=>true
 | some _=>u.all fun p=>om.contains p.1&&(!om.contains (p.1+100000)||decide (shp (H p.1)=shp p.2))
def IX (D:Dn) (c:Cf) (env:List V):List Qq→List V→List O→(List V→List O→Prop)→Prop
 | [],vals,H,Q=>Q vals H
 | o::r,vals,H,Q=>
  let go:Prop:=stepW D c (masked o.tau (hp H)) (evs vals env) o.op fun v u=>okU o.tau o.om (hp H) u=true∧IX D c env r (vals++ [v]) (Ahj H u) Q
  match o.guard with
  | none=>go
  | some (j,t)=>match vals.getD j .undef with
   | .sc (.bool b)=>if b=t then go else IX D c env r (vals++ [.tup []]) H Q
   | .tup []=>IX D c env r (vals++ [.tup []]) H Q
   | _=>False
def Fu (s:St) (ks:List Nat):St:=ks.foldl kill s
def AEM (D:Dn) (c:Cf) (r:Bl) (Q:St→Prop) (s:St):Prop:=
 let s:=Fu s r.fresh
 IX D c s.env r.ops [] s.H fun vals H=>
  match JK ⟨clear (sets vals s.env r.sets) r.clr,H⟩ r.JK with
  | some s'=>Q s'
  | none=>False
def swp (D:Dn) (c:Cf):SC→(Out→St→Prop)→St→Prop
 | .skip,Q,s=>Q .normal s
 | .reg r,Q,s=>AEM D c r (Q .normal) s
 | .seq a b,Q,s=>swp D c a (fun o s'=>match o with | .normal=>swp D c b Q s' | o=>Q o s') s
 | .cond k a b,Q,s=>match s.env.getD k .undef with
  | .sc (.bool t)=>if t then swp D c a Q ⟨s.env.set k .undef,s.H⟩else swp D c b Q ⟨s.env.set k .undef,s.H⟩
  | _=>False
 | .block id a,Q,s=>swp D c a (fun o s'=>match o with | .exit i=>if i=id then Q .normal s' else Q (.exit i) s' | o=>Q o s') s
 | .loop a,Q,s=>∃n,Nat.rec (motive:=fun _=>St→Prop) (fun _=>False)
  (fun _ ih s=>swp D c a (fun o s'=>match o with | .normal=>ih s' | o=>Q o s') s) n s
 | .exit id,Q,s=>Q (.exit id) s
 | .ret,Q,s=>Q .ret s
 | .stuck,_,_=>False
inductive Res where
 | slot (i:Nat)
 | cell (i:Nat) (n:Option Nat)
 deriving Inhabited
structure Bp where
 nslots:Nat
 nobjs:Nat
 params:List Nat
 ngiven:Nat
 bor:Bool
 takes:List Nat
 body:SC
 results:List Res
def AIJ (s:St):Res→Option V
 | .slot i=>some (s.env.getD i .undef)
 | .cell i n=>match s.env.getD i .undef,n with
  | .ptr k off,none=>match hp s.H k with
   | .var cs=>cs[off]?
   | _=>none
  | .ptr k off,some n=>match hp s.H k with
   | .var cs=>match Iy cs off n with
    | some c=>some (.agg c)
    | none=>none
   | _=>none
  | _,_=>none
def AkC (s:St):List Res→Option (List V)
 | []=>some []
 | r::t=>match AIJ s r,AkC s t with
  | some v,some l=>some (v::l)
  | _,_=>none
def tie:List V→V
 | [v]=>v
 | l=> .tup l
def AhE:O→O
 | .arr e 0 len cs=> .arr e 0 len cs
 | .var cs=>if F5 cs then .var cs else .dead
 | _=> .dead
def finish (f:Bp) (s:St) (res:V) (outs:List O):Prop:=
 match AkC s f.results with
 | none=>False
 | some l=>match give (hp s.H) (tie l)with
  | some (v,0,ks)=>v=res∧outs=(List.range f.ngiven).map fun i=>if ks.contains i then .dead else AhE (hp s.H i)
  | _=>False
def AnH (f:Bp) (args:List V):List V:=sets args (List.replicate f.nslots .undef) (f.params.zipIdx)
def AwN (f:Bp) (args:List V) (given:List O):St:=⟨AnH f args,given++List.replicate (f.nobjs-given.length) .free⟩
def Body (D:Dn) (f:Bp) (args:List V) (given:List O) (res:V) (outs:List O):Prop:=
 args.length=f.params.length∧given.length=f.ngiven∧swp D ⟨f.bor,f.takes⟩ f.body (fun o s=>match o with | .exit _=>False | _=>finish f s res outs) (AwN f args given)
end Go.Eng
