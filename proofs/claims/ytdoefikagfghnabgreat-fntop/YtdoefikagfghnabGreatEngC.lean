/- Own work: part 3 of the proof of FnTop. -/
import Derived.Test.YtdoefikagfghnabGreatEngB
set_option linter.unusedSimpArgs false
set_option linter.unusedVariables false
namespace Go.Eng
structure Cf where
 bor:Bool
 takes:List Nat
structure LF where
 op:LD
 guard:Option (Nat×Bool):=none
 tau:Option (List Nat):=none
 om:List Nat:=[]
 deriving Inhabited
inductive Gh where
 | own (slot k:Nat)
 | ownc (kv off k:Nat)
 | ren (k' k:Nat)
 | untake (s:Nat)
 | drop (k:Nat)
 deriving Inhabited
structure Bu where
 id:Nat
 draw:Bool:=false
 fresh:List Nat:=[]
 ops:List LF
 sets:List (Nat×Nat):=[]
 F9:List Gh:=[]
 clr:List Nat:=[]
 deriving Inhabited
inductive SC where
 | skip
 | reg (r:Bu)
 | seq (a b:SC)
 | cond (c:Nat) (a b:SC)
 | block (id:Nat) (a:SC)
 | loop (a:SC)
 | exit (id:Nat)
 | ret
 | stuck
 deriving Inhabited
inductive Out where
 | normal
 | exit (id:Nat)
 | ret
 deriving DecidableEq
structure St where
 env:List V
 H:List O
def hp (H:List O):Hp:=fun k=>H.getD k .free
def AgH:List O→Nat→O→List O
 | [],0,o=> [o]
 | [],k+1,o=> .free::AgH [] k o
 | _::r,0,o=>o::r
 | a::r,k+1,o=>a::AgH r k o
def WR (H:List O):Ec→List O
 | []=>H
 | (k,o)::r=>WR (AgH H k o) r
def m1 (k:Nat):V→Bool
 | .sc _=>false
 | .nil _=>false
 | .sl .. =>false
 | .rptr .. =>false
 | .undef=>false
 | .arr j=>j==k
 | .sub j _ _=>j==k
 | .ptr j _=>j==k
 | _=>true
def m2 (k:Nat):V→Bool
 | .fn _ cs=>cs.any (m1 k)
 | .agg cs=>cs.any (m1 k)
 | v=>m1 k v
def m3 (k:Nat):V→Bool
 | .tup vs=>vs.any (m2 k)
 | v=>m2 k v
def O8 (k:Nat) (v:V):V:=if m3 k v then .undef else v
def Nv (k:Nat):O→O
 | .var cs=> .var (cs.map (O8 k))
 | .tarr j off e t len cs=>if j=k then .arr e t len cs else .tarr j off e t len cs
 | o=>o
def kill (s:St) (k:Nat):St:=⟨s.env.map (O8 k),(s.H.map (Nv k)).set k .free⟩
def Za (k' k:Nat) (v:V):V:=
 match v with
 | .arr j=>if j=k' then .arr k else v
 | .sub j o l=>if j=k' then .sub k o l else v
 | .ptr j o=>if j=k' then .ptr k o else v
 | v=>if m3 k' v then .undef else v
def TU (k' k:Nat):O→O
 | .var cs=> .var (cs.map (Za k' k))
 | .tarr j off e t len cs=>if j=k' then .tarr k off e t len cs else .tarr j off e t len cs
 | o=>o
def RV:O→O
 | .tarr _ _ e t len cs=> .arr e t len cs
 | o=>o
def rename (s:St) (k' k:Nat):St:=
 let s:=kill s k
 let o:=s.H.getD k' .free
 ⟨s.env.map (Za k' k),((s.H.map (TU k' k)).set k (RV (TU k' k o))).set k' .free⟩
def ghost (s:St):Gh→Option St
 | .own slot k=>match s.env.getD slot .undef,s.H.getD k .dead with
  | .nil e,.free=>some ⟨s.env.set slot (.arr k),s.H.set k (.arr e 0 0 [])⟩
  | _,_=>none
 | .ownc kv off k=>match s.H.getD kv .free,s.H.getD k .dead with
  | .var cs,.free=>match cs.getD off .undef with
   | .nil e=>some ⟨s.env,(s.H.set kv (.var (cs.set off (.arr k)))).set k (.arr e 0 0 [])⟩
   | _=>none
  | _,_=>none
 | .ren k' k=>if k' =k∨s.H.length≤k'∨s.H.length≤k then none else some (rename s k' k)
 | .untake t=>match s.H.getD t .free with
  | .tarr k off e t' len cs=>match s.H.getD k .free with
   | .arr e2 t2 len2 cs2=>if k=t then none else if off<cs2.length then some ⟨s.env,(s.H.set k (.arr e2 (max t2 t') len2 (cs2.set off (.sl 0 e len cs)))).set t .dead⟩else none
   | .tarr k3 o3 e2 t2 len2 cs2=>if k=t then none else if off<cs2.length then some ⟨s.env,(s.H.set k (.tarr k3 o3 e2 (max t2 t') len2 (cs2.set off (.sl 0 e len cs)))).set t .dead⟩else none
   | _=>none
  | _=>none
 | .drop k=>some ⟨s.env,s.H.set k .dead⟩
def F9 (s:St):List Gh→Option St
 | []=>some s
 | g::r=>match ghost s g with
  | some s'=>F9 s' r
  | none=>none
def clear (env:List V):List Nat→List V
 | []=>env
 | k::r=>clear (env.set k .undef) r
def sets (vals:List V) (env:List V):List (Nat×Nat)→List V
 | []=>env
 | (k,j)::r=>sets vals (env.set k (vals.getD j .undef)) r
def QO (H:Hp) (n:Nat):V→Option (V×List Nat)
 | .sc x=>some (.sc x,[])
 | .sl 3 e len cs=>some (.sl 3 e len cs,[])
 | .arr k=>match Ag (H k)with
  | some (_,0,_,_)=>some (.arr n,[k])
  | _=>none
 | _=>none
def Vh (H:Hp) (n:Nat):List V→Option (List V×List Nat)
 | []=>some ([],[])
 | v::r=>match QO H n v with
  | none=>none
  | some (v',ks)=>match Vh (Ca ks H) (n+ks.length) r with
   | none=>none
   | some (r',ks')=>some (v'::r',ks++ks')
def AY:List V→Bool
 | []=>true
 | .sc _::r=>AY r
 | .sl 3 _ _ _::r=>AY r
 | _=>false
def Af9 (H:Hp) (n:Nat):V→Option (V×List Nat)
 | .agg cs=>match Vh H n cs with
  | some (cs',ks)=>some (.agg cs',ks)
  | none=>none
 | .ptr k 0=>match H k with
  | .var cs=>if AY cs then some (.ptr n 0,[k])else none
  | _=>none
 | v=>QO H n v
def IK (H:Hp) (n:Nat):List (Bool×V)→Option (List Nat)
 | []=>some []
 | (true,v)::r=>match Af9 H n v with
  | none=>none
  | some (_,ks)=>match IK (Ca ks H) (n+ks.length) r with
   | none=>none
   | some ks'=>some (ks++ks')
 | (false,_)::r=>IK H n r
def GI (H Hr:Hp) (n:Nat):List (Bool×V)→Option (List V)
 | []=>some []
 | (true,v)::r=>match Af9 H n v with
  | none=>none
  | some (v',ks)=>match GI (Ca ks H) Hr (n+ks.length) r with
   | none=>none
   | some r'=>some (v'::r')
 | (false,v)::r=>match ro Hr v with
  | none=>none
  | some v'=>match GI H Hr n r with
   | none=>none
   | some r'=>some (v'::r')
def KA:O→O
 | .tarr _ _ e t len cs=> .arr e t len cs
 | o=>o
def Aj2:O→O→Option O
 | _,.dead=>some .dead
 | .arr e _ len cs,.arr e' 0 len' cs'=>if e' =e∧len' =len∧cs'.length=cs.length then some (.arr e 0 len cs')else none
 | .tarr k o e _ len cs,.arr e' 0 len' cs'=>if e' =e∧len' =len∧cs'.length=cs.length then some (.tarr k o e 0 len cs')else none
 | .var cs,.var cs'=>if cs'.length=cs.length∧AY cs' then some (.var cs')else none
 | _,_=>none
def Vy (H:Hp):List Nat→List O→Option Ec
 | [],[]=>some []
 | k::r,o::s=>match Aj2 (H k) o,Vy H r s with
  | some o',some u=>some ((k,o')::u)
  | _,_=>none
 | _,_=>none
def Axn (H:Hp):List Nat→V→Option (V×Ec×List Nat)
 | ss,.sc x=>some (.sc x,[],ss)
 | s::ss,.sl 0 e len cs=>match H s with
  | .free=>some (.arr s,[(s,.arr e 0 len cs)],ss)
  | _=>none
 | ss,.sl 3 e len cs=>some (.sl 3 e len cs,[],ss)
 | _,_=>none
def AtM (H:Hp):List Nat→List V→Option (List V×Ec×List Nat)
 | ss,[]=>some ([],[],ss)
 | ss,v::r=>match Axn H ss v with
  | none=>none
  | some (v',u,ss')=>match AtM (Ca (u.map (·.1)) H) ss' r with
   | none=>none
   | some (r',u',ss'')=>some (v'::r',u++u',ss'')
def Axi (H:Hp):List Nat→V→Option (V×Ec×List Nat)
 | ss,.agg cs=>match AtM H ss cs with
  | some (cs',u,ss')=>some (.agg cs',u,ss')
  | none=>none
 | s::ss,.rptr 0 cs 0=>match H s with
  | .free=>if AY cs then some (.ptr s 0,[(s,.var cs)],ss)else none
  | _=>none
 | ss,v=>Axn H ss v
def AkA (H:Hp):List Nat→List V→Option (List V×Ec×List Nat)
 | ss,[]=>some ([],[],ss)
 | ss,v::r=>match Axi H ss v with
  | none=>none
  | some (v',u,ss')=>match AkA (Ca (u.map (·.1)) H) ss' r with
   | none=>none
   | some (r',u',ss'')=>some (v'::r',u++u',ss'')
def imp (H:Hp):List Nat→V→Option (V×Ec×List Nat)
 | ss,.tup vs=>match AkA H ss vs with
  | some (vs',u,ss')=>some (.tup vs',u,ss')
  | none=>none
 | ss,v=>Axi H ss v
abbrev Dn:=Nat→List V→List O→V→List O→Prop
def YD (c:Cf) (H:Hp) (ks:List Nat):Bool:=
 (!c.bor||ks.all fun k=>match H k with | .var _=>true | _=>false)&&c.takes.all fun s=>match H s with
  | .tarr k _ _ _ _ _=> !ks.contains k
  | _=>true
def Py (r:Option (V×Ec)) (K:V→Ec→Prop):Prop:=
 match r with
 | some (v,u)=>K v u
 | none=>False
def Gg (D:Dn) (c:Cf) (H:Hp) (K:V→Ec→Prop) (g:Nat) (args:List (Bool×V)) (sites:List Nat):Prop:=
 match IK H 0 args with
 | none=>False
 | some ks=>if YD c H ks=false then False else match GI H (Ca ks H) 0 args with
  | none=>False
  | some args'=>∃res outs,D g args' (ks.map fun k=>KA (H k)) res outs∧
   match Vy H ks outs,imp H sites res with
   | some u,some (v,u',_)=>K v (u++u')
   | _,_=>False
def stepW (D:Dn) (c:Cf) (H:Hp) (ev:Src→V) (op:LD) (K:V→Ec→Prop):Prop:=
 match op with
 | .call g args sites=>Gg D c H K g (args.map fun(b,x)=>(b,ev x)) sites
 | .callv f args sites=>match ev f with
  | .fn g caps=>Gg D c H K g ((args.map fun(b,x)=>(b,ev x))++caps.map fun v=>(false,v)) sites
  | _=>False
 | op=>Py (op1 c.bor c.takes H ev op) K
def masked (t:Option (List Nat)) (H:Hp):Hp:=
 match t with
 | none=>H
 | some l=>fun k=>if l.contains k then H k else .dead
def shp (o:O):Option (Nat×Nat):=(Ag o).map fun x=>(x.1,x.2.2.1)
def okU (t:Option (List Nat)) (om:List Nat) (H:Hp) (u:Ec):Bool:=
 match t with
 | none=>true
 | some _=>u.all fun p=>om.contains p.1&&(!om.contains (p.1+100000)||decide (shp (H p.1)=shp p.2))
def Dm (D:Dn) (c:Cf) (env:List V):List LF→List V→List O→(List V→List O→Prop)→Prop
 | [],vals,H,Q=>Q vals H
 | o::r,vals,H,Q=>
  let go:Prop:=stepW D c (masked o.tau (hp H)) (evs vals env) o.op fun v u=>okU o.tau o.om (hp H) u=true∧Dm D c env r (vals++ [v]) (WR H u) Q
  match o.guard with
  | none=>go
  | some (j,t)=>match vals.getD j .undef with
   | .sc (.bool b)=>if b=t then go else Dm D c env r (vals++ [.tup []]) H Q
   | .tup []=>Dm D c env r (vals++ [.tup []]) H Q
   | _=>False
def Dp (s:St) (ks:List Nat):St:=ks.foldl kill s
def AoK (D:Dn) (c:Cf) (r:Bu) (Q:St→Prop) (s:St):Prop:=
 let s:=Dp s r.fresh
 Dm D c s.env r.ops [] s.H fun vals H=>
  match F9 ⟨clear (sets vals s.env r.sets) r.clr,H⟩ r.F9 with
  | some s'=>Q s'
  | none=>False
def swp (D:Dn) (c:Cf):SC→(Out→St→Prop)→St→Prop
 | .skip,Q,s=>Q .normal s
 | .reg r,Q,s=>AoK D c r (Q .normal) s
 | .seq a b,Q,s=>swp D c a (fun o s'=>match o with | .normal=>swp D c b Q s' | o=>Q o s') s
 | .cond k a b,Q,s=>match s.env.getD k .undef with
  | .sc (.bool t)=>if t then swp D c a Q ⟨s.env.set k .undef,s.H⟩else swp D c b Q ⟨s.env.set k .undef,s.H⟩
  | _=>False
 | .block id a,Q,s=>swp D c a (fun o s'=>match o with | .exit i=>if i=id then Q .normal s' else Q (.exit i) s' | o=>Q o s') s
 | .loop a,Q,s=>∃n,Nat.rec (motive:=fun _=>St→Prop) (fun _=>False)
  (fun _ ih s=>swp D c a (fun o s'=>match o with | .normal=>ih s' | o=>Q o s') s) n s
 | .exit id,Q,s=>Q (.exit id) s
 | .ret,Q,s=>Q .ret s
 | .stuck,_,_=>False
inductive Res where
 | slot (i:Nat)
 | cell (i:Nat) (n:Option Nat)
 deriving Inhabited
structure Bw where
 nslots:Nat
 nobjs:Nat
 params:List Nat
 ngiven:Nat
 bor:Bool
 takes:List Nat
 body:SC
 results:List Res
def Ax1 (s:St):Res→Option V
 | .slot i=>some (s.env.getD i .undef)
 | .cell i n=>match s.env.getD i .undef,n with
  | .ptr k off,none=>match hp s.H k with
   | .var cs=>cs[off]?
   | _=>none
  | .ptr k off,some n=>match hp s.H k with
   | .var cs=>match Ff cs off n with
    | some c=>some (.agg c)
    | none=>none
   | _=>none
  | _,_=>none
def Xd (s:St):List Res→Option (List V)
 | []=>some []
 | r::t=>match Ax1 s r,Xd s t with
  | some v,some l=>some (v::l)
  | _,_=>none
def tie:List V→V
 | [v]=>v
 | l=> .tup l
def NS:O→O
 | .arr e 0 len cs=> .arr e 0 len cs
 | .var cs=>if AY cs then .var cs else .dead
 | _=> .dead
def finish (f:Bw) (s:St) (res:V) (outs:List O):Prop:=
 match Xd s f.results with
 | none=>False
 | some l=>match give (hp s.H) (tie l)with
  | some (v,0,ks)=>v=res∧outs=(List.range f.ngiven).map fun i=>if ks.contains i then .dead else NS (hp s.H i)
  | _=>False
def AeO (f:Bw) (args:List V):List V:=sets args (List.replicate f.nslots .undef) (f.params.zipIdx)
def Abg (f:Bw) (args:List V) (given:List O):St:=⟨AeO f args,given++List.replicate (f.nobjs-given.length) .free⟩
def Body (D:Dn) (f:Bw) (args:List V) (given:List O) (res:V) (outs:List O):Prop:=
 args.length=f.params.length∧given.length=f.ngiven∧swp D ⟨f.bor,f.takes⟩ f.body (fun o s=>match o with | .exit _=>False | _=>finish f s res outs) (Abg f args given)
end Go.Eng
