/- Own work: part 10 of the proof of FnExactConsoleLine. -/
import Derived.Test.YtogmkdgkgfhhoaaGreatDoorEEngAB
import Derived.ChangeArms
import Derived.ChangeSame
import Derived.ChangeOld
import Derived.WideShapes
import Derived.RowKit
import Derived.Deep.Slices
import Derived.OpenShut
set_option linter.unusedSimpArgs false
set_option linter.unusedVariables false
namespace Go.Eng
def Ado (D:Dn) (c:Cf) (b:SC) (Q:Out->St->Prop):Out->St->Prop:=fun o s'=>match o with | .normal=>swp D c b Q s' | o=>Q o s'
def Akm (id:Nat) (Q:Out->St->Prop):Out->St->Prop:=fun o s'=>match o with | .exit i=>if i=id then Q .normal s' else Q (.exit i) s' | o=>Q o s'
def AmK (r:Ce) (Q:St->Prop) (env:List V):List V->List O->Prop:=fun vals H=>
 match Gc ⟨clear (sets vals env r.sets) r.clr,H⟩ r.Gc with
 | some s'=>Q s'
 | none=>False
def opK (D:Dn) (c:Cf) (env:List V) (tau:Option (List Nat)) (om:List Nat) (rest:List I7) (vals:List V) (H:List O) (Q:List V->List O->Prop):V->DL->Prop:=
 fun v u=>okU tau om (hp H) u=true/\Dk D c env rest (vals++ [v]) (Si H u) Q
def Ab5 (g:V) (t:Bool) (p q:Prop):Prop:=
 match g with
 | .sc (.bool b)=>if b=t then p else q
 | .tup []=>q
 | _=>False
def Aj6 (g:V) (p q:Prop):Prop:=
 match g with
 | .sc (.bool b)=>if b then p else q
 | _=>False
def Zw (rs:List Res) (n:Nat) (s:St) (res:V) (outs:List O):Prop:=
 match Tf s rs with
 | none=>False
 | some l=>match give (hp s.H) (tie l)with
  | some (v,0,ks)=>v=res/\outs=(List.range n).map fun i=>if ks.contains i then .dead else Cu (hp s.H i)
  | _=>False
def AdU (rs:List Res) (n:Nat) (res:V) (outs:List O):Out->St->Prop:=fun o s=>match o with | .exit _=>False | _=>Zw rs n s res outs
section
variable {D:Dn} {c:Cf} {Q:Out->St->Prop} {s:St}
theorem Al2:swp D c .skip Q s=Q .normal s:=rfl
theorem Aog {r:Ce}:swp D c (.reg r) Q s=AhA D c r (Q .normal) s:=rfl
theorem Aoh {a b:SC}:swp D c (.seq a b) Q s=swp D c a (Ado D c b Q) s:=rfl
theorem AmO {k:Nat} {a b:SC} {env:List V} {H:List O}:swp D c (.cond k a b) Q ⟨env,H⟩=Aj6 (env.getD k .undef) (swp D c a Q ⟨env.set k .undef,H⟩) (swp D c b Q ⟨env.set k .undef,H⟩):=rfl
theorem AlK {id:Nat} {a:SC}:swp D c (.block id a) Q s=swp D c a (Akm id Q) s:=rfl
theorem Amm {id:Nat}:swp D c (.exit id) Q s=Q (.exit id) s:=rfl
theorem AoE:swp D c .ret Q s=Q .ret s:=rfl
theorem AlB:swp D c .stuck Q s=False:=rfl
theorem Aej {b:SC}:Ado D c b Q .normal s=swp D c b Q s:=rfl
theorem Ai3 {b:SC} {i:Nat}:Ado D c b Q (.exit i) s=Q (.exit i) s:=rfl
theorem AlF {b:SC}:Ado D c b Q .ret s=Q .ret s:=rfl
theorem Agu {id:Nat}:Akm id Q .normal s=Q .normal s:=rfl
theorem Akr {id i:Nat}:Akm id Q (.exit i) s=if i=id then Q .normal s else Q (.exit i) s:=rfl
theorem AnD {id:Nat}:Akm id Q .ret s=Q .ret s:=rfl
theorem Ad7 {rs:List Res} {n:Nat} {res:V} {outs:List O}:AdU rs n res outs .normal s=Zw rs n s res outs:=rfl
theorem Ak3 {rs:List Res} {n:Nat} {res:V} {outs:List O}:AdU rs n res outs .ret s=Zw rs n s res outs:=rfl
theorem Aiz {rs:List Res} {n:Nat} {res:V} {outs:List O} {i:Nat}:AdU rs n res outs (.exit i) s=False:=rfl
theorem Aor {f:Cm} {args:List V} {given:List O} {res:V} {outs:List O}:Body D f args given res outs=
 (args.length=f.params.length/\given.length=f.ngiven/\swp D ⟨f.bor,f.takes⟩ f.body (AdU f.results f.ngiven res outs) (Xc f args given)):=rfl
theorem AoY {r:Ce} {Qs:St->Prop}:AhA D c r Qs s=Dk D c (Dp s r.fresh).env r.ops [] (Dp s r.fresh).H (AmK r Qs (Dp s r.fresh).env):=rfl
theorem AiQ {env vals:List V} {H:List O} {Q:List V->List O->Prop}:Dk D c env [] vals H Q=Q vals H:=rfl
theorem AgQ {env vals:List V} {H:List O} {Q:List V->List O->Prop} {op:LG} {tau:Option (List Nat)} {om:List Nat} {r:List I7}:
 Dk D c env ({op:=op,guard:=none,tau:=tau,om:=om} ::r) vals H Q=stepW D c (masked tau (hp H)) (evs vals env) op (opK D c env tau om r vals H Q):=rfl
theorem AdY {env vals:List V} {H:List O} {Q:List V->List O->Prop} {op:LG} {j:Nat} {t:Bool} {tau:Option (List Nat)} {om:List Nat} {r:List I7}:
 Dk D c env ({op:=op,guard:=some (j,t),tau:=tau,om:=om} ::r) vals H Q=
  Ab5 (vals.getD j .undef) t (stepW D c (masked tau (hp H)) (evs vals env) op (opK D c env tau om r vals H Q)) (Dk D c env r (vals++ [.tup []]) H Q):=rfl
theorem AqF {env vals:List V} {H:List O} {Q:List V->List O->Prop} {tau:Option (List Nat)} {om:List Nat} {r:List I7} {v:V} {u:DL}:
 opK D c env tau om r vals H Q v u=(okU tau om (hp H) u=true/\Dk D c env r (vals++ [v]) (Si H u) Q):=rfl
theorem Ald {b t:Bool} {p q:Prop}:Ab5 (.sc (.bool b)) t p q=if b=t then p else q:=rfl
theorem AgU {t:Bool} {p q:Prop}:Ab5 (.tup []) t p q=q:=rfl
theorem Anm {b:Bool} {p q:Prop}:Aj6 (.sc (.bool b)) p q=if b then p else q:=rfl
end
end Go.Eng
namespace Go.Eng
theorem Alh (cs:List V) (off:Nat):ER cs off 1=(cs[off]?).map fun v=> [v]:=by
 unfold ER
 by_cases h:off+1<=cs.length
 ·rw[if_pos h,List.getElem?_eq_getElem (by omega)]
  rw[List.drop_eq_getElem_cons (by omega),List.take_succ_cons,List.take_zero]
  rfl
 ·rw[if_neg h,List.getElem?_eq_none (by omega)]
  rfl
section
variable {α:Type} {f:α->List V} {e:Nat}
theorem Iq (hf:∀x,(f x).length=e) (xs:List α):(xs.flatMap f).length=xs.length*e:=by
 induction xs with
 | nil=>simp
 | cons x xs ih=>simp only[List.flatMap_cons,List.length_append,hf,ih,List.length_cons];rw[Nat.add_mul];omega
theorem RA (hf:∀x,(f x).length=e) (xs:List α) (i:Nat):(xs.flatMap f).drop (i*e)=(xs.drop i).flatMap f:=by
 induction xs generalizing i with
 | nil=>simp
 | cons x xs ih=>
  cases i with
  | zero=>simp
  | succ i=>
   simp only[List.flatMap_cons,List.drop_succ_cons]
   rw[<-ih i,List.drop_append,hf]
   have h1:(f x).length<=(i+1)*e:=by rw[hf,Nat.add_mul];omega
   rw[List.drop_eq_nil_of_le h1,List.nil_append]
   congr 1
   rw[Nat.add_mul];omega
theorem JB (hf:∀x,(f x).length=e) {xs:List α} {i:Nat} (hi:i<xs.length):ER (xs.flatMap f) (i*e) e=some (f xs[i]):=by
 unfold ER
 have hl:=Iq hf xs
 have:i*e+e<=xs.length*e:=by
  have:=Nat.mul_le_mul_right e (show i+1<=xs.length by omega)
  rw[Nat.add_mul]at this;omega
 rw[hl,if_pos this,RA hf,List.drop_eq_getElem_cons hi,List.flatMap_cons]
 congr 1
 have h2:=hf xs[i]
 rw[<-h2,List.take_left]
theorem Aq (hf:∀x,(f x).length=e) {xs:List α} {i o:Nat} (hi:i<xs.length) (ho:o<e):(xs.flatMap f)[i*e+o]? =(f xs[i])[o]? :=by
 rw[<-List.getElem?_drop,RA hf,List.drop_eq_getElem_cons hi,List.flatMap_cons,List.getElem?_append_left (by rw[hf];exact ho)]
end
end Go.Eng
namespace Go.Eng
open Go.ChangeShapes Go.WideShapes Go.RowKit
inductive Ty where
 | bool
 | int (k:IntKind)
 | str
 | sl (t:Ty)
 | st (ts:List Ty)
mutual
def Ty.cells:Ty->Nat
 | .st ts=>Ty.Pp ts
 | _=>1
def Ty.Pp:List Ty->Nat
 | []=>0
 | t::ts=>t.cells+Ty.Pp ts
end
mutual
def tyB (P:Program):Ty->TypeId->Bool
 | .bool,t=>match P.underlying t with | some .bool=>true | _=>false
 | .int k,t=>match P.underlying t with | some (.int k')=>decide (k' =k) | _=>false
 | .str,t=>match P.underlying t with | some .string=>true | _=>false
 | .sl y,t=>match P.underlying t with | some (.slice e)=>tyB P y e&&(P.cellsOf e==y.cells&&decide (0<y.cells)) | _=>false
 | .st ts,t=>match P.underlying t with | some (.struct fs)=>P.cellsOf t==Ty.Pp ts&&tyL P ts 0 fs.toList | _=>false
def tyL (P:Program):List Ty->Nat->List Field->Bool
 | [],_,[]=>true
 | y::ys,o,f::fs=>tyB P y f.type&&(f.offset==o&&P.cellsOf f.type==y.cells)&&tyL P ys (o+y.cells) fs
 | _,_,_=>false
end
mutual
def Dat:Ty->List V->Prop
 | .bool,cs=>∃b,cs=[.sc (.bool b)]
 | .int k,cs=>∃n,(Lit.int k n).wf=true/\cs=[.sc (.int k n)]
 | .str,cs=>∃s:ByteArray,s.size<=maxLen/\cs=[.sc (.string s)]
 | .sl y,cs=>∃xs:List (List V),xs.length<=maxLen/\(∀x,x∈xs->Dat y x)/\cs=[.sl 0 y.cells xs.length xs.flatten]
 | .st ts,cs=>AaX ts cs
def AaX:List Ty->List V->Prop
 | [],cs=>cs=[]
 | y::ys,cs=>∃a b,Dat y a/\AaX ys b/\cs=a++b
end
mutual
theorem ZK:∀ {y:Ty} {cs:List V},Dat y cs->cs.length=y.cells
 | .bool,_,h=>by simp only[Dat]at h;obtain⟨b,rfl⟩:=h;simp[Ty.cells]
 | .int k,_,h=>by simp only[Dat]at h;obtain⟨b,_,rfl⟩:=h;simp[Ty.cells]
 | .str,_,h=>by simp only[Dat]at h;obtain⟨b,_,rfl⟩:=h;simp[Ty.cells]
 | .sl y,_,h=>by simp only[Dat]at h;obtain⟨b,_,_,rfl⟩:=h;simp[Ty.cells]
 | .st ts,cs,h=>by simp only[Dat]at h;rw[Ty.cells];exact Afy h
theorem Afy:∀ {ys:List Ty} {cs:List V},AaX ys cs->cs.length=Ty.Pp ys
 | [],_,h=>by simp only[AaX]at h;subst h;simp[Ty.Pp]
 | y::ys,_,h=>by simp only[AaX]at h;obtain⟨a,b,h1,h2,rfl⟩:=h;simp[Ty.Pp,ZK h1,Afy h2]
end
theorem Xr {c:Nat}:∀ {xs:List (List V)},(∀x,x∈xs->x.length=c)->xs.flatten.length=xs.length*c
 | [],_=>by simp
 | x::xs,h=>by
  simp only[List.flatten_cons,List.length_append,List.length_cons]
  rw[h x (by simp),Xr (fun y hy=>h y (by simp[hy]))]
  rw[Nat.add_mul]
  omega
section
variable {H:Type} {enc:TypeId×Value->H} {P:Program} {w w':World} {base:Nat} {held:Bool}
theorem AdK {R:V->Value->Prop} {a b:List V} {x y:List Value} (h1:Pw R a x) (h2:Pw R b y):Pw R (a++b) (x++y):=by
 obtain⟨l1,r1⟩:=h1
 obtain⟨l2,r2⟩:=h2
 refine⟨by simp[l1,l2],fun i v z hv hz=> ?_⟩
 by_cases hi:i<a.length
 ·rw[List.getElem?_append_left hi]at hv
  rw[List.getElem?_append_left (by omega)]at hz
  exact r1 i v z hv hz
 ·rw[List.getElem?_append_right (by omega)]at hv
  rw[List.getElem?_append_right (by omega),l1]at hz
  exact r2 _ v z hv hz
theorem XA {R:V->Value->Prop} {a:V} {x:Value} (h:R a x):Pw R [a] [x]:=by
 refine⟨rfl,fun i v z hv hz=> ?_⟩
 cases i with
 | zero=>simp at hv hz;subst hv;subst hz;exact h
 | succ i=>simp at hv
theorem AmB {R:V->Value->Prop}:Pw R [] []:=⟨rfl,fun i v z hv=>by simp at hv⟩
theorem Ajp {R:V->Value->Prop}:∀ {xs:List (List V)} {zs:List (List Value)},xs.length=zs.length->(∀(i:Nat) (x:List V) (z:List Value),xs[i]? =some x->zs[i]? =some z->Pw R x z)->Pw R xs.flatten zs.flatten
 | [],[],_,_=>AmB
 | x::xs,z::zs,hl,h=>by
  simp only[List.flatten_cons]
  exact AdK (h 0 x z rfl rfl) (Ajp (by simpa using hl) fun i a b ha hb=>h (i+1) a b (by simpa using ha) (by simpa using hb))
 | [],_::_,hl,_=>by simp at hl
 | _::_,[],hl,_=>by simp at hl
theorem Akw {α:Type} [Inhabited α] {n:Nat} {p:Nat->α->Prop} (h:∀i,i<n->∃a,p i a):∃f:Nat->α,∀i,i<n->p i (f i):=by
 classical
 exact⟨fun i=>if hi:i<n then(h i hi).choose else default,fun i hi=>by simp only[hi,dif_pos];exact(h i hi).choose_spec⟩
theorem AbE {a:Addr} {n:Nat} {cs:List Value} (h:w.cells? base a n=some cs):cs.length=n/\∀i,i<n->w.cell? (a.add i)=cs[i]? :=by
 unfold World.cells? at h
 split at h
 ·refine⟨by simpa using mapM_some_length h,fun i hi=> ?_⟩
  exact mapM_some_get h i i (by simp[hi])
 ·cases h
theorem Aj4 {a:Addr} {v:Value} (h:w.cell? a=some v):a.block<w.heap.size/\a.spot=none:=by
 unfold World.cell? at h
 split at h
 ·rename_i c t fr hh
  split at h
  ·cases h
  ·rename_i hs
   refine⟨(Array.getElem?_eq_some_iff.1 hh).1,by simpa using hs⟩
 ·cases h
theorem addr_add {b o n:Nat}:(Addr.mk b o none).add n=⟨b,o+n,none⟩:=by
 unfold Addr.add
 split
 ·rename_i h;subst h;rfl
 ·rfl
theorem Tc {α:Type} {c:Nat}:∀ {zs:List (List α)},(∀z,z∈zs->z.length=c)->∀(i j:Nat),j<c->zs.flatten[i*c+j]? =(zs[i]?).bind (·[j]?)
 | [],_,i,j,_=>by simp
 | z::zs,h,0,j,hj=>by
  rw[List.flatten_cons,Nat.zero_mul,Nat.zero_add,List.getElem?_append_left (by rw[h z (by simp)];exact hj)]
  rfl
 | z::zs,h,i+1,j,hj=>by
  have hz:=h z (by simp)
  have e:(i+1)*c+j-c=i*c+j:=by rw[Nat.add_mul];omega
  rw[List.flatten_cons,List.getElem?_append_right (by rw[hz,Nat.add_mul];omega),hz,e,Tc (fun x hx=>h x (by simp[hx])) i j hj]
  simp
theorem Ak7 {zs:List (List Value)} (h:∀z,z∈zs->Fj z):Fj zs.flatten:=by
 intro x hx
 obtain⟨z,hz,hxz⟩:=List.mem_flatten.1 hx
 exact h z hz x hxz
mutual
theorem Aee {Ae:Nat->Option FuncId}:∀(y:Ty) (t:TypeId) (fuel:Nat) (cs:List Value) (x:DataW H×List MemPlace),tyB P y t=true->DataW.trod enc P w base (fun _=>true) held fuel t cs=some x->
 ∃vs,Dat y vs/\Pw (Rd Ae w (· <w.heap.size)) vs cs/\Fj cs
 | .bool,t,fuel,cs,x,hb,h=>by
  simp only[tyB]at hb
  split at hb
  ·rename_i hu
   obtain⟨b,rfl,_⟩:=DataW.trod_bool hu h
   exact⟨[.sc (.bool b)],by simp[Dat],XA (.sc rfl),by intro z hz;simp at hz;subst hz;rfl⟩
  ·cases hb
 | .int k,t,fuel,cs,x,hb,h=>by
  simp only[tyB]at hb
  split at hb
  ·rename_i k' hu
   obtain rfl:k' =k:=by simpa using hb
   obtain⟨n,rfl,_,hn⟩:=DataW.trod_int hu h
   exact⟨[.sc (.int k' n)],by simp only[Dat];exact⟨n,hn,rfl⟩,XA (.sc rfl),by intro z hz;simp at hz;subst hz;rfl⟩
  ·cases hb
 | .str,t,fuel,cs,x,hb,h=>by
  simp only[tyB]at hb
  split at hb
  ·rename_i hu
   obtain⟨s,rfl,_,hs⟩:=DataW.trod_string hu h
   exact⟨[.sc (.string s)],by simp only[Dat];exact⟨s,hs,rfl⟩,XA (.sc rfl),by intro z hz;simp at hz;subst hz;rfl⟩
  ·cases hb
 | .sl y,t,fuel,cs,x,hb,h=>by
  simp only[tyB]at hb
  split at hb
  rotate_left
  ·cases hb
  rename_i e hu
  simp only[Bool.and_eq_true,beq_iff_eq,decide_eq_true_eq]at hb
  obtain⟨hy,hce,hpos⟩:=hb
  rcases Go.Deep.open_slice hu h with⟨rfl,_⟩ | ⟨a,len,cap,m,n,D,Pl,rfl,hb',hl,hm,hmm,_,hx⟩
  ·refine⟨[.sl 0 y.cells 0 []],by simp only[Dat];exact⟨[],by simp,by simp,rfl⟩,XA ?_,by intro z hz;simp at hz;subst hz;rfl⟩
   exact .sl (vs:=[]) (Nat.le_refl 0) (by simp) rfl (.inl rfl) (by simp)
  ·simp only[if_true]at hmm
   subst hmm
   rw[hce]at hx
   have key:∀i,i<len->∃cv:List Value×List V,w.cells? base (a.add (i*y.cells)) y.cells=some cv.1/\Dat y cv.2/\Pw (Rd Ae w (· <w.heap.size)) cv.2 cv.1/\Fj cv.1:=by
    intro i hi
    obtain⟨cs',h1,h2⟩:=hx i (by omega)
    obtain⟨vs,q1,q2,q3⟩:=Aee (Ae:=Ae) y e n cs' _ hy h2
    exact⟨(cs',vs),h1,q1,q2,q3⟩
   obtain⟨f,hf⟩:=Akw key
   have hlen:((List.range len).map fun i=>(f i).2).length=len:=by simp
   have hlen':((List.range len).map fun i=>(f i).1).length=len:=by simp
   refine⟨[.sl 0 y.cells len ((List.range len).map fun i=>(f i).2).flatten],?_,XA ?_,by intro z hz;simp at hz;subst hz;rfl⟩
   ·simp only[Dat]
    refine⟨(List.range len).map fun i=>(f i).2,by rw[hlen];omega,?_,by rw[hlen]⟩
    intro x hx
    simp only[List.mem_map,List.mem_range]at hx
    obtain⟨i,hi,rfl⟩:=hx
    exact(hf i hi).2.1
   ·have hP:Pw (Rd Ae w (· <w.heap.size)) ((List.range len).map fun i=>(f i).2).flatten ((List.range len).map fun i=>(f i).1).flatten:=by
     refine Ajp (by simp) ?_
     intro i x z hx hz
     simp only[List.getElem?_map,Option.map_eq_some_iff]at hx hz
     obtain⟨j,hj,rfl⟩:=hx
     obtain⟨j',hj',rfl⟩:=hz
     rw[hj]at hj'
     cases hj'
     have:j<len:=by
      have:=List.getElem?_eq_some_iff.1 hj
      obtain⟨h1,h2⟩:=this
      simp at h1 h2
      omega
     exact(hf j this).2.2.1
    refine .sl hl ?_ hP.1 ?_ hP.2
    ·rw[Xr (c:=y.cells),hlen]
     intro x hx
     simp only[List.mem_map,List.mem_range]at hx
     obtain⟨i,hi,rfl⟩:=hx
     exact ZK (hf i hi).2.1
    ·by_cases h0:len=0
     ·left;subst h0;simp
     ·right
      have hz:∀z,z∈((List.range len).map fun i=>(f i).1)->z.length=y.cells:=by
       intro z hz
       simp only[List.mem_map,List.mem_range]at hz
       obtain⟨i,hi,rfl⟩:=hz
       exact(AbE (hf i hi).1).1
      have c0:=AbE (hf 0 (by omega)).1
      have c00:=c0.2 0 hpos
      have hne:((f 0).1)[0]? =some (((f 0).1)[0]'(by rw[c0.1];exact hpos)):=List.getElem?_eq_getElem _
      rw[hne]at c00
      simp only[Nat.zero_mul]at c00
      have e0:(a.add 0).add 0=a:=by simp[Addr.add]
      rw[e0]at c00
      obtain⟨g1,g2⟩:=Aj4 c00
      obtain⟨b,o,sp⟩:=a
      simp only at g1 g2
      subst g2
      refine⟨b,o,rfl,g1,Ak7 ?_,?_⟩
      ·intro z hz
       simp only[List.mem_map,List.mem_range]at hz
       obtain⟨i,hi,rfl⟩:=hz
       exact(hf i hi).2.2.2
      ·intro k hk
       rw[List.length_flatten,]at hk
       have hk':k<len*y.cells:=by
        have:=Xr (c:=y.cells) (xs:=((List.range len).map fun i=>(f i).2)) (by
         intro x hx
         simp only[List.mem_map,List.mem_range]at hx
         obtain⟨i,hi,rfl⟩:=hx
         exact ZK (hf i hi).2.1)
        rw[hlen,<-hP.1,List.length_flatten]at this
        omega
       have hi:k / y.cells<len:=(Nat.div_lt_iff_lt_mul hpos).2 hk'
       have hj:k % y.cells<y.cells:=Nat.mod_lt _ hpos
       have ek:k=(k / y.cells)*y.cells+k % y.cells:=by
        have:=Nat.div_add_mod k y.cells
        rw[Nat.mul_comm]at this
        exact this.symm
       have hc:=(AbE (hf _ hi).1).2 _ hj
       rw[addr_add,addr_add,Nat.add_assoc,<-ek]at hc
       rw[hc]
       conv=>rhs;rw[ek]
       rw[Tc hz _ _ hj]
       simp[hi]
 | .st ys,t,fuel,cs,x,hb,h=>by
  simp only[tyB]at hb
  split at hb
  rotate_left
  ·cases hb
  rename_i fs hu
  simp only[Bool.and_eq_true,beq_iff_eq]at hb
  obtain⟨xs,n,rfl,_,hlen,hxl,hf⟩:=DataW.trod_struct hu h
  obtain⟨vs,q1,q2,q3⟩:=AhC (Ae:=Ae) ys 0 fs.toList n cs hb.2 (by rw[hlen,hb.1];omega) (by
   intro i f hi
   have hi':fs[i]? =some f:=by simpa using hi
   have hlt:i<xs.length:=by rw[hxl];exact(Array.getElem?_eq_some_iff.1 hi').1
   exact⟨xs[i],by rw[hf i f hi',List.getElem?_eq_getElem hlt]⟩)
  exact⟨vs,by simp only[Dat];exact q1,q2,q3⟩
theorem AhC {Ae:Nat->Option FuncId}:∀(ys:List Ty) (o:Nat) (fs:List Field) (n:Nat) (cs:List Value),tyL P ys o fs=true->cs.length=o+Ty.Pp ys->
 (∀(i:Nat) (f:Field),fs[i]? =some f->∃x,DataW.trod enc P w base (fun _=>true) held n f.type ((cs.drop f.offset).take (P.cellsOf f.type))=some x)->
 ∃vs,AaX ys vs/\Pw (Rd Ae w (· <w.heap.size)) vs (cs.drop o)/\Fj (cs.drop o)
 | [],o,[],n,cs,_,hl,_=>by
  have:cs.drop o=[]:=by rw[List.drop_eq_nil_iff,hl];simp[Ty.Pp]
  rw[this]
  exact⟨[],by simp[AaX],AmB,by intro z hz;simp at hz⟩
 | y::ys,o,f::fs,n,cs,hb,hl,hf=>by
  simp only[tyL,Bool.and_eq_true,beq_iff_eq]at hb
  obtain⟨⟨hy,ho,hc⟩,hr⟩:=hb
  obtain⟨x,hx⟩:=hf 0 f rfl
  rw[ho,hc]at hx
  obtain⟨vs,q1,q2,q3⟩:=Aee (Ae:=Ae) y f.type n _ _ hy hx
  obtain⟨vs',q1',q2',q3'⟩:=AhC (Ae:=Ae) ys (o+y.cells) fs n cs hr (by rw[hl];simp[Ty.Pp];omega) (fun i f hi=>hf (i+1) f (by simpa using hi))
  have e:cs.drop o=(cs.drop o).take y.cells++cs.drop (o+y.cells):=by
   rw[<-List.drop_drop,List.take_append_drop]
  refine⟨vs++vs',by simp only[AaX];exact⟨vs,vs',q1,q1',rfl⟩,?_,?_⟩
  ·rw[e];exact AdK q2 q2'
  ·rw[e];intro z hz;rcases List.mem_append.1 hz with hz | hz
   ·exact q3 z hz
   ·exact q3' z hz
 | [],_,_::_,_,_,hb,_,_=>by simp[tyL]at hb
 | _::_,_,[],_,_,hb,_,_=>by simp[tyL]at hb
end
theorem NU {α β:Type} {f g:α->Option β}:∀ {l:List α} {ys:List β},l.mapM f=some ys->(∀x y,x∈l->y∈ys->f x=some y->g x=some y)->l.mapM g=some ys
 | [],ys,h,_=>by simpa using h
 | a::as,ys,h,hr=>by
  rw[List.mapM_cons]at h⊢
  cases ha:f a with
  | none=>simp[ha]at h
  | some b=>
   cases has:as.mapM f with
   | none=>simp[ha,has]at h
   | some bs=>
    simp[ha,has]at h
    subst h
    rw[hr a b (by simp) (by simp) ha,NU has fun x y hx hy h=>hr x y (by simp[hx]) (by simp[hy]) h]
    rfl
theorem Akg (hw:∀b,b<w.heap.size->w'.heap[b]? =w.heap[b]?) {a:Addr} {v:Value} (h:w.cell? a=some v):w'.cell? a=some v:=by
 rw[<-h]
 unfold World.cell?
 rw[hw _ (Aj4 h).1]
theorem Aja (hw:∀b,b<w.heap.size->w'.heap[b]? =w.heap[b]?) {a:Addr} {n:Nat} {cs:List Value} (h:w.cells? base a n=some cs):w'.cells? base a n=some cs:=by
 unfold World.cells? at h⊢
 split at h
 ·rename_i hb
  rw[if_pos hb]
  exact NU h fun x y _ _ hx=>Akg hw hx
 ·cases h
mutual
theorem Aeo (hw:∀b,b<w.heap.size->w'.heap[b]? =w.heap[b]?) {sp:Nat->Bool}:∀(y:Ty) (t:TypeId) (fuel:Nat) (cs:List Value) (x:DataW H×List MemPlace),tyB P y t=true->
 DataW.trod enc P w base (fun _=>true) held fuel t cs=some x->(∀p,p∈x.2->sp p.block=true)->DataW.trod enc P w' base sp held fuel t cs=some x
 | .bool,t,fuel,cs,x,hb,h,hp=>by
  simp only[tyB]at hb
  split at hb
  ·rename_i hu
   cases fuel with
   | zero=>simp[DataW.trod]at h
   | succ n=>
    obtain⟨b,rfl,rfl⟩:=DataW.trod_bool hu h
    simp[DataW.trod,hu]
  ·cases hb
 | .int k,t,fuel,cs,x,hb,h,hp=>by
  simp only[tyB]at hb
  split at hb
  ·rename_i k' hu
   cases fuel with
   | zero=>simp[DataW.trod]at h
   | succ n=>
    obtain⟨b,rfl,rfl,hn⟩:=DataW.trod_int hu h
    simp[DataW.trod,hu,hn]
  ·cases hb
 | .str,t,fuel,cs,x,hb,h,hp=>by
  simp only[tyB]at hb
  split at hb
  ·rename_i hu
   cases fuel with
   | zero=>simp[DataW.trod]at h
   | succ n=>
    obtain⟨b,rfl,rfl,hn⟩:=DataW.trod_string hu h
    simp[DataW.trod,hu,hn]
  ·cases hb
 | .sl y,t,fuel,cs,x,hb,h,hp=>by
  simp only[tyB]at hb
  split at hb
  rotate_left
  ·cases hb
  rename_i e hu
  simp only[Bool.and_eq_true,beq_iff_eq,decide_eq_true_eq]at hb
  obtain⟨hy,hce,hpos⟩:=hb
  rcases DataW.trod_slice hu h with⟨rfl,rfl⟩ | ⟨a,len,cap,elems,rest,n,rfl,rfl,rfl,hb',hl,hm,hel,he,hsp,_⟩
  ·cases fuel with
   | zero=>simp[DataW.trod]at h
   | succ n=>simp[DataW.trod,hu]
  ·unfold DataW.trod at h⊢
   rw[hu]at h⊢
   simp only[hb',hl,hm,and_self,if_true]at h⊢
   simp only[Option.bind_eq_some_iff,Option.map_eq_some_iff]at h⊢
   obtain⟨el,h1,re,h2,h3⟩:=h
   have hel':el.length=len:=by simpa using mapM_some_length h1
   have hre':re.length=cap-len:=by simpa using mapM_some_length h2
   simp only[Prod.mk.injEq]at h3
   obtain⟨_,h3⟩:=h3
   have hsub:∀y',y'∈el++re->∀p,p∈y'.2->sp p.block=true:=by
    intro y' hy' p hpy
    refine hp p ?_
    rw[<-h3]
    exact List.mem_append.2 (.inr (List.mem_flatMap.2 ⟨y',hy',hpy⟩))
   have step:∀(i:Nat) (y':DataW H×List MemPlace),y'∈el++re->(w.cells? base (a.add (i*P.cellsOf e)) (P.cellsOf e)).bind (DataW.trod enc P w base (fun _=>true) held n e)=some y'->
    (w'.cells? base (a.add (i*P.cellsOf e)) (P.cellsOf e)).bind (DataW.trod enc P w' base sp held n e)=some y':=by
    intro i y' hy' h
    simp only[Option.bind_eq_some_iff]at h⊢
    obtain⟨cs',g1,g2⟩:=h
    exact⟨cs',Aja hw g1,Aeo hw y e n cs' y' hy g2 (hsub y' hy')⟩
   refine⟨el,NU h1 fun i y' _ hy' h=>step i y' (by simp[hy']) h,re,?_,?_⟩
   ·by_cases hc:cap-len=0
    ·have hr0:re=[]:=List.eq_nil_of_length_eq_zero (by omega)
     subst hr0
     split
     ·rw[hc];rfl
     ·rfl
    ·have hab:sp a.block=true:=by
      refine hp (.cell a.block (a.off+0)) ?_
      rw[<-h3]
      refine List.mem_append.2 (.inl ?_)
      unfold MemPlace.row
      simp only[List.mem_map,List.mem_range]
      refine⟨0,?_,rfl⟩
      rw[hce]
      exact Nat.mul_pos (by omega) hpos
     rw[if_pos hab]
     exact NU h2 fun j y' _ hy' h=>step (len+j) y' (by simp[hy']) h
   ·rename_i hx1
    exact Prod.ext hx1 h3
 | .st ys,t,fuel,cs,x,hb,h,hp=>by
  simp only[tyB]at hb
  split at hb
  rotate_left
  ·cases hb
  rename_i fs hu
  simp only[Bool.and_eq_true,beq_iff_eq]at hb
  cases fuel with
  | zero=>simp[DataW.trod]at h
  | succ n=>
   have hcl:cs.length=P.cellsOf t:=by
    obtain⟨_,_,_,_,h,_⟩:=DataW.trod_struct hu h
    exact h
   unfold DataW.trod at h⊢
   rw[hu]at h⊢
   simp only[hcl,if_true,Option.map_eq_some_iff]at h⊢
   obtain⟨xs,h1,rfl⟩:=h
   refine⟨xs,?_,rfl⟩
   have:=Ahv hw (sp:=sp) ys 0 fs.toList n cs hb.2
   refine NU h1 fun f y' hf hy' h=>this f hf y' h fun p hpy=>hp p (List.mem_flatMap.2 ⟨y',hy',hpy⟩)
theorem Ahv (hw:∀b,b<w.heap.size->w'.heap[b]? =w.heap[b]?) {sp:Nat->Bool}:∀(ys:List Ty) (o:Nat) (fs:List Field) (n:Nat) (cs:List Value),tyL P ys o fs=true->
 ∀f,f∈fs->∀x,DataW.trod enc P w base (fun _=>true) held n f.type ((cs.drop f.offset).take (P.cellsOf f.type))=some x->(∀p,p∈x.2->sp p.block=true)->
  DataW.trod enc P w' base sp held n f.type ((cs.drop f.offset).take (P.cellsOf f.type))=some x
 | [],o,[],n,cs,_,f,hf=>by simp at hf
 | y::ys,o,f::fs,n,cs,hb,f',hf=>by
  simp only[tyL,Bool.and_eq_true,beq_iff_eq]at hb
  obtain⟨⟨hy,ho,hc⟩,hr⟩:=hb
  intro x hx hp
  rcases List.mem_cons.1 hf with rfl | hf
  ·exact Aeo hw y _ n _ x hy hx hp
  ·exact Ahv hw ys (o+y.cells) fs n cs hr f' hf x hx hp
 | [],_,_::_,_,_,hb,_,_=>by simp[tyL]at hb
 | _::_,_,[],_,_,hb,_,_=>by simp[tyL]at hb
end
end
end Go.Eng
namespace Go.Eng
open Go.ChangeShapes Go.WideShapes Go.RowKit
def APy:Ty->V->Prop
 | .st ts,v=>∃cs,Dat (.st ts) cs/\v= .agg (cs.map (AO 1))
 | y,v=>∃c,Dat y [c]/\v=AO 1 c
def AO8:List Ty->List V->Prop
 | [],vs=>vs=[]
 | y::ys,vs=>∃v r,APy y v/\AO8 ys r/\vs=v::r
def Vd (P:Program):List Ty->List TypeId->Bool
 | [],[]=>true
 | y::ys,t::ts=>tyB P y t&&Vd P ys ts
 | _,_=>false
def DC:V->Prop
 | .sc _=>True
 | .sl _ _ _ _=>True
 | _=>False
mutual
theorem Am9:∀ {y:Ty} {cs:List V},Dat y cs->∀c,c∈cs->DC c
 | .bool,_,h=>by simp only[Dat]at h;obtain⟨b,rfl⟩:=h;intro c hc;simp at hc;subst hc;trivial
 | .int k,_,h=>by simp only[Dat]at h;obtain⟨b,_,rfl⟩:=h;intro c hc;simp at hc;subst hc;trivial
 | .str,_,h=>by simp only[Dat]at h;obtain⟨b,_,rfl⟩:=h;intro c hc;simp at hc;subst hc;trivial
 | .sl y,_,h=>by simp only[Dat]at h;obtain⟨b,_,_,rfl⟩:=h;intro c hc;simp at hc;subst hc;trivial
 | .st ts,cs,h=>by simp only[Dat]at h;exact Ajl h
theorem Ajl:∀ {ys:List Ty} {cs:List V},AaX ys cs->∀c,c∈cs->DC c
 | [],_,h=>by simp only[AaX]at h;subst h;intro c hc;simp at hc
 | y::ys,_,h=>by
  simp only[AaX]at h;obtain⟨a,b,h1,h2,rfl⟩:=h
  intro c hc
  rcases List.mem_append.1 hc with hc | hc
  ·exact Am9 h1 c hc
  ·exact Ajl h2 c hc
end
def VB (Ae:Nat->Option FuncId) (G:Gl) (W:World):Fr:=
 {Ae:=Ae,w0:=W,own0:=fun _=>none,β0:=fun _=>⟨none,0⟩,ngiven:=0,G:=G,bor:=false,takes:=[]}
section
variable {H:Type} {enc:TypeId×Value->H} {P:Program} {W w':World} {base:Nat} {Ae:Nat->Option FuncId} {G:Gl}
theorem AoG (hG:∀b,G b->b<W.heap.size/\W.heap[b]? =G.is b):Inv (VB Ae G W) (VB Ae G W).β0 (VB Ae G W).own0 (hp []) (VB Ae G W).w0 where
 size:=Nat.le_refl _
 keep:=fun _ _ _=>rfl
 os:=rfl
 tape:=rfl
 output:=rfl
 ownb:=fun b p h=>by cases h
 glob:=fun b h=>⟨(hG b h).1,rfl,(hG b h).2⟩
 objs:=fun k=>by simp[hp,OR]
 given:=fun k h=>absurd h (Nat.not_lt_zero _)
 gfree:=fun k h=>absurd h (Nat.not_lt_zero _)
theorem AOP {β:Nat->Base} {own:Nat->Option (Nat×List Nat)} {Hh:Hp} {c:V} {x:Value} (hd:DC c) (h:Rd Ae W (· <W.heap.size) c x):VR (VB Ae G W) β own Hh W (AO 1 c) x:=by
 cases c with
 | sc v=>cases h with | sc h1=>exact .sc h1
 | sl fl e len cells=>
  refine .rd (Nat.le_refl 1) ?_
  have:=h.flag (fl:=1)
  exact Rd.move this (fun b hb=>⟨hb,rfl⟩) (fun _ _=>rfl)
 | _=>exact absurd hd (by simp[DC])
theorem APC {β:Nat->Base} {own:Nat->Option (Nat×List Nat)} {Hh:Hp} {y:Ty} {t:TypeId} {v:Value} {d:DataW H} {p:List MemPlace} (hy:tyB P y t=true)
 (hval:Value.okWide P W .any base t v) (h:DataW.Trod enc P W 0 (fun _=>true) true t v d p):∃a,APy y a/\VR (VB Ae G W) β own Hh W a v:=by
 obtain⟨fuel,hf⟩:=h
 obtain⟨vs,h1,h2,h3⟩:=Aee (Ae:=Ae) y t fuel _ _ hy hf
 have one:∀u:Value,u.cells.toList=[u]->v=u->(∀cs,Dat y cs->cs.length=1)->(∀a,APy y a= ∃c,Dat y [c]/\a=AO 1 c)->∃a,APy y a/\VR (VB Ae G W) β own Hh W a v:=by
  intro u hu hv hl hA
  subst hv
  rw[hu]at h2
  have hl':=hl vs h1
  obtain⟨c,rfl⟩:=List.length_eq_one_iff.1 hl'
  refine⟨AO 1 c,by rw[hA];exact⟨c,h1,rfl⟩,AOP (Am9 h1 c (by simp)) (h2.2 0 c _ rfl rfl)⟩
 cases y with
 | bool=>
  simp only[tyB]at hy
  split at hy
  ·rename_i hu
   obtain⟨b,rfl⟩:=okWide_bool hu hval
   exact one _ rfl rfl (fun cs h=>ZK h) (fun a=>rfl)
  ·cases hy
 | int k=>
  simp only[tyB]at hy
  split at hy
  ·rename_i hu
   obtain⟨b,rfl⟩:=okWide_int hu hval
   exact one _ rfl rfl (fun cs h=>ZK h) (fun a=>rfl)
  ·cases hy
 | str=>
  simp only[tyB]at hy
  split at hy
  ·rename_i hu
   obtain⟨b,rfl⟩:=okWide_string hu hval
   exact one _ rfl rfl (fun cs h=>ZK h) (fun a=>rfl)
  ·cases hy
 | sl y=>
  simp only[tyB]at hy
  split at hy
  ·rename_i hu
   obtain⟨a,l,c,rfl⟩:=okWide_slice hu hval
   exact one _ rfl rfl (fun cs h=>ZK h) (fun a=>rfl)
  ·cases hy
 | st ts=>
  simp only[tyB]at hy
  split at hy
  ·rename_i hu
   obtain⟨cs,rfl,_⟩:=okWide_struct hu hval
   refine⟨.agg (vs.map (AO 1)),⟨vs,h1,rfl⟩,?_⟩
   have e:cs=cs.toList.toArray:=by simp
   rw[e]
   have hc:(Value.agg cs).cells.toList=cs.toList:=rfl
   rw[hc]at h2 h3
   refine .agg h3 (by rw[h2.1];simp) ?_
   intro i v x hv hx
   simp only[List.getElem?_map,Option.map_eq_some_iff]at hv
   obtain⟨u,hu,rfl⟩:=hv
   exact AOP (Am9 h1 u (List.mem_of_getElem? hu)) (h2.2 i u x hu hx)
  ·cases hy
theorem AON {β:Nat->Base} {own:Nat->Option (Nat×List Nat)} {Hh:Hp}:∀ {ys:List Ty} {ts:List TypeId} {vs:List Value} {ds:List (DataW H)} {p:List MemPlace},Vd P ys ts=true->
 (∀(j:Nat) t v,ts[j]? =some t->vs[j]? =some v->Value.okWide P W .any base t v)->DataW.TrodAll enc P W 0 (fun _=>true) true ts vs ds p->
 ∃as,AO8 ys as/\Pw (VR (VB Ae G W) β own Hh W) as vs
 | [],[],vs,ds,p,_,_,h=>by
  obtain⟨rfl,_,_⟩:=trodAll_nil h
  exact⟨[],rfl,AmB⟩
 | y::ys,t::ts,vs,ds,p,hy,hval,h=>by
  simp only[Vd,Bool.and_eq_true]at hy
  obtain⟨v,vs',d,ds',p,q,rfl,rfl,rfl,h1,h2⟩:=trodAll_cons h
  obtain⟨a,ha,hr⟩:=APC (Ae:=Ae) (G:=G) (β:=β) (own:=own) (Hh:=Hh) hy.1 (hval 0 t v rfl rfl) h1
  obtain⟨as,has,hrs⟩:=AON (β:=β) (own:=own) (Hh:=Hh) hy.2 (fun j t v ht hv=>hval (j+1) t v (by simpa using ht) (by simpa using hv)) h2
  exact⟨a::as,⟨a,as,ha,has,rfl⟩,by have:=AdK (XA hr) hrs;simpa using this⟩
 | [],_::_,_,_,_,hy,_,_=>by simp[Vd]at hy
 | _::_,[],_,_,_,hy,_,_=>by simp[Vd]at hy
theorem AdO (hw:∀b,b<W.heap.size->w'.heap[b]? =W.heap[b]?) {sp:Nat->Bool}:∀ {ys:List Ty} {ts:List TypeId} {vs:List Value} {ds:List (DataW H)} {p:List MemPlace},Vd P ys ts=true->
 DataW.TrodAll enc P W 0 (fun _=>true) true ts vs ds p->(∀m,m∈p->sp m.block=true)->DataW.TrodAll enc P w' 0 sp true ts vs ds p
 | [],[],vs,ds,p,_,h,_=>by
  obtain⟨rfl,rfl,rfl⟩:=trodAll_nil h
  exact rfl
 | y::ys,t::ts,vs,ds,p,hy,h,hp=>by
  simp only[Vd,Bool.and_eq_true]at hy
  obtain⟨v,vs',d,ds',p,q,rfl,rfl,rfl,⟨fuel,h1⟩,h2⟩:=trodAll_cons h
  exact⟨p,q,⟨fuel,Aeo hw y t fuel _ _ hy.1 h1 fun m hm=>hp m (by simp[show m∈p from hm])⟩,AdO hw hy.2 h2 fun m hm=>hp m (by simp[hm]),rfl⟩
 | [],_::_,_,_,_,hy,_,_=>by simp[Vd]at hy
 | _::_,[],_,_,_,hy,_,_=>by simp[Vd]at hy
theorem AOD {f:FuncId} {fn:Func} {s:ChangeSpec} {apart fresh handsOn:Bool} {g:Nat} {ys:List Ty} {tb:TypeId} {args:Array Value} {ds gs:List (DataW H)} {before:List MemPlace}
 (hg:Ae g=some f) (hden:∀as,AO8 ys as->Den P Ae G g as [] (.sc (.bool true)) []) (hG:∀b,G b->b<W.heap.size/\W.heap[b]? =G.is b)
 (hys:Vd P ys fn.params.toList=true) (hrt:fn.resultTypes= #[tb]) (htb:P.underlying tb=some .bool)
 (hvars:s.vars=[]) (hs:∀ds:List (DataW H),ds.length=ys.length->s.fn H ds={results:=[.lit (.bool true)],args:=ds})
 (hval:∀(j:Nat) t v,fn.params[j]? =some t->args[j]? =some v->Value.okWide P W .any base t v)
 (hW:DataW.Whole enc P fn.params.toList s.vars apart W args.toList ds gs before):
 Calls P f args W fun e W'=>∃v,e= .returned v/\s.post enc P fn apart fresh handsOn false W args v W':=by
 have hW':=hW
 obtain⟨p,q,hA,hV,rfl,_,_⟩:=hW
 rw[hvars]at hV
 obtain⟨rfl,rfl⟩:=trodVars_none hV
 obtain⟨as,hvs,hr⟩:=AON (Ae:=Ae) (G:=G) (β:=(VB Ae G W).β0) (own:=(VB Ae G W).own0) (Hh:=hp []) hys (fun j t v ht hv=>hval j t v (by simpa using ht) (by simpa using hv)) hA
 have call:=hden as hvs f hg (VB Ae G W) rfl rfl rfl rfl rfl (AoG hG) args.toList hr
 have e:args.toList.toArray=args:=by simp
 rw[e]at call
 refine call.mono fun r W' hq=> ?_
 cases r with
 | returned x=>
  obtain⟨own',po⟩:=hq
  have hx:x= .bool true:=by
   have:=po.res
   cases this with
   | sc h1=>rfl
  subst hx
  have hw:∀b,b<W.heap.size->W'.heap[b]? =W.heap[b]? :=fun b hb=>po.keep b hb rfl
  have hlen:(ds:List (DataW H)).length=ys.length:=by
   have:∀ {ys:List Ty} {ts:List TypeId} {vs:List Value} {ds:List (DataW H)} {p:List MemPlace},Vd P ys ts=true->DataW.TrodAll enc P W 0 (fun _=>true) true ts vs ds p->ds.length=ys.length:=by
    intro ys
    induction ys with
    | nil=>
     intro ts vs ds p hy h
     cases ts with
     | nil=>obtain⟨rfl,rfl,rfl⟩:=trodAll_nil h;rfl
     | cons=>simp[Vd]at hy
    | cons y ys ih=>
     intro ts vs ds p hy h
     cases ts with
     | nil=>simp[Vd]at hy
     | cons t ts=>
      simp only[Vd,Bool.and_eq_true]at hy
      obtain⟨v,vs',d,ds',p,q,rfl,rfl,rfl,h1,h2⟩:=trodAll_cons h
      simp[ih hy.2 h2]
   exact this hys hA
  refine⟨_,rfl,ds,[],_,[],p,[],hW',?_,?_,?_,?_,?_⟩
  ·rw[List.append_nil,hs ds hlen,hrt]
   exact trodAll_cons_mk (shut_bool htb true) trodAll_mk0
  ·rw[List.append_nil,hs ds hlen]
   refine AdO hw hys hA fun m hm=> ?_
   have:=hW'.lt m (by simp[hm])
   simpa using this
  ·rw[hvars,List.append_nil,hs ds hlen];exact rfl
  ·refine⟨po.os,po.output,fun i hi=> ?_⟩
   rw[hw i hi]
   have hz:∃o,W.heap[i]? =some o:=⟨_,Array.getElem?_eq_getElem hi⟩
   obtain⟨o,ho⟩:=hz
   rw[ho]
   cases o with
   | cells c t fr=>exact⟨rfl,rfl,rfl,fun _ _=>rfl⟩
   | map es cl=>exact .inr ⟨rfl,rfl⟩
   | _=>rfl
  ·intro h;cases h
 | _=>exact hq.elim
end
end Go.Eng
namespace Go.Eng
def AjJ (D:Dn) (g:Nat) (args:List V) (given:List O) (K:V->List O->Prop):Prop:=∃res outs,D g args given res outs/\K res outs
def AgX (H:Hp) (ks sites:List Nat) (K:V->DL->Prop):V->List O->Prop:=fun res outs=>
 match P9 H ks outs,imp H sites res with
 | some u,some (v,u',_)=>K v (u++u')
 | _,_=>False
section
variable {D:Dn} {c:Cf} {H:Hp} {K:V->DL->Prop}
theorem Aa {g:Nat} {args:List V} {given:List O} {K:V->List O->Prop} {res:V} {outs:List O} (h:D g args given res outs) (hk:K res outs):AjJ D g args given K:=⟨res,outs,h,hk⟩
theorem Aiv {ev:Src->V} {g:Nat} {args:List (Bool×Src)} {sites:List Nat}:stepW D c H ev (.call g args sites) K=EX D c H K g (args.map fun(b,x)=>(b,ev x)) sites:=rfl
theorem AgM {ev:Src->V} {f:Src} {args:List (Bool×Src)} {sites:List Nat}:stepW D c H ev (.callv f args sites) K=
 (match ev f with
 | .fn g caps=>EX D c H K g ((args.map fun(b,x)=>(b,ev x))++caps.map fun v=>(false,v)) sites
 | _=>False):=rfl
theorem AfI {ev:Src->V} {g:Nat} {args:List (Bool×Src)} {sites:List Nat}:stepW D c H ev (.callp g args sites) K=EX D ⟨true,c.takes⟩ H K g (args.map fun(b,x)=>(b,ev x)) sites:=rfl
theorem AmD {g:Nat} {args:List (Bool×V)} {sites:List Nat}:EX D c H K g args sites=
 (match Gi H 0 args with
 | none=>False
 | some ks=>if Nh c H ks=false then False else match F6 H (BK ks H) 0 args with
  | none=>False
  | some args'=>AjJ D g args' (ks.map fun k=>GX (H k)) (AgX H ks sites K)):=rfl
end
def ghK (Q:St->Prop):Option St->Prop
 | some s=>Q s
 | none=>False
def Abk (K:V->DL->Prop):Option DL->Option (V×DL×List Nat)->Prop
 | some u,some (v,u',_)=>K v (u++u')
 | _,_=>False
theorem AkX {v:V} {u:DL} {K:V->DL->Prop}:LZ (some (v,u)) K=K v u:=rfl
theorem AkT {K:V->DL->Prop}:LZ none K=False:=rfl
theorem Amc {Q:St->Prop} {s:St}:ghK Q (some s)=Q s:=rfl
theorem Anl {Q:St->Prop}:ghK Q none=False:=rfl
theorem Agj {K:V->DL->Prop} {u u':DL} {v:V} {l:List Nat}:Abk K (some u) (some (v,u',l))=K v (u++u'):=rfl
theorem AmZ {r:Ce} {Qs:St->Prop} {env vals:List V} {H:List O}:AmK r Qs env vals H=ghK Qs (Gc ⟨clear (sets vals env r.sets) r.clr,H⟩ r.Gc):=by
 unfold AmK ghK;split<;>simp_all
theorem AkW {H:Hp} {ks sites:List Nat} {K:V->DL->Prop} {res:V} {outs:List O}:AgX H ks sites K res outs=Abk K (P9 H ks outs) (imp H sites res):=by
 unfold AgX Abk;split<;>simp_all
section
variable {D:Dn} {c:Cf}
@[congr] theorem An4 {g g':V} {t:Bool} {p q:Prop} (h:g=g'):Ab5 g t p q=Ab5 g' t p q:=by rw[h]
@[congr] theorem Apx {g g':V} {p q:Prop} (h:g=g'):Aj6 g p q=Aj6 g' p q:=by rw[h]
@[congr] theorem AqJ {r r':Option (V×DL)} {K:V->DL->Prop} (h:r=r'):LZ r K=LZ r' K:=by rw[h]
@[congr] theorem Aq8 {r r':Option St} {K:St->Prop} (h:r=r'):ghK K r=ghK K r':=by rw[h]
@[congr] theorem AoM {a a':Option DL} {r r':Option (V×DL×List Nat)} {K:V->DL->Prop} (h:a=a') (h':r=r'):Abk K a r=Abk K a' r':=by rw[h,h']
@[congr] theorem Aps {g:Nat} {args args':List V} {given given':List O} {K:V->List O->Prop} (h:args=args') (h':given=given'):AjJ D g args given K=AjJ D g args' given' K:=by rw[h,h']
@[congr] theorem Apo {H:Hp} {ks sites:List Nat} {K:V->DL->Prop} {r r':V} {o o':List O} (h:r=r') (h':o=o'):AgX H ks sites K r o=AgX H ks sites K r' o':=by rw[h,h']
@[congr] theorem Apq {b:SC} {Q:Out->St->Prop} {o o':Out} {s s':St} (h:o=o') (h':s=s'):Ado D c b Q o s=Ado D c b Q o' s':=by rw[h,h']
@[congr] theorem Aql {id:Nat} {Q:Out->St->Prop} {o o':Out} {s s':St} (h:o=o') (h':s=s'):Akm id Q o s=Akm id Q o' s':=by rw[h,h']
@[congr] theorem Aph {rs:List Res} {n:Nat} {res:V} {outs:List O} {o o':Out} {s s':St} (h:o=o') (h':s=s'):AdU rs n res outs o s=AdU rs n res outs o' s':=by rw[h,h']
@[congr] theorem Aq0 {env:List V} {tau:Option (List Nat)} {om:List Nat} {rest:List I7} {vals:List V} {H:List O} {Q:List V->List O->Prop} {v v':V} {u u':DL} (h:v=v') (h':u=u'):
 opK D c env tau om rest vals H Q v u=opK D c env tau om rest vals H Q v' u':=by rw[h,h']
@[congr] theorem Ap6 {r:Ce} {Qs:St->Prop} {env:List V} {vals vals':List V} {H H':List O} (h:vals=vals') (h':H=H'):AmK r Qs env vals H=AmK r Qs env vals' H':=by rw[h,h']
@[congr] theorem Apl {H:Hp} {ev:Src->V} {op:LG} {K:V->DL->Prop}:stepW D c H ev op K=stepW D c H ev op K:=rfl
@[congr] theorem Apy {H:Hp} {K:V->DL->Prop} {g:Nat} {args args':List (Bool×V)} {sites:List Nat} (h:args=args'):EX D c H K g args sites=EX D c H K g args' sites:=by rw[h]
end
attribute [simp] Aor Al2 Aog Aoh AmO AlK Amm AoE AlB Aej Ai3 AlF Agu Akr AnD Ad7 Ak3 Aiz AoY AiQ AgQ AdY AqF AmZ Amc Anl AkX AkT Agj Ald AgU Anm
attribute [simp] stepW Aiv AgM AfI AmD AkW Gi AbD MK QO Ab Nh F6 ro ro2 ro1 roL AlY imp Al0 Amu Alg AdW P9 Adz GX
attribute [simp] Dp op1 evs noU Si Aa0 sets clear Gc ghost Xc ZF Zw Tf Ang tie give Agk MX Kn AaK masked hp X7 BK kill OB M5 m1 m2 m3 okU X7 rename Y0 O3 Ns
theorem AkO {cs:List V} {o:Nat}:putAt cs o []=cs:=(rfl)
theorem Aki {cs:List V} {o:Nat} {v:V}:putAt cs o [v]=cs.set o v:=(rfl)
theorem AlS {a:V} {cs:List V} {o:Nat} {v:V} {r:List V}:putAt (a::cs) o (v::r)=putAt ((a::cs).set o v) (o+1) r:=(rfl)
attribute [simp] AkO Aki AlS
attribute [simp] Mr cellsOf Alh AO Lx II SL X4 Ac Acb AlX unV mmV Yp C8 Di OO Adf AlN Pt Sd Np Zz bounds IV OH Gu AcM isStr Ajw Pn PW Vv Ae3 VU Ajo AoA AjD AjR AjK Agr ZU Ab3 Me Ii Ahp Ajt
end Go.Eng
namespace Go.Eng
variable {α β γ:Type}
def rv (n:Nat):Nat×Nat:=
 match n % 4 with
 | 0=>(n / 4 % 8,n / 32)
 | 1=>(n / 4 % 64,n / 256)
 | 2=>(n / 4 % 4096,n / 16384)
 | _=>(n / 4 % 4722366482869645213696,n / 18889465931478580854784)
def rn (f:Nat->α×Nat):Nat->Nat->List α×Nat
 | 0,n=>([],n)
 | c+1,n=>match f n with
  | (x,m)=>match rn f c m with
   | (l,r)=>(x::l,r)
def rl (f:Nat->α×Nat) (n:Nat):List α×Nat:=
 match rv n with
 | (c,m)=>rn f c m
@[irreducible] def nI (n:Nat):Int:=n
@[irreducible] def nJ (n:Nat):Int:= -n
@[irreducible] def nU (n:Nat):UInt8:=UInt8.ofNat n
@[irreducible] def nS (l:List UInt8):V:= .sc (.string ⟨l.toArray⟩)
theorem ALq (n:Nat):nI n=(n:Int):=by unfold nI;rfl
theorem ALA (n:Nat):nJ n= -(n:Int):=by unfold nJ;rfl
theorem ALo (n:Nat):nU n=UInt8.ofNat n:=by unfold nU;rfl
theorem ALz (l:List UInt8):nS l= .sc (.string ⟨l.toArray⟩):=by unfold nS;rfl
def ALR (n:Nat):UInt8×Nat:=(nU (n % 256),n / 256)
def rk (n:Nat):IntKind:=
 match n % 8 with
 | 0=> .i8
 | 1=> .i16
 | 2=> .i32
 | 3=> .i64
 | 4=> .u8
 | 5=> .u16
 | 6=> .u32
 | _=> .u64
def rV1 (n:Nat):V×Nat:=
 match n % 16 with
 | 0=>match rv (n / 16)with
  | (k,m)=>(.sc (.int .i64 (nI k)),m)
 | 1=>match rv (n / 16)with
  | (k,m)=>(.sc (.int .i64 (nJ k)),m)
 | 2=>(.sc (.bool false),n / 16)
 | 3=>(.sc (.bool true),n / 16)
 | 4=>match rv (n / 16)with
  | (k,m)=>(.nil k,m)
 | 5=>(.undef,n / 16)
 | 6=>match rl ALR (n / 16)with
  | (l,m)=>(nS l,m)
 | 7=>match rv (n / 128)with
  | (k,m)=>(.sc (.int (rk (n / 16)) (nI k)),m)
 | 8=>match rv (n / 16)with
  | (k,m)=>(.fn k [],m)
 | _=>match rv (n / 16)with
  | (k,m)=>(.sl 0 k 0 [],m)
def rV (n:Nat):V×Nat:=
 match n % 16 with
 | 9=>match rl rV1 (n / 16)with
  | (l,m)=>(.agg l,m)
 | _=>rV1 n
def rs (n:Nat):Src×Nat:=
 match n % 4 with
 | 0=>match rv (n / 4)with
  | (k,m)=>(.loc k,m)
 | 1=>match rv (n / 4)with
  | (k,m)=>(.slot k,m)
 | _=>match rV (n / 4)with
  | (v,m)=>(.con v,m)
def ro' (f:Nat->α×Nat) (n:Nat):Option α×Nat:=
 match n % 2 with
 | 0=>(none,n / 2)
 | _=>match f (n / 2)with
  | (x,m)=>(some x,m)
def rb (n:Nat):Bool:=
 match n % 2 with
 | 0=>false
 | _=>true
def ra (n:Nat):(Bool×Src)×Nat:=
 match rs (n / 2)with
 | (x,m)=>((rb n,x),m)
def rp (n:Nat):(Nat×Nat×Src)×Nat:=
 match rv n with
 | (a,n)=>match rv n with
  | (b,n)=>match rs n with
   | (x,n)=>((a,b,x),n)
def r2 (n:Nat):(Nat×Nat)×Nat:=
 match rv n with
 | (a,n)=>match rv n with
  | (b,n)=>((a,b),n)
def ALG (n:Nat):BinOp:=
 match n % 32 with
 | 0=> .add
 | 1=> .sub
 | 2=> .mul
 | 3=> .quo
 | 4=> .rem
 | 5=> .eql
 | 6=> .neq
 | 7=> .lss
 | 8=> .leq
 | 9=> .gtr
 | 10=> .geq
 | 11=> .and
 | 12=> .or
 | 13=> .xor
 | 14=> .andNot
 | 15=> .shl
 | _=> .shr
def run' (n:Nat):UnOp:=
 match n % 4 with
 | 0=> .not
 | 1=> .neg
 | 2=> .xor
 | _=> .plus
def c1 (f:Nat->α×Nat) (k:α->LG) (n:Nat):LG×Nat:=match f n with | (x,n)=>(k x,n)
def c2 (f:Nat->α×Nat) (g:Nat->β×Nat) (k:α->β->LG) (n:Nat):LG×Nat:=match f n with | (x,n)=>c1 g (k x) n
def c3 (f:Nat->α×Nat) (g:Nat->β×Nat) (h:Nat->γ×Nat) (k:α->β->γ->LG) (n:Nat):LG×Nat:=match f n with | (x,n)=>c2 g h (k x) n
def ALQ (o n:Nat):LG×Nat:=
 match o with
 | 0=>c1 rs .mv n
 | 1=>c1 rs (.load none) n
 | 2=>c2 rv rs (fun k=> .load (some k)) n
 | 3=>c3 rv (rl ra) (rl rv) .call n
 | 4=>c2 rs rs (.bin (ALG n)) (n / 32)
 | 5=>c2 rs rv .fieldAddr n
 | 6=>c3 rv rs rs .store n
 | 7=>c1 rs (.len (rb n)) (n / 2)
 | 8=>c1 rs (.un (run' n)) (n / 4)
 | 9=>c3 rs rs rs .pick n
 | 10=>c3 rv rs rs .indexAddr n
 | 11=>c2 rv (rl rV) .alloc n
 | 12=>c2 rv rs .box n
 | 13=>match rv n with | (a,n)=>c3 rv rv (rl rs) (.buildSlice a) n
 | _=>c2 rs rv .extract n
def ALK (o n:Nat):LG×Nat:=
 match o with
 | 15=>match rv n with
  | (a,n)=>match rv n with
   | (b,n)=>match rv n with
    | (c,n)=>c2 rs rs (.append a b c (rb n)) (n / 2)
 | 16=>c2 (rl rV) (rl rp) .build n
 | 17=>c2 rs rs (.beq (rb n)) (n / 2)
 | 18=>match rv n with | (a,n)=>c3 rs (ro' rs) (ro' rs) (.slice a) n
 | 19=>c3 rs (rl ra) (rl rv) .callv n
 | 20=>c2 rv rs .take n
 | 21=>c2 rv (rl rs) .makeFunc n
 | 22=>c1 rs (.conv (rk n)) (n / 8)
 | 23=>c2 rs (rl rs) (.minmax (rb n)) (n / 2)
 | 24=>match rv n with
  | (a,n)=>match rv n with
   | (b,n)=>c3 rv (rl rV) rs (.makeSlice a b) n
 | 25=>c2 rs rs .indexS n
 | 26=>match rv n with | (a,n)=>c3 rv rs rs (.indexA a) n
 | 27=>c1 rs .bstr n
 | 28=>c2 rs rv (.field none) n
 | _=>match rv n with | (a,n)=>c2 rs rv (.field (some a)) n
def rop (n:Nat):LG×Nat:=bif Nat.blt (n % 32) 15 then ALQ (n % 32) (n / 32)else ALK (n % 32) (n / 32)
def rgd (n:Nat):(Nat×Bool)×Nat:=
 match rv n with
 | (a,n)=>((a,rb n),n / 2)
def rgh (n:Nat):Gh×Nat:=
 match n % 8 with
 | 0=>match r2 (n / 8)with
  | ((a,b),n)=>(.own a b,n)
 | 1=>match r2 (n / 8)with
  | ((a,b),n)=>match rv n with
   | (c,n)=>(.ownc a b c,n)
 | 2=>match r2 (n / 8)with
  | ((a,b),n)=>(.ren a b,n)
 | 3=>match rv (n / 8)with
  | (a,n)=>(.untake a,n)
 | _=>match rv (n / 8)with
  | (a,n)=>(.drop a,n)
def ALO (g d:Bool) (n:Nat):I7×Nat:=
 match rop n with
 | (o,n)=>match g with
  | false=>match d with
   | false=>(⟨o,none,none,[]⟩,n)
   | true=>match rl rv n with
    | (t,n)=>match rl rv n with
     | (w,n)=>(⟨o,none,some t,w⟩,n)
  | true=>match ro' rgd n with
   | (q,n)=>match d with
    | false=>(⟨o,q,none,[]⟩,n)
    | true=>match rl rv n with
     | (t,n)=>match rl rv n with
      | (w,n)=>(⟨o,q,some t,w⟩,n)
def rR (n:Nat):Ce:=
 match rv (n / 8)with
 | (id,m)=>match rl (ALO (rb (n / 4)) (rb n)) m with
  | (ops,m)=>match rl r2 m with
   | (sets,m)=>match rb (n / 2)with
    | false=>⟨id,rb n,[],ops,sets,[],[]⟩
    | true=>match rl rv m with
     | (fresh,m)=>match rl rgh m with
      | (gh,m)=>match rl rv m with
       | (clr,_)=>⟨id,rb n,fresh,ops,sets,gh,clr⟩
def rC:Nat->List Nat->Nat->SC×List Nat×Nat
 | 0,rs,n=>(.stuck,rs,n)
 | f+1,rs,n=>match n % 16 with
  | 0=>match rs with
   | []=>(.stuck,[],n)
   | r::t=>(.reg (rR r),t,n / 16)
  | 1=>match rC f rs (n / 16)with
   | (a,rs,n)=>match rC f rs n with
    | (b,rs,n)=>(.seq a b,rs,n)
  | 2=>match rv (n / 16)with
   | (c,n)=>match rC f rs n with
    | (a,rs,n)=>match rC f rs n with
     | (b,rs,n)=>(.cond c a b,rs,n)
  | 3=>match rv (n / 16)with
   | (c,n)=>match rC f rs n with
    | (a,rs,n)=>(.block c a,rs,n)
  | 4=>match rC f rs (n / 16)with
   | (a,rs,n)=>(.loop a,rs,n)
  | 5=>match rv (n / 16)with
   | (c,n)=>(.exit c,rs,n)
  | 6=>(.ret,rs,n / 16)
  | 7=>(.skip,rs,n / 16)
  | _=>(.stuck,rs,n / 16)
def ALN (n:Nat):Res×Nat:=
 match n % 2 with
 | 0=>match rv (n / 2)with
  | (a,n)=>(.slot a,n)
 | _=>match rv (n / 2)with
  | (a,n)=>match ro' rv n with
   | (o,n)=>(.cell a o,n)
def dF (h c:Nat) (rs:List Nat):Cm:=
 match rv h with
 | (ns,h)=>match rv h with
  | (no,h)=>match rl rv h with
   | (ps,h)=>match rv h with
    | (ng,h)=>match rl rv (h / 2)with
     | (tk,h')=>match rl ALN h' with
      | (res,_)=>match rC 100 rs c with
       | (b,_)=>⟨ns,no,ps,ng,rb h,tk,b,res⟩
def sums:Nat->List Nat->List Nat
 | _,[]=> []
 | p,d::t=>(p+d)::sums (p+d) t
def mk (h c:Nat) (rs:List Nat) {x:Cm} (_p:x=dF h c rs:=by conv=>rhs;reduce):Cm:=x
attribute [simp] mk ALq ALA ALo ALz
def dT (n:Nat):List Tmp:=
 match rl rv n with
 | (l,_)=>sums 0 l
end Go.Eng
namespace Go.Eng.X
open Go.Eng
instance:Coe LG I7:=⟨fun o=>⟨o,none,none,[]⟩⟩
abbrev s (n:Nat):Src:= .slot n
abbrev l (n:Nat):Src:= .loc n
abbrev i (n:Int):Src:= .con (.sc (.int .i64 n))
abbrev t:Src:= .con (.sc (.bool true))
abbrev f:Src:= .con (.sc (.bool false))
abbrev z (n:Nat):Src:= .con (.nil n)
abbrev u:Src:= .con .undef
abbrev g (n:Nat):Src:= .con (.fn n [])
abbrev o:V:= .sc (.int .i64 0)
abbrev c:V:= .sc (.bool false)
abbrev N (n:Nat):V:= .nil n
abbrev zW:List V:=[N 1,N 1,o,N 4,o,N 1,o,c,o,o,N 5,N 8,o,o,o]
abbrev zD:List V:=[c,o,N 1,o,N 1]
abbrev zL:List V:=[o,o,c,c,o,N 1,o,N 1]
abbrev r (x:Src):Bool×Src:=(false,x)
abbrev v (x:Src):Bool×Src:=(true,x)
abbrev m (x:Src):LG:= .mv x
abbrev L (x:Src):LG:= .load none x
abbrev P (n:Nat) (x:Src):LG:= .load (some n) x
abbrev C (g:Nat) (a:List (Bool×Src)) (b:List Nat):LG:= .call g a b
abbrev y (o:BinOp) (a b:Src):LG:= .bin o a b
abbrev F (x:Src) (n:Nat):LG:= .fieldAddr x n
abbrev W (n:Nat) (a b:Src):LG:= .store n a b
abbrev e (x:Src):LG:= .len false x
abbrev n (x:Src):LG:= .un .not x
abbrev k (a b c:Src):LG:= .pick a b c
abbrev A (n:Nat) (a b:Src):LG:= .indexAddr n a b
abbrev a (n:Nat) (l:List V):LG:= .alloc n l
abbrev x (n:Nat) (a:Src):LG:= .box n a
abbrev b (l:List V) (p:List (Nat×Nat×Src)):LG:= .build l p
abbrev M (k e n:Nat) (p:List Src):LG:= .buildSlice k e n p
abbrev X (a:Src) (n:Nat):LG:= .extract a n
abbrev p (k e b:Nat) (x y:Src):LG:= .append k e b true x y
abbrev q (k e b:Nat) (x y:Src):LG:= .append k e b false x y
abbrev G (n:Nat) (o:LG):I7:=⟨o,some (n,false),none,[]⟩
abbrev D (o:LG) (a b:List Nat):I7:=⟨o,none,some a,b⟩
abbrev H (n:Nat) (o:LG) (a b:List Nat):I7:=⟨o,some (n,false),some a,b⟩
abbrev K (n:Nat) (o:LG) (a b:List Nat):I7:=⟨o,some (n,true),some a,b⟩
abbrev w (a b:Nat):Gh:= .ren a b
abbrev R (i:Nat) (o:List I7) (s:List (Nat×Nat)) (c:List Nat):Ce:=⟨i,false,[],o,s,[],c⟩
abbrev T (i:Nat) (o:List I7) (s:List (Nat×Nat)) (c:List Nat):Ce:=⟨i,true,[],o,s,[],c⟩
abbrev Q (i:Nat) (o:List I7) (s:List (Nat×Nat)) (c f:List Nat) (g:List Gh):Ce:=⟨i,false,f,o,s,g,c⟩
abbrev Y (i:Nat) (o:List I7) (s:List (Nat×Nat)) (c f:List Nat) (g:List Gh):Ce:=⟨i,true,f,o,s,g,c⟩
abbrev d (r:Ce):SC:= .reg r
abbrev j (a b:SC):SC:= .seq a b
abbrev h (n:Nat) (a b:SC):SC:= .cond n a b
abbrev l0:Src:= .loc 0
abbrev l1:Src:= .loc 1
abbrev l2:Src:= .loc 2
abbrev l3:Src:= .loc 3
abbrev l4:Src:= .loc 4
abbrev l5:Src:= .loc 5
abbrev l6:Src:= .loc 6
abbrev l7:Src:= .loc 7
abbrev l8:Src:= .loc 8
abbrev l9:Src:= .loc 9
abbrev l10:Src:= .loc 10
abbrev Iz:Src:= .loc 11
abbrev K6:Src:= .loc 12
abbrev ME:Src:= .loc 13
abbrev P8:Src:= .loc 14
abbrev R5:Src:= .loc 15
abbrev V6:Src:= .loc 16
abbrev XK:Src:= .loc 17
abbrev s0:Src:= .slot 0
abbrev s1:Src:= .slot 1
abbrev s2:Src:= .slot 2
abbrev s3:Src:= .slot 3
abbrev s4:Src:= .slot 4
abbrev s5:Src:= .slot 5
abbrev s6:Src:= .slot 6
abbrev s7:Src:= .slot 7
abbrev s8:Src:= .slot 8
abbrev s11:Src:= .slot 11
abbrev s12:Src:= .slot 12
abbrev s13:Src:= .slot 13
abbrev i0:Src:= .con (.sc (.int .i64 0))
abbrev i1:Src:= .con (.sc (.int .i64 1))
abbrev i2:Src:= .con (.sc (.int .i64 2))
abbrev sk:SC:= .skip
abbrev U (r:Ce) (b:SC):SC:= .seq (.reg r) b
abbrev ur (r:Ce):SC:= .seq (.reg r) .ret
abbrev hs (n:Nat) (a:SC):SC:= .cond n a .skip
attribute [simp] i0 i1 i2 sk U ur hs l0 l1 l2 l3 l4 l5 l6 l7 l8 l9 l10 Iz K6 ME P8 R5 V6 XK s0 s1 s2 s3 s4 s5 s6 s7 s8 s11 s12 s13
attribute [simp] s l i t f z u g o c N zW zD zL r v m L P C y F W e n k A a x b M X p q G D H K w R T Q Y d j h
end Go.Eng.X
