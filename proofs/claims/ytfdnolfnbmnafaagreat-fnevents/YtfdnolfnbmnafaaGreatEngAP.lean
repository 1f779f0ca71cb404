/- Own work: part 42 of the proof of FnEvents. -/
import Derived.Test.YtfdnolfnbmnafaaGreatEngAO
set_option linter.unusedSimpArgs false
set_option linter.unusedVariables false
namespace Go.Eng
def ADz (D:Dn) (g:Nat) (args:List V) (given:List O) (K:V→List O→Prop):Prop:=∃res outs,D g args given res outs∧K res outs
def Auf (H:Hp) (ks sites:List Nat) (K:V→Gq→Prop):V→List O→Prop:=fun res outs=>
 match XU H ks outs,imp H sites res with
 | some u,some (v,u',_)=>K v (u++u')
 | _,_=>False
section
variable {D:Dn} {c:Cf} {H:Hp} {K:V→Gq→Prop}
theorem Aa {g:Nat} {args:List V} {given:List O} {K:V→List O→Prop} {res:V} {outs:List O} (h:D g args given res outs) (hk:K res outs):ADz D g args given K:=⟨res,outs,h,hk⟩
theorem ACw {ev:Src→V} {g:Nat} {args:List (Bool×Src)} {sites:List Nat}:stepW D c H ev (.call g args sites) K=KA D c H K g (args.map fun(b,x)=>(b,ev x)) sites:=rfl
theorem AyY {ev:Src→V} {f:Src} {args:List (Bool×Src)} {sites:List Nat}:stepW D c H ev (.callv f args sites) K=
 (match ev f with
 | .fn g caps=>KA D c H K g ((args.map fun(b,x)=>(b,ev x))++caps.map fun v=>(false,v)) sites
 | _=>False):=rfl
theorem AzS {ev:Src→V} {g:Nat} {args:List (Bool×Src)} {sites:List Nat}:stepW D c H ev (.callp g args sites) K=KA D ⟨true,c.takes⟩ H K g (args.map fun(b,x)=>(b,ev x)) sites:=rfl
theorem AH9 {g:Nat} {args:List (Bool×V)} {sites:List Nat}:KA D c H K g args sites=
 (match Kc H 0 args with
 | none=>False
 | some ks=>if Ws c H ks=false then False else match Jp H (Dp ks H) 0 args with
  | none=>False
  | some args'=>ADz D g args' (ks.map fun k=>Mk (H k)) (Auf H ks sites K)):=rfl
theorem ANF {ks sites:List Nat} {res:V} {outs:List O}:Auf H ks sites K res outs=
 (match XU H ks outs,imp H sites res with
 | some u,some (v,u',_)=>K v (u++u')
 | _,_=>False):=rfl
end
def ghK (Q:St→Prop):Option St→Prop
 | some s=>Q s
 | none=>False
def Apo (K:V→Gq→Prop):Option Gq→Option (V×Gq×List Nat)→Prop
 | some u,some (v,u',_)=>K v (u++u')
 | _,_=>False
theorem AFN {v:V} {u:Gq} {K:V→Gq→Prop}:W9 (some (v,u)) K=K v u:=rfl
theorem AEu {K:V→Gq→Prop}:W9 none K=False:=rfl
theorem AHi {Q:St→Prop} {s:St}:ghK Q (some s)=Q s:=rfl
theorem AIu {Q:St→Prop}:ghK Q none=False:=rfl
theorem AzA {K:V→Gq→Prop} {u u':Gq} {v:V} {l:List Nat}:Apo K (some u) (some (v,u',l))=K v (u++u'):=rfl
theorem AH8 {r:Bl} {Qs:St→Prop} {env vals:List V} {H:List O}:AFc r Qs env vals H=ghK Qs (JK ⟨clear (sets vals env r.sets) r.clr,H⟩ r.JK):=by
 unfold AFc ghK;split<;>simp_all
theorem AER {H:Hp} {ks sites:List Nat} {K:V→Gq→Prop} {res:V} {outs:List O}:Auf H ks sites K res outs=Apo K (XU H ks outs) (imp H sites res):=by
 unfold Auf Apo;split<;>simp_all
section
variable {D:Dn} {c:Cf}
@[congr] theorem AK3 {g g':V} {t:Bool} {p q:Prop} (h:g=g'):AoR g t p q=AoR g' t p q:=by rw[h]
@[congr] theorem ALH {g g':V} {p q:Prop} (h:g=g'):ADB g p q=ADB g' p q:=by rw[h]
@[congr] theorem AM4 {r r':Option (V×Gq)} {K:V→Gq→Prop} (h:r=r'):W9 r K=W9 r' K:=by rw[h]
@[congr] theorem ANw {r r':Option St} {K:St→Prop} (h:r=r'):ghK K r=ghK K r':=by rw[h]
@[congr] theorem ALt {a a':Option Gq} {r r':Option (V×Gq×List Nat)} {K:V→Gq→Prop} (h:a=a') (h':r=r'):Apo K a r=Apo K a' r':=by rw[h,h']
@[congr] theorem ALD {g:Nat} {args args':List V} {given given':List O} {K:V→List O→Prop} (h:args=args') (h':given=given'):ADz D g args given K=ADz D g args' given' K:=by rw[h,h']
@[congr] theorem ALI {H:Hp} {ks sites:List Nat} {K:V→Gq→Prop} {r r':V} {o o':List O} (h:r=r') (h':o=o'):Auf H ks sites K r o=Auf H ks sites K r' o':=by rw[h,h']
@[congr] theorem ALT {b:SC} {Q:Out→St→Prop} {o o':Out} {s s':St} (h:o=o') (h':s=s'):Auh D c b Q o s=Auh D c b Q o' s':=by rw[h,h']
@[congr] theorem AMm {id:Nat} {Q:Out→St→Prop} {o o':Out} {s s':St} (h:o=o') (h':s=s'):AEQ id Q o s=AEQ id Q o' s':=by rw[h,h']
@[congr] theorem ALQ {rs:List Res} {n:Nat} {res:V} {outs:List O} {o o':Out} {s s':St} (h:o=o') (h':s=s'):Aut rs n res outs o s=Aut rs n res outs o' s':=by rw[h,h']
@[congr] theorem ANe {env:List V} {tau:Option (List Nat)} {om:List Nat} {rest:List Qq} {vals:List V} {H:List O} {Q:List V→List O→Prop} {v v':V} {u u':Gq} (h:v=v') (h':u=u'):
 opK D c env tau om rest vals H Q v u=opK D c env tau om rest vals H Q v' u':=by rw[h,h']
@[congr] theorem AMq {r:Bl} {Qs:St→Prop} {env:List V} {vals vals':List V} {H H':List O} (h:vals=vals') (h':H=H'):AFc r Qs env vals H=AFc r Qs env vals' H':=by rw[h,h']
@[congr] theorem ALN {H:Hp} {ev:Src→V} {op:JQ} {K:V→Gq→Prop}:stepW D c H ev op K=stepW D c H ev op K:=rfl
@[congr] theorem ALz {H:Hp} {K:V→Gq→Prop} {g:Nat} {args args':List (Bool×V)} {sites:List Nat} (h:args=args'):KA D c H K g args sites=KA D c H K g args' sites:=by rw[h]
end
attribute [simp] AJ2 AHe AKB AJW AIO AFy AHx AKU AEw Axl AAU AEn AyB AEf AIs AvC AEg ABr AJ4 ABn Az7 Awp AL1 AH8 AHi AIu AFN AEu AzA AED Azw AH1
attribute [simp] stepW ACw AyY AzS AH9 AER Kc Aqy VW Aab F5 Ws Jp ro ro2 ro1 roL ABV imp AG6 AIT AFV AuR XU At7 Mk
attribute [simp] Fu op1 evs noU Ahj AoW sets clear JK ghost AwN AnH Ant AkC AIJ tie give Azr VX Rk ApQ masked hp shp Dp kill Vm Q9 m1 m2 m3 okU shp rename AfZ Ze Wv
theorem AF4 {cs:List V} {o:Nat}:putAt cs o []=cs:=(rfl)
theorem AFq {cs:List V} {o:Nat} {v:V}:putAt cs o [v]=cs.set o v:=(rfl)
theorem AFi {a:V} {cs:List V} {o:Nat} {v:V} {r:List V}:putAt (a::cs) o (v::r)=putAt ((a::cs).set o v) (o+1) r:=(rfl)
attribute [simp] AF4 AFq AFi
attribute [simp] Vl cellsOf AFC Be TY OW AcM Akr Al wrp AsB AIm unV mmV asI EY Ff YZ AuC AF6 YX AbR Xh Anw bounds OO Zi Lp AtC isStr AC4 Zu Yp Agc Avp AfR ADZ AJ9 ADd ADT AtZ AyQ Ap2 Aqd UW NY AzZ ADn
end Go.Eng
