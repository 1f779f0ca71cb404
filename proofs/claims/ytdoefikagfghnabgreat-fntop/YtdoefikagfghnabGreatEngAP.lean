/- Own work: part 42 of the proof of FnTop. -/
import Derived.Test.YtdoefikagfghnabGreatEngAO
set_option linter.unusedSimpArgs false
set_option linter.unusedVariables false
namespace Go.Eng
def AsD (D:Dn) (g:Nat) (args:List V) (given:List O) (K:V→List O→Prop):Prop:=∃res outs,D g args given res outs∧K res outs
def Aks (H:Hp) (ks sites:List Nat) (K:V→Ec→Prop):V→List O→Prop:=fun res outs=>
 match Vy H ks outs,imp H sites res with
 | some u,some (v,u',_)=>K v (u++u')
 | _,_=>False
section
variable {D:Dn} {c:Cf} {H:Hp} {K:V→Ec→Prop}
theorem Aa {g:Nat} {args:List V} {given:List O} {K:V→List O→Prop} {res:V} {outs:List O} (h:D g args given res outs) (hk:K res outs):AsD D g args given K:=⟨res,outs,h,hk⟩
theorem ApV {ev:Src→V} {g:Nat} {args:List (Bool×Src)} {sites:List Nat}:stepW D c H ev (.call g args sites) K=Gg D c H K g (args.map fun(b,x)=>(b,ev x)) sites:=rfl
theorem AoF {ev:Src→V} {f:Src} {args:List (Bool×Src)} {sites:List Nat}:stepW D c H ev (.callv f args sites) K=
 (match ev f with
 | .fn g caps=>Gg D c H K g ((args.map fun(b,x)=>(b,ev x))++caps.map fun v=>(false,v)) sites
 | _=>False):=rfl
theorem Ayj {g:Nat} {args:List (Bool×V)} {sites:List Nat}:Gg D c H K g args sites=
 (match IK H 0 args with
 | none=>False
 | some ks=>if YD c H ks=false then False else match GI H (Ca ks H) 0 args with
  | none=>False
  | some args'=>AsD D g args' (ks.map fun k=>KA (H k)) (Aks H ks sites K)):=rfl
theorem AEf {ks sites:List Nat} {res:V} {outs:List O}:Aks H ks sites K res outs=
 (match Vy H ks outs,imp H sites res with
 | some u,some (v,u',_)=>K v (u++u')
 | _,_=>False):=rfl
end
def ghK (Q:St→Prop):Option St→Prop
 | some s=>Q s
 | none=>False
def Afo (K:V→Ec→Prop):Option Ec→Option (V×Ec×List Nat)→Prop
 | some u,some (v,u',_)=>K v (u++u')
 | _,_=>False
theorem Atq {v:V} {u:Ec} {K:V→Ec→Prop}:Py (some (v,u)) K=K v u:=rfl
theorem Aus {K:V→Ec→Prop}:Py none K=False:=rfl
theorem Awi {Q:St→Prop} {s:St}:ghK Q (some s)=Q s:=rfl
theorem AxJ {Q:St→Prop}:ghK Q none=False:=rfl
theorem AmQ {K:V→Ec→Prop} {u u':Ec} {v:V} {l:List Nat}:Afo K (some u) (some (v,u',l))=K v (u++u'):=rfl
theorem AwA {r:Bu} {Qs:St→Prop} {env vals:List V} {H:List O}:Atc r Qs env vals H=ghK Qs (F9 ⟨clear (sets vals env r.sets) r.clr,H⟩ r.F9):=by
 unfold Atc ghK;split<;>simp_all
theorem AtL {H:Hp} {ks sites:List Nat} {K:V→Ec→Prop} {res:V} {outs:List O}:Aks H ks sites K res outs=Afo K (Vy H ks outs) (imp H sites res):=by
 unfold Aks Afo;split<;>simp_all
section
variable {D:Dn} {c:Cf}
@[congr] theorem AAb {g g':V} {t:Bool} {p q:Prop} (h:g=g'):Af5 g t p q=Af5 g' t p q:=by rw[h]
@[congr] theorem ABy {g g':V} {p q:Prop} (h:g=g'):AsA g p q=AsA g' p q:=by rw[h]
@[congr] theorem ACc {r r':Option (V×Ec)} {K:V→Ec→Prop} (h:r=r'):Py r K=Py r' K:=by rw[h]
@[congr] theorem ADY {r r':Option St} {K:St→Prop} (h:r=r'):ghK K r=ghK K r':=by rw[h]
@[congr] theorem AAW {a a':Option Ec} {r r':Option (V×Ec×List Nat)} {K:V→Ec→Prop} (h:a=a') (h':r=r'):Afo K a r=Afo K a' r':=by rw[h,h']
@[congr] theorem ABx {g:Nat} {args args':List V} {given given':List O} {K:V→List O→Prop} (h:args=args') (h':given=given'):AsD D g args given K=AsD D g args' given' K:=by rw[h,h']
@[congr] theorem ABC {H:Hp} {ks sites:List Nat} {K:V→Ec→Prop} {r r':V} {o o':List O} (h:r=r') (h':o=o'):Aks H ks sites K r o=Aks H ks sites K r' o':=by rw[h,h']
@[congr] theorem ABA {b:SC} {Q:Out→St→Prop} {o o':Out} {s s':St} (h:o=o') (h':s=s'):AjX D c b Q o s=AjX D c b Q o' s':=by rw[h,h']
@[congr] theorem ACu {id:Nat} {Q:Out→St→Prop} {o o':Out} {s s':St} (h:o=o') (h':s=s'):AuM id Q o s=AuM id Q o' s':=by rw[h,h']
@[congr] theorem ABK {rs:List Res} {n:Nat} {res:V} {outs:List O} {o o':Out} {s s':St} (h:o=o') (h':s=s'):Aj9 rs n res outs o s=Aj9 rs n res outs o' s':=by rw[h,h']
@[congr] theorem ADV {env:List V} {tau:Option (List Nat)} {om:List Nat} {rest:List LF} {vals:List V} {H:List O} {Q:List V→List O→Prop} {v v':V} {u u':Ec} (h:v=v') (h':u=u'):
 opK D c env tau om rest vals H Q v u=opK D c env tau om rest vals H Q v' u':=by rw[h,h']
@[congr] theorem AB8 {r:Bu} {Qs:St→Prop} {env:List V} {vals vals':List V} {H H':List O} (h:vals=vals') (h':H=H'):Atc r Qs env vals H=Atc r Qs env vals' H':=by rw[h,h']
@[congr] theorem ABu {H:Hp} {ev:Src→V} {op:LD} {K:V→Ec→Prop}:stepW D c H ev op K=stepW D c H ev op K:=rfl
@[congr] theorem ABq {H:Hp} {K:V→Ec→Prop} {g:Nat} {args args':List (Bool×V)} {sites:List Nat} (h:args=args'):Gg D c H K g args sites=Gg D c H K g args' sites:=by rw[h]
end
attribute [simp] AzM Axj AzW Azq Aw5 AuB Awe Az0 AsS Amd Aq0 AsW Aox AuA AxK Alo Atu AqK AAe AqT Apd Amf ACq AwA Awi AxJ Atq Aus AmQ Ats Ant Ax3
attribute [simp] stepW ApV AoF Ayj AtL IK Af9 QO Vh AY YD GI ro ro2 ro1 roL Aqo imp Axi Axn AtM AkA Vy Aj2 KA
attribute [simp] Dp op1 evs noU WR AgH sets clear F9 ghost Abg AeO AeR Xd Ax1 tie give Aoy QT Na Ahj masked hp shp Ca kill O8 Nv m1 m2 m3 okU shp rename Za TU RV
theorem Aux {cs:List V} {o:Nat}:putAt cs o []=cs:=(rfl)
theorem AuK {cs:List V} {o:Nat} {v:V}:putAt cs o [v]=cs.set o v:=(rfl)
theorem Atd {a:V} {cs:List V} {o:Nat} {v:V} {r:List V}:putAt (a::cs) o (v::r)=putAt ((a::cs).set o v) (o+1) r:=(rfl)
attribute [simp] Aux AuK Atd
attribute [simp] PU cellsOf Aua AX OM K6 Xc AcI Ag wrp AiL AwW unV mmV asI C8 Dh Ug Akm AtF TY VY Q9 AeW bounds LB Tq IB AiH isStr Ash Tw TB Zv Ak4 Zi Ar1 AAU Asz ArX AkH AoT Ahk Ag2 Ph Kl Ani Ar2
end Go.Eng
