/- Own work: part 42 of the proof of FnExactIsTogether. -/
import Derived.Test.YtdgpapmladligaaGreatEngAO
set_option linter.unusedSimpArgs false
set_option linter.unusedVariables false
namespace Go.Eng
def Aqv (D:Dn) (g:Nat) (args:List V) (given:List O) (K:V→List O→Prop):Prop:=∃res outs,D g args given res outs∧K res outs
def AjN (H:Hp) (ks sites:List Nat) (K:V→Et→Prop):V→List O→Prop:=fun res outs=>
 match Va H ks outs,imp H sites res with
 | some u,some (v,u',_)=>K v (u++u')
 | _,_=>False
section
variable {D:Dn} {c:Cf} {H:Hp} {K:V→Et→Prop}
theorem Aa {g:Nat} {args:List V} {given:List O} {K:V→List O→Prop} {res:V} {outs:List O} (h:D g args given res outs) (hk:K res outs):Aqv D g args given K:=⟨res,outs,h,hk⟩
theorem AoE {ev:Src→V} {g:Nat} {args:List (Bool×Src)} {sites:List Nat}:stepW D c H ev (.call g args sites) K=Jo D c H K g (args.map fun(b,x)=>(b,ev x)) sites:=rfl
theorem Amf {ev:Src→V} {f:Src} {args:List (Bool×Src)} {sites:List Nat}:stepW D c H ev (.callv f args sites) K=
 (match ev f with
 | .fn g caps=>Jo D c H K g ((args.map fun(b,x)=>(b,ev x))++caps.map fun v=>(false,v)) sites
 | _=>False):=rfl
theorem Awj {g:Nat} {args:List (Bool×V)} {sites:List Nat}:Jo D c H K g args sites=
 (match Iz H 0 args with
 | none=>False
 | some ks=>if Yc c H ks=false then False else match GI H (Ci ks H) 0 args with
  | none=>False
  | some args'=>Aqv D g args' (ks.map fun k=>Kt (H k)) (AjN H ks sites K)):=rfl
theorem ABX {ks sites:List Nat} {res:V} {outs:List O}:AjN H ks sites K res outs=
 (match Va H ks outs,imp H sites res with
 | some u,some (v,u',_)=>K v (u++u')
 | _,_=>False):=rfl
end
def ghK (Q:St→Prop):Option St→Prop
 | some s=>Q s
 | none=>False
def AgN (K:V→Et→Prop):Option Et→Option (V×Et×List Nat)→Prop
 | some u,some (v,u',_)=>K v (u++u')
 | _,_=>False
theorem Asl {v:V} {u:Et} {K:V→Et→Prop}:QE (some (v,u)) K=K v u:=rfl
theorem ArM {K:V→Et→Prop}:QE none K=False:=rfl
theorem Avx {Q:St→Prop} {s:St}:ghK Q (some s)=Q s:=rfl
theorem Av8 {Q:St→Prop}:ghK Q none=False:=rfl
theorem AlZ {K:V→Et→Prop} {u u':Et} {v:V} {l:List Nat}:AgN K (some u) (some (v,u',l))=K v (u++u'):=rfl
theorem Au9 {r:Bv} {Qs:St→Prop} {env vals:List V} {H:List O}:Atj r Qs env vals H=ghK Qs (Gn ⟨clear (sets vals env r.sets) r.clr,H⟩ r.Gn):=by
 unfold Atj ghK;split<;>simp_all
theorem Ase {H:Hp} {ks sites:List Nat} {K:V→Et→Prop} {res:V} {outs:List O}:AjN H ks sites K res outs=AgN K (Va H ks outs) (imp H sites res):=by
 unfold AjN AgN;split<;>simp_all
section
variable {D:Dn} {c:Cf}
@[congr] theorem AyC {g g':V} {t:Bool} {p q:Prop} (h:g=g'):AeA g t p q=AeA g' t p q:=by rw[h]
@[congr] theorem AzJ {g g':V} {p q:Prop} (h:g=g'):AqO g p q=AqO g' p q:=by rw[h]
@[congr] theorem AAj {r r':Option (V×Et)} {K:V→Et→Prop} (h:r=r'):QE r K=QE r' K:=by rw[h]
@[congr] theorem ABz {r r':Option St} {K:St→Prop} (h:r=r'):ghK K r=ghK K r':=by rw[h]
@[congr] theorem Azz {a a':Option Et} {r r':Option (V×Et×List Nat)} {K:V→Et→Prop} (h:a=a') (h':r=r'):AgN K a r=AgN K a' r':=by rw[h,h']
@[congr] theorem Az0 {g:Nat} {args args':List V} {given given':List O} {K:V→List O→Prop} (h:args=args') (h':given=given'):Aqv D g args given K=Aqv D g args' given' K:=by rw[h,h']
@[congr] theorem AzQ {H:Hp} {ks sites:List Nat} {K:V→Et→Prop} {r r':V} {o o':List O} (h:r=r') (h':o=o'):AjN H ks sites K r o=AjN H ks sites K r' o':=by rw[h,h']
@[congr] theorem AzG {b:SC} {Q:Out→St→Prop} {o o':Out} {s s':St} (h:o=o') (h':s=s'):Ajh D c b Q o s=Ajh D c b Q o' s':=by rw[h,h']
@[congr] theorem ABe {id:Nat} {Q:Out→St→Prop} {o o':Out} {s s':St} (h:o=o') (h':s=s'):AsV id Q o s=AsV id Q o' s':=by rw[h,h']
@[congr] theorem AzK {rs:List Res} {n:Nat} {res:V} {outs:List O} {o o':Out} {s s':St} (h:o=o') (h':s=s'):AjH rs n res outs o s=AjH rs n res outs o' s':=by rw[h,h']
@[congr] theorem ABC {env:List V} {tau:Option (List Nat)} {om:List Nat} {rest:List ME} {vals:List V} {H:List O} {Q:List V→List O→Prop} {v v':V} {u u':Et} (h:v=v') (h':u=u'):
 opK D c env tau om rest vals H Q v u=opK D c env tau om rest vals H Q v' u':=by rw[h,h']
@[congr] theorem ABg {r:Bv} {Qs:St→Prop} {env:List V} {vals vals':List V} {H H':List O} (h:vals=vals') (h':H=H'):Atj r Qs env vals H=Atj r Qs env vals' H':=by rw[h,h']
@[congr] theorem AzU {H:Hp} {ev:Src→V} {op:I9} {K:V→Et→Prop}:stepW D c H ev op K=stepW D c H ev op K:=rfl
@[congr] theorem Az2 {H:Hp} {K:V→Et→Prop} {g:Nat} {args args':List (Bool×V)} {sites:List Nat} (h:args=args'):Jo D c H K g args sites=Jo D c H K g args' sites:=by rw[h]
end
attribute [simp] Azl AvE Ayq Ayh AuT ArC Awm AzA ArR Ak1 ApV ArD Al5 Asb Au5 AkW Asd Aqd Azf Aqf Am3 AkL AAL Au9 Avx Av8 Asl ArM AlZ Atn Am4 Avc
attribute [simp] stepW AoE Amf Awj Ase Iz Afe Qg UZ Eb Yc GI ro ro2 ro1 roL ApW imp AwB Au7 Atm AjK Va AjB Kt
attribute [simp] DK op1 evs noU Aao AgS sets clear Gn ghost Akm Aej Aei Acz Awk tie give An1 Ql Nk Agp masked hp shp Ci kill OU M7 m1 m2 m3 okU shp rename YL Tz QW
theorem ArN {cs:List V} {o:Nat}:putAt cs o []=cs:=(rfl)
theorem AsF {cs:List V} {o:Nat} {v:V}:putAt cs o [v]=cs.set o v:=(rfl)
theorem Asv {a:V} {cs:List V} {o:Nat} {v:V} {r:List V}:putAt (a::cs) o (v::r)=putAt ((a::cs).set o v) (o+1) r:=(rfl)
attribute [simp] ArN AsF Asv
attribute [simp] Ph cellsOf Atd A9 OB KS WJ Acu Af wrp AhW Awz unV mmV asI Dl DI TQ Ajf AsZ TJ VJ QG Aee bounds KE Tk Hu Ain isStr Aq8 Sm SG Aag Aks Aaq AqJ AyI AqM Ara Ajj Anh Af8 Ahe PX J5 Aoc Aro
end Go.Eng
