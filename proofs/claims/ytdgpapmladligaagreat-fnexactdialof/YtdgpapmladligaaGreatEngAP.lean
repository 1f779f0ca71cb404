/- Own work: part 42 of the proof of FnExactDialOf. -/
import Derived.Test.YtdgpapmladligaaGreatEngAO
set_option linter.unusedSimpArgs false
set_option linter.unusedVariables false
namespace Go.Eng
def Aro (D:Dn) (g:Nat) (args:List V) (given:List O) (K:V→List O→Prop):Prop:=∃res outs,D g args given res outs∧K res outs
def Aka (H:Hp) (ks sites:List Nat) (K:V→Ev→Prop):V→List O→Prop:=fun res outs=>
 match Vp H ks outs,imp H sites res with
 | some u,some (v,u',_)=>K v (u++u')
 | _,_=>False
section
variable {D:Dn} {c:Cf} {H:Hp} {K:V→Ev→Prop}
theorem Aa {g:Nat} {args:List V} {given:List O} {K:V→List O→Prop} {res:V} {outs:List O} (h:D g args given res outs) (hk:K res outs):Aro D g args given K:=⟨res,outs,h,hk⟩
theorem App {ev:Src→V} {g:Nat} {args:List (Bool×Src)} {sites:List Nat}:stepW D c H ev (.call g args sites) K=Jm D c H K g (args.map fun(b,x)=>(b,ev x)) sites:=rfl
theorem An9 {ev:Src→V} {f:Src} {args:List (Bool×Src)} {sites:List Nat}:stepW D c H ev (.callv f args sites) K=
 (match ev f with
 | .fn g caps=>Jm D c H K g ((args.map fun(b,x)=>(b,ev x))++caps.map fun v=>(false,v)) sites
 | _=>False):=rfl
theorem Awq {g:Nat} {args:List (Bool×V)} {sites:List Nat}:Jm D c H K g args sites=
 (match IC H 0 args with
 | none=>False
 | some ks=>if Ym c H ks=false then False else match G6 H (Cr ks H) 0 args with
  | none=>False
  | some args'=>Aro D g args' (ks.map fun k=>Kw (H k)) (Aka H ks sites K)):=rfl
theorem ACR {ks sites:List Nat} {res:V} {outs:List O}:Aka H ks sites K res outs=
 (match Vp H ks outs,imp H sites res with
 | some u,some (v,u',_)=>K v (u++u')
 | _,_=>False):=rfl
end
def ghK (Q:St→Prop):Option St→Prop
 | some s=>Q s
 | none=>False
def Ahz (K:V→Ev→Prop):Option Ev→Option (V×Ev×List Nat)→Prop
 | some u,some (v,u',_)=>K v (u++u')
 | _,_=>False
theorem AsJ {v:V} {u:Ev} {K:V→Ev→Prop}:QU (some (v,u)) K=K v u:=rfl
theorem Asv {K:V→Ev→Prop}:QU none K=False:=rfl
theorem Av3 {Q:St→Prop} {s:St}:ghK Q (some s)=Q s:=rfl
theorem Awr {Q:St→Prop}:ghK Q none=False:=rfl
theorem AnV {K:V→Ev→Prop} {u u':Ev} {v:V} {l:List Nat}:Ahz K (some u) (some (v,u',l))=K v (u++u'):=rfl
theorem AwG {r:Bz} {Qs:St→Prop} {env vals:List V} {H:List O}:AtP r Qs env vals H=ghK Qs (Gu ⟨clear (sets vals env r.sets) r.clr,H⟩ r.Gu):=by
 unfold AtP ghK;split<;>simp_all
theorem Atk {H:Hp} {ks sites:List Nat} {K:V→Ev→Prop} {res:V} {outs:List O}:Aka H ks sites K res outs=Ahz K (Vp H ks outs) (imp H sites res):=by
 unfold Aka Ahz;split<;>simp_all
section
variable {D:Dn} {c:Cf}
@[congr] theorem AzN {g g':V} {t:Bool} {p q:Prop} (h:g=g'):Afx g t p q=Afx g' t p q:=by rw[h]
@[congr] theorem AAt {g g':V} {p q:Prop} (h:g=g'):ArK g p q=ArK g' p q:=by rw[h]
@[congr] theorem ABs {r r':Option (V×Ev)} {K:V→Ev→Prop} (h:r=r'):QU r K=QU r' K:=by rw[h]
@[congr] theorem ACh {r r':Option St} {K:St→Prop} (h:r=r'):ghK K r=ghK K r':=by rw[h]
@[congr] theorem AyB {a a':Option Ev} {r r':Option (V×Ev×List Nat)} {K:V→Ev→Prop} (h:a=a') (h':r=r'):Ahz K a r=Ahz K a' r':=by rw[h,h']
@[congr] theorem AAo {g:Nat} {args args':List V} {given given':List O} {K:V→List O→Prop} (h:args=args') (h':given=given'):Aro D g args given K=Aro D g args' given' K:=by rw[h,h']
@[congr] theorem AAi {H:Hp} {ks sites:List Nat} {K:V→Ev→Prop} {r r':V} {o o':List O} (h:r=r') (h':o=o'):Aka H ks sites K r o=Aka H ks sites K r' o':=by rw[h,h']
@[congr] theorem AAq {b:SC} {Q:Out→St→Prop} {o o':Out} {s s':St} (h:o=o') (h':s=s'):Ajz D c b Q o s=Ajz D c b Q o' s':=by rw[h,h']
@[congr] theorem ABk {id:Nat} {Q:Out→St→Prop} {o o':Out} {s s':St} (h:o=o') (h':s=s'):AtH id Q o s=AtH id Q o' s':=by rw[h,h']
@[congr] theorem AAs {rs:List Res} {n:Nat} {res:V} {outs:List O} {o o':Out} {s s':St} (h:o=o') (h':s=s'):AjN rs n res outs o s=AjN rs n res outs o' s':=by rw[h,h']
@[congr] theorem ACd {env:List V} {tau:Option (List Nat)} {om:List Nat} {rest:List LG} {vals:List V} {H:List O} {Q:List V→List O→Prop} {v v':V} {u u':Ev} (h:v=v') (h':u=u'):
 opK D c env tau om rest vals H Q v u=opK D c env tau om rest vals H Q v' u':=by rw[h,h']
@[congr] theorem ABf {r:Bz} {Qs:St→Prop} {env:List V} {vals vals':List V} {H H':List O} (h:vals=vals') (h':H=H'):AtP r Qs env vals H=AtP r Qs env vals' H':=by rw[h,h']
@[congr] theorem AAk {H:Hp} {ev:Src→V} {op:Hw} {K:V→Ev→Prop}:stepW D c H ev op K=stepW D c H ev op K:=rfl
@[congr] theorem AAh {H:Hp} {K:V→Ev→Prop} {g:Nat} {args args':List (Bool×V)} {sites:List Nat} (h:args=args'):Jm D c H K g args sites=Jm D c H K g args' sites:=by rw[h]
end
attribute [simp] AzW Avq Ay9 Azf Awe Asd AvN AyA Aub AkR Aq3 AsW Ank AtG Avv Ald Atj Aqc Ay2 Apf AnJ Amg ABw AwG Av3 Awr AsJ Asv AnV Ash Aot AvZ
attribute [simp] stepW App An9 Awq Atk IC Af3 Qi Vk Eo Ym G6 ro ro2 ro1 roL ApX imp AwQ Awv AtL Aj2 Vp Aj6 Kw
attribute [simp] DZ op1 evs noU ZY Agw sets clear Gu ghost Alp AeM AeP AcJ Awm tie give Amv Qg Nh Af4 masked hp shp Cr kill O6 MS m1 m2 m3 okU shp rename ZT Sz QO
theorem Asx {cs:List V} {o:Nat}:putAt cs o []=cs:=(rfl)
theorem As7 {cs:List V} {o:Nat} {v:V}:putAt cs o [v]=cs.set o v:=(rfl)
theorem As3 {a:V} {cs:List V} {o:Nat} {v:V} {r:List V}:putAt (a::cs) o (v::r)=putAt ((a::cs).set o v) (o+1) r:=(rfl)
attribute [simp] Asx As7 As3
attribute [simp] Pf cellsOf AsS Be Oq Lb W9 AcG Ag wrp AhT Av6 unV mmV asI Dy DU Tm Aj0 AsX TT VK Rc AeW bounds KN S9 IA Ai8 isStr ArT Sr TB Aac Amk Y3 ArF Azh ArC Arp Ajx AnR AfX Ahn O7 Kb Aol Arq
end Go.Eng
