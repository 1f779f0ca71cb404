/- Own work: part 42 of the proof of FnExactTryAll. -/
import Derived.Test.YtdgpapmladligabGreatEngAO
set_option linter.unusedSimpArgs false
set_option linter.unusedVariables false
namespace Go.Eng
def Ayg (D:Dn) (g:Nat) (args:List V) (given:List O) (K:V→List O→Prop):Prop:=∃res outs,D g args given res outs∧K res outs
def AoY (H:Hp) (ks sites:List Nat) (K:V→EY→Prop):V→List O→Prop:=fun res outs=>
 match XO H ks outs,imp H sites res with
 | some u,some (v,u',_)=>K v (u++u')
 | _,_=>False
section
variable {D:Dn} {c:Cf} {H:Hp} {K:V→EY→Prop}
theorem Aa {g:Nat} {args:List V} {given:List O} {K:V→List O→Prop} {res:V} {outs:List O} (h:D g args given res outs) (hk:K res outs):Ayg D g args given K:=⟨res,outs,h,hk⟩
theorem AwF {ev:Src→V} {g:Nat} {args:List (Bool×Src)} {sites:List Nat}:stepW D c H ev (.call g args sites) K=II D c H K g (args.map fun(b,x)=>(b,ev x)) sites:=rfl
theorem AtJ {ev:Src→V} {f:Src} {args:List (Bool×Src)} {sites:List Nat}:stepW D c H ev (.callv f args sites) K=
 (match ev f with
 | .fn g caps=>II D c H K g ((args.map fun(b,x)=>(b,ev x))++caps.map fun v=>(false,v)) sites
 | _=>False):=rfl
theorem ABM {g:Nat} {args:List (Bool×V)} {sites:List Nat}:II D c H K g args sites=
 (match Ko H 0 args with
 | none=>False
 | some ks=>if Aa9 c H ks=false then False else match Jg H (CG ks H) 0 args with
  | none=>False
  | some args'=>Ayg D g args' (ks.map fun k=>Ny (H k)) (AoY H ks sites K)):=rfl
theorem AIx {ks sites:List Nat} {res:V} {outs:List O}:AoY H ks sites K res outs=
 (match XO H ks outs,imp H sites res with
 | some u,some (v,u',_)=>K v (u++u')
 | _,_=>False):=rfl
end
def ghK (Q:St→Prop):Option St→Prop
 | some s=>Q s
 | none=>False
def AlI (K:V→EY→Prop):Option EY→Option (V×EY×List Nat)→Prop
 | some u,some (v,u',_)=>K v (u++u')
 | _,_=>False
theorem Ay5 {v:V} {u:EY} {K:V→EY→Prop}:RY (some (v,u)) K=K v u:=rfl
theorem AAa {K:V→EY→Prop}:RY none K=False:=rfl
theorem AC3 {Q:St→Prop} {s:St}:ghK Q (some s)=Q s:=rfl
theorem ACF {Q:St→Prop}:ghK Q none=False:=rfl
theorem AsF {K:V→EY→Prop} {u u':EY} {v:V} {l:List Nat}:AlI K (some u) (some (v,u',l))=K v (u++u'):=rfl
theorem ADc {r:Bj} {Qs:St→Prop} {env vals:List V} {H:List O}:AyI r Qs env vals H=ghK Qs (IJ ⟨clear (sets vals env r.sets) r.clr,H⟩ r.IJ):=by
 unfold AyI ghK;split<;>simp_all
theorem AyO {H:Hp} {ks sites:List Nat} {K:V→EY→Prop} {res:V} {outs:List O}:AoY H ks sites K res outs=AlI K (XO H ks outs) (imp H sites res):=by
 unfold AoY AlI;split<;>simp_all
section
variable {D:Dn} {c:Cf}
@[congr] theorem AFF {g g':V} {t:Bool} {p q:Prop} (h:g=g'):Alq g t p q=Alq g' t p q:=by rw[h]
@[congr] theorem AGk {g g':V} {p q:Prop} (h:g=g'):AxB g p q=AxB g' p q:=by rw[h]
@[congr] theorem AHx {r r':Option (V×EY)} {K:V→EY→Prop} (h:r=r'):RY r K=RY r' K:=by rw[h]
@[congr] theorem AIp {r r':Option St} {K:St→Prop} (h:r=r'):ghK K r=ghK K r':=by rw[h]
@[congr] theorem AFN {a a':Option EY} {r r':Option (V×EY×List Nat)} {K:V→EY→Prop} (h:a=a') (h':r=r'):AlI K a r=AlI K a' r':=by rw[h,h']
@[congr] theorem AGl {g:Nat} {args args':List V} {given given':List O} {K:V→List O→Prop} (h:args=args') (h':given=given'):Ayg D g args given K=Ayg D g args' given' K:=by rw[h,h']
@[congr] theorem AGy {H:Hp} {ks sites:List Nat} {K:V→EY→Prop} {r r':V} {o o':List O} (h:r=r') (h':o=o'):AoY H ks sites K r o=AoY H ks sites K r' o':=by rw[h,h']
@[congr] theorem AGh {b:SC} {Q:Out→St→Prop} {o o':Out} {s s':St} (h:o=o') (h':s=s'):Ape D c b Q o s=Ape D c b Q o' s':=by rw[h,h']
@[congr] theorem AGL {id:Nat} {Q:Out→St→Prop} {o o':Out} {s s':St} (h:o=o') (h':s=s'):AyU id Q o s=AyU id Q o' s':=by rw[h,h']
@[congr] theorem AGq {rs:List Res} {n:Nat} {res:V} {outs:List O} {o o':Out} {s s':St} (h:o=o') (h':s=s'):Apc rs n res outs o s=Apc rs n res outs o' s':=by rw[h,h']
@[congr] theorem AIl {env:List V} {tau:Option (List Nat)} {om:List Nat} {rest:List NM} {vals:List V} {H:List O} {Q:List V→List O→Prop} {v v':V} {u u':EY} (h:v=v') (h':u=u'):
 opK D c env tau om rest vals H Q v u=opK D c env tau om rest vals H Q v' u':=by rw[h,h']
@[congr] theorem AGN {r:Bj} {Qs:St→Prop} {env:List V} {vals vals':List V} {H H':List O} (h:vals=vals') (h':H=H'):AyI r Qs env vals H=AyI r Qs env vals' H':=by rw[h,h']
@[congr] theorem AGn {H:Hp} {ev:Src→V} {op:Lu} {K:V→EY→Prop}:stepW D c H ev op K=stepW D c H ev op K:=rfl
@[congr] theorem AGB {H:Hp} {K:V→EY→Prop} {g:Nat} {args args':List (Bool×V)} {sites:List Nat} (h:args=args'):II D c H K g args sites=II D c H K g args' sites:=by rw[h]
end
attribute [simp] AE9 ACt AF1 AE6 ACm Azu ABN AFi AzV AqE Aw8 AAq At3 AzI ACp ApQ AAM Awy AFl Awl At6 Aqa AGJ ADc AC3 ACF Ay5 AAa AsF AAE AtW AB4
attribute [simp] stepW AwF AtJ ABM AyO Ko AkR TV Yc Al Aa9 Jg ro ro2 ro1 roL Awn imp AD2 ACa Azq AoV XO ApL Ny
attribute [simp] Ez op1 evs noU ZY Akt sets clear IJ ghost AeD Ajm Ajr AaB AB0 tie give Atx TU PE AlA masked hp shp CG kill Td PO m1 m2 m3 okU shp rename Aec WB Uk
theorem AAA {cs:List V} {o:Nat}:putAt cs o []=cs:=(rfl)
theorem Azj {cs:List V} {o:Nat} {v:V}:putAt cs o [v]=cs.set o v:=(rfl)
theorem Az2 {a:V} {cs:List V} {o:Nat} {v:V} {r:List V}:putAt (a::cs) o (v::r)=putAt ((a::cs).set o v) (o+1) r:=(rfl)
attribute [simp] AAA Azj Az2
attribute [simp] Sy cellsOf AAx AL Ry Nq AaJ AgV Ah wrp Anz ACE unV mmV asI Ec El Xg AoZ AyE Xb Y8 UH Ajd bounds ME Xd JP AmY isStr Aye WH WE AdF ArK Aej AxC AFR AxE Axt ApM Att Aki Amf Sz Mr AsO AxM
end Go.Eng
