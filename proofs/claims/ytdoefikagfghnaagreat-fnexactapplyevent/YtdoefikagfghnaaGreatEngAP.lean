/- Own work: part 42 of the proof of FnExactApplyEvent. -/
import Derived.Test.YtdoefikagfghnaaGreatEngAO
set_option linter.unusedSimpArgs false
set_option linter.unusedVariables false
namespace Go.Eng
def Awr (D:Dn) (g:Nat) (args:List V) (given:List O) (K:V→List O→Prop):Prop:=∃res outs,D g args given res outs∧K res outs
def AnE (H:Hp) (ks sites:List Nat) (K:V→Fb→Prop):V→List O→Prop:=fun res outs=>
 match Xb H ks outs,imp H sites res with
 | some u,some (v,u',_)=>K v (u++u')
 | _,_=>False
section
variable {D:Dn} {c:Cf} {H:Hp} {K:V→Fb→Prop}
theorem Aa {g:Nat} {args:List V} {given:List O} {K:V→List O→Prop} {res:V} {outs:List O} (h:D g args given res outs) (hk:K res outs):Awr D g args given K:=⟨res,outs,h,hk⟩
theorem Avz {ev:Src→V} {g:Nat} {args:List (Bool×Src)} {sites:List Nat}:stepW D c H ev (.call g args sites) K=KJ D c H K g (args.map fun(b,x)=>(b,ev x)) sites:=rfl
theorem AsF {ev:Src→V} {f:Src} {args:List (Bool×Src)} {sites:List Nat}:stepW D c H ev (.callv f args sites) K=
 (match ev f with
 | .fn g caps=>KJ D c H K g ((args.map fun(b,x)=>(b,ev x))++caps.map fun v=>(false,v)) sites
 | _=>False):=rfl
theorem AzZ {g:Nat} {args:List (Bool×V)} {sites:List Nat}:KJ D c H K g args sites=
 (match J4 H 0 args with
 | none=>False
 | some ks=>if Aau c H ks=false then False else match IV H (CK ks H) 0 args with
  | none=>False
  | some args'=>Awr D g args' (ks.map fun k=>MH (H k)) (AnE H ks sites K)):=rfl
theorem AG9 {ks sites:List Nat} {res:V} {outs:List O}:AnE H ks sites K res outs=
 (match Xb H ks outs,imp H sites res with
 | some u,some (v,u',_)=>K v (u++u')
 | _,_=>False):=rfl
end
def ghK (Q:St→Prop):Option St→Prop
 | some s=>Q s
 | none=>False
def Akn (K:V→Fb→Prop):Option Fb→Option (V×Fb×List Nat)→Prop
 | some u,some (v,u',_)=>K v (u++u')
 | _,_=>False
theorem Ays {v:V} {u:Fb} {K:V→Fb→Prop}:Uj (some (v,u)) K=K v u:=rfl
theorem Ax0 {K:V→Fb→Prop}:Uj none K=False:=rfl
theorem ABJ {Q:St→Prop} {s:St}:ghK Q (some s)=Q s:=rfl
theorem ABi {Q:St→Prop}:ghK Q none=False:=rfl
theorem AsB {K:V→Fb→Prop} {u u':Fb} {v:V} {l:List Nat}:Akn K (some u) (some (v,u',l))=K v (u++u'):=rfl
theorem ABK {r:Bc} {Qs:St→Prop} {env vals:List V} {H:List O}:AxC r Qs env vals H=ghK Qs (Ie ⟨clear (sets vals env r.sets) r.clr,H⟩ r.Ie):=by
 unfold AxC ghK;split<;>simp_all
theorem Ax4 {H:Hp} {ks sites:List Nat} {K:V→Fb→Prop} {res:V} {outs:List O}:AnE H ks sites K res outs=Akn K (Xb H ks outs) (imp H sites res):=by
 unfold AnE Akn;split<;>simp_all
section
variable {D:Dn} {c:Cf}
@[congr] theorem ADT {g g':V} {t:Bool} {p q:Prop} (h:g=g'):AkT g t p q=AkT g' t p q:=by rw[h]
@[congr] theorem AEL {g g':V} {p q:Prop} (h:g=g'):AvV g p q=AvV g' p q:=by rw[h]
@[congr] theorem AFz {r r':Option (V×Fb)} {K:V→Fb→Prop} (h:r=r'):Uj r K=Uj r' K:=by rw[h]
@[congr] theorem AGi {r r':Option St} {K:St→Prop} (h:r=r'):ghK K r=ghK K r':=by rw[h]
@[congr] theorem ADu {a a':Option Fb} {r r':Option (V×Fb×List Nat)} {K:V→Fb→Prop} (h:a=a') (h':r=r'):Akn K a r=Akn K a' r':=by rw[h,h']
@[congr] theorem AEK {g:Nat} {args args':List V} {given given':List O} {K:V→List O→Prop} (h:args=args') (h':given=given'):Awr D g args given K=Awr D g args' given' K:=by rw[h,h']
@[congr] theorem AET {H:Hp} {ks sites:List Nat} {K:V→Fb→Prop} {r r':V} {o o':List O} (h:r=r') (h':o=o'):AnE H ks sites K r o=AnE H ks sites K r' o':=by rw[h,h']
@[congr] theorem AEU {b:SC} {Q:Out→St→Prop} {o o':Out} {s s':St} (h:o=o') (h':s=s'):AnL D c b Q o s=AnL D c b Q o' s':=by rw[h,h']
@[congr] theorem AFJ {id:Nat} {Q:Out→St→Prop} {o o':Out} {s s':St} (h:o=o') (h':s=s'):AxK id Q o s=AxK id Q o' s':=by rw[h,h']
@[congr] theorem AEE {rs:List Res} {n:Nat} {res:V} {outs:List O} {o o':Out} {s s':St} (h:o=o') (h':s=s'):Aoo rs n res outs o s=Aoo rs n res outs o' s':=by rw[h,h']
@[congr] theorem AGn {env:List V} {tau:Option (List Nat)} {om:List Nat} {rest:List Oy} {vals:List V} {H:List O} {Q:List V→List O→Prop} {v v':V} {u u':Fb} (h:v=v') (h':u=u'):
 opK D c env tau om rest vals H Q v u=opK D c env tau om rest vals H Q v' u':=by rw[h,h']
@[congr] theorem AFK {r:Bc} {Qs:St→Prop} {env:List V} {vals vals':List V} {H H':List O} (h:vals=vals') (h':H=H'):AxC r Qs env vals H=AxC r Qs env vals' H':=by rw[h,h']
@[congr] theorem AEH {H:Hp} {ev:Src→V} {op:Ki} {K:V→Fb→Prop}:stepW D c H ev op K=stepW D c H ev op K:=rfl
@[congr] theorem AEQ {H:Hp} {K:V→Fb→Prop} {g:Nat} {args args':List (Bool×V)} {sites:List Nat} (h:args=args'):KJ D c H K g args sites=KJ D c H K g args' sites:=by rw[h]
end
attribute [simp] AEw ABm ADB ADA ABo AxF AAN ADK Axu Aow AtW AxH Ary Axz AAX AoE Ayk Avj ADX At1 AqV Ap4 AFO ABK ABJ ABi Ays Ax0 AsB AxX ArQ AB4
attribute [simp] stepW Avz AsF AzZ Ax4 J4 Aj8 Ti Xl EG Aau IV ro ro2 ro1 roL AuC imp Az5 ABC Ayl AnW Xb AnF MH
attribute [simp] Ej op1 evs noU Ack Ai9 sets clear Ie ghost Aql Ah9 Ah3 AfL AAO tie give As1 Tf Pj Aip masked hp shp CK kill RU O4 m1 m2 m3 okU shp rename AbP Wn Tz
theorem AyP {cs:List V} {o:Nat}:putAt cs o []=cs:=(rfl)
theorem Ax8 {cs:List V} {o:Nat} {v:V}:putAt cs o [v]=cs.set o v:=(rfl)
theorem AyI {a:V} {cs:List V} {o:Nat} {v:V} {r:List V}:putAt (a::cs) o (v::r)=putAt ((a::cs).set o v) (o+1) r:=(rfl)
attribute [simp] AyP Ax8 AyI
attribute [simp] Sk cellsOf AyS AZ QV MF Zw Afv Ah wrp Ana AzR unV mmV asI DZ Ed VT An2 Axr Vo YC TR Ah7 bounds Mt Wt JE Am2 isStr AvU VI Wu Aca AoU AbV AwA ADx AvT Awd AnO Asb Ali Aje RG LQ Ar7 AwF
end Go.Eng
