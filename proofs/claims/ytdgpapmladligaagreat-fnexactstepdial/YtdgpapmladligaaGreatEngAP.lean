/- Own work: part 42 of the proof of FnExactStepDial. -/
import Derived.Test.YtdgpapmladligaaGreatEngAO
set_option linter.unusedSimpArgs false
set_option linter.unusedVariables false
namespace Go.Eng
def Au5 (D:Dn) (g:Nat) (args:List V) (given:List O) (K:V→List O→Prop):Prop:=∃res outs,D g args given res outs∧K res outs
def Anc (H:Hp) (ks sites:List Nat) (K:V→ES→Prop):V→List O→Prop:=fun res outs=>
 match WN H ks outs,imp H sites res with
 | some u,some (v,u',_)=>K v (u++u')
 | _,_=>False
section
variable {D:Dn} {c:Cf} {H:Hp} {K:V→ES→Prop}
theorem Aa {g:Nat} {args:List V} {given:List O} {K:V→List O→Prop} {res:V} {outs:List O} (h:D g args given res outs) (hk:K res outs):Au5 D g args given K:=⟨res,outs,h,hk⟩
theorem As4 {ev:Src→V} {g:Nat} {args:List (Bool×Src)} {sites:List Nat}:stepW D c H ev (.call g args sites) K=Kh D c H K g (args.map fun(b,x)=>(b,ev x)) sites:=rfl
theorem Arw {ev:Src→V} {f:Src} {args:List (Bool×Src)} {sites:List Nat}:stepW D c H ev (.callv f args sites) K=
 (match ev f with
 | .fn g caps=>Kh D c H K g ((args.map fun(b,x)=>(b,ev x))++caps.map fun v=>(false,v)) sites
 | _=>False):=rfl
theorem AzM {g:Nat} {args:List (Bool×V)} {sites:List Nat}:Kh D c H K g args sites=
 (match Jv H 0 args with
 | none=>False
 | some ks=>if Zo c H ks=false then False else match Ie H (CK ks H) 0 args with
  | none=>False
  | some args'=>Au5 D g args' (ks.map fun k=>Mv (H k)) (Anc H ks sites K)):=rfl
theorem AFN {ks sites:List Nat} {res:V} {outs:List O}:Anc H ks sites K res outs=
 (match WN H ks outs,imp H sites res with
 | some u,some (v,u',_)=>K v (u++u')
 | _,_=>False):=rfl
end
def ghK (Q:St→Prop):Option St→Prop
 | some s=>Q s
 | none=>False
def AjL (K:V→ES→Prop):Option ES→Option (V×ES×List Nat)→Prop
 | some u,some (v,u',_)=>K v (u++u')
 | _,_=>False
theorem Awl {v:V} {u:ES} {K:V→ES→Prop}:R4 (some (v,u)) K=K v u:=rfl
theorem AvN {K:V→ES→Prop}:R4 none K=False:=rfl
theorem Az2 {Q:St→Prop} {s:St}:ghK Q (some s)=Q s:=rfl
theorem AyR {Q:St→Prop}:ghK Q none=False:=rfl
theorem Arc {K:V→ES→Prop} {u u':ES} {v:V} {l:List Nat}:AjL K (some u) (some (v,u',l))=K v (u++u'):=rfl
theorem AzC {r:Br} {Qs:St→Prop} {env vals:List V} {H:List O}:Aw6 r Qs env vals H=ghK Qs (GV ⟨clear (sets vals env r.sets) r.clr,H⟩ r.GV):=by
 unfold Aw6 ghK;split<;>simp_all
theorem AwO {H:Hp} {ks sites:List Nat} {K:V→ES→Prop} {res:V} {outs:List O}:Anc H ks sites K res outs=AjL K (WN H ks outs) (imp H sites res):=by
 unfold Anc AjL;split<;>simp_all
section
variable {D:Dn} {c:Cf}
@[congr] theorem ABC {g g':V} {t:Bool} {p q:Prop} (h:g=g'):Ai2 g t p q=Ai2 g' t p q:=by rw[h]
@[congr] theorem ADp {g g':V} {p q:Prop} (h:g=g'):Au4 g p q=Au4 g' p q:=by rw[h]
@[congr] theorem AD6 {r r':Option (V×ES)} {K:V→ES→Prop} (h:r=r'):R4 r K=R4 r' K:=by rw[h]
@[congr] theorem AFr {r r':Option St} {K:St→Prop} (h:r=r'):ghK K r=ghK K r':=by rw[h]
@[congr] theorem ADb {a a':Option ES} {r r':Option (V×ES×List Nat)} {K:V→ES→Prop} (h:a=a') (h':r=r'):AjL K a r=AjL K a' r':=by rw[h,h']
@[congr] theorem ADs {g:Nat} {args args':List V} {given given':List O} {K:V→List O→Prop} (h:args=args') (h':given=given'):Au5 D g args given K=Au5 D g args' given' K:=by rw[h,h']
@[congr] theorem ADJ {H:Hp} {ks sites:List Nat} {K:V→ES→Prop} {r r':V} {o o':List O} (h:r=r') (h':o=o'):Anc H ks sites K r o=Anc H ks sites K r' o':=by rw[h,h']
@[congr] theorem ADv {b:SC} {Q:Out→St→Prop} {o o':Out} {s s':St} (h:o=o') (h':s=s'):AmU D c b Q o s=AmU D c b Q o' s':=by rw[h,h']
@[congr] theorem AEF {id:Nat} {Q:Out→St→Prop} {o o':Out} {s s':St} (h:o=o') (h':s=s'):Axu id Q o s=Axu id Q o' s':=by rw[h,h']
@[congr] theorem ADw {rs:List Res} {n:Nat} {res:V} {outs:List O} {o o':Out} {s s':St} (h:o=o') (h':s=s'):Amt rs n res outs o s=Amt rs n res outs o' s':=by rw[h,h']
@[congr] theorem AFk {env:List V} {tau:Option (List Nat)} {om:List Nat} {rest:List Nq} {vals:List V} {H:List O} {Q:List V→List O→Prop} {v v':V} {u u':ES} (h:v=v') (h':u=u'):
 opK D c env tau om rest vals H Q v u=opK D c env tau om rest vals H Q v' u':=by rw[h,h']
@[congr] theorem AEf {r:Br} {Qs:St→Prop} {env:List V} {vals vals':List V} {H H':List O} (h:vals=vals') (h':H=H'):Aw6 r Qs env vals H=Aw6 r Qs env vals' H':=by rw[h,h']
@[congr] theorem ADN {H:Hp} {ev:Src→V} {op:HV} {K:V→ES→Prop}:stepW D c H ev op K=stepW D c H ev op K:=rfl
@[congr] theorem ADn {H:Hp} {K:V→ES→Prop} {g:Nat} {args args':List (Bool×V)} {sites:List Nat} (h:args=args'):Kh D c H K g args sites=Kh D c H K g args' sites:=by rw[h]
end
attribute [simp] ACf AyA ABE ACM AAa AwK AyW ABT AvQ AnX AsW AvZ ArR Axp AAr Anz Awh AtT ABF AsO AqH Ans AEU AzC Az2 AyR Awl AvN Arc AwP Aru AAA
attribute [simp] stepW As4 Arw AzM AwO Jv Aja RV Xm EK Zo Ie ro ro2 ro1 roL AsS imp AzO AzG Axl AmM WN Am8 Mv
attribute [simp] En op1 evs noU AbI Aiy sets clear GV ghost Aoz Ahs Ahr AeQ Azp tie give AqY RH Ox AhO masked hp shp CK kill Qp NV m1 m2 m3 okU shp rename AcD UU S9
theorem Awo {cs:List V} {o:Nat}:putAt cs o []=cs:=(rfl)
theorem AvG {cs:List V} {o:Nat} {v:V}:putAt cs o [v]=cs.set o v:=(rfl)
theorem Avz {a:V} {cs:List V} {o:Nat} {v:V} {r:List V}:putAt (a::cs) o (v::r)=putAt ((a::cs).set o v) (o+1) r:=(rfl)
attribute [simp] Awo AvG Avz
attribute [simp] Qt cellsOf AwU Bc P8 ME YO AeV Ak wrp Amr AzL unV mmV asI D5 Ec Vp Anj Axc Vl XI SL Ahu bounds Ms UK IU Amo isStr AuW UR Un AbS AoK AaT Avp ACz Au3 Avt AmK ApW Akh AiR QS K4 ApT AuD
end Go.Eng
