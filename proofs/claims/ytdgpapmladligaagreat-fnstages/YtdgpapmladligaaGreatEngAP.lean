/- Own work: part 42 of the proof of FnStages. -/
import Derived.Test.YtdgpapmladligaaGreatEngAO
set_option linter.unusedSimpArgs false
set_option linter.unusedVariables false
namespace Go.Eng
def Amf (D:Dn) (g:Nat) (args:List V) (given:List O) (K:V→List O→Prop):Prop:=∃res outs,D g args given res outs∧K res outs
def Aeq (H:Hp) (ks sites:List Nat) (K:V→DU→Prop):V→List O→Prop:=fun res outs=>
 match Q0 H ks outs,imp H sites res with
 | some u,some (v,u',_)=>K v (u++u')
 | _,_=>False
section
variable {D:Dn} {c:Cf} {H:Hp} {K:V→DU→Prop}
theorem Aa {g:Nat} {args:List V} {given:List O} {K:V→List O→Prop} {res:V} {outs:List O} (h:D g args given res outs) (hk:K res outs):Amf D g args given K:=⟨res,outs,h,hk⟩
theorem AkP {ev:Src→V} {g:Nat} {args:List (Bool×Src)} {sites:List Nat}:stepW D c H ev (.call g args sites) K=FE D c H K g (args.map fun(b,x)=>(b,ev x)) sites:=rfl
theorem AiT {ev:Src→V} {f:Src} {args:List (Bool×Src)} {sites:List Nat}:stepW D c H ev (.callv f args sites) K=
 (match ev f with
 | .fn g caps=>FE D c H K g ((args.map fun(b,x)=>(b,ev x))++caps.map fun v=>(false,v)) sites
 | _=>False):=rfl
theorem ApP {g:Nat} {args:List (Bool×V)} {sites:List Nat}:FE D c H K g args sites=
 (match GD H 0 args with
 | none=>False
 | some ks=>if UH c H ks=false then False else match FR H (BN ks H) 0 args with
  | none=>False
  | some args'=>Amf D g args' (ks.map fun k=>IV (H k)) (Aeq H ks sites K)):=rfl
theorem Axg {ks sites:List Nat} {res:V} {outs:List O}:Aeq H ks sites K res outs=
 (match Q0 H ks outs,imp H sites res with
 | some u,some (v,u',_)=>K v (u++u')
 | _,_=>False):=rfl
end
def ghK (Q:St→Prop):Option St→Prop
 | some s=>Q s
 | none=>False
def AbY (K:V→DU→Prop):Option DU→Option (V×DU×List Nat)→Prop
 | some u,some (v,u',_)=>K v (u++u')
 | _,_=>False
theorem Amn {v:V} {u:DU} {K:V→DU→Prop}:L9 (some (v,u)) K=K v u:=rfl
theorem AmK {K:V→DU→Prop}:L9 none K=False:=rfl
theorem AqO {Q:St→Prop} {s:St}:ghK Q (some s)=Q s:=rfl
theorem Arq {Q:St→Prop}:ghK Q none=False:=rfl
theorem Ahr {K:V→DU→Prop} {u u':DU} {v:V} {l:List Nat}:AbY K (some u) (some (v,u',l))=K v (u++u'):=rfl
theorem Aqr {r:Ca} {Qs:St→Prop} {env vals:List V} {H:List O}:Anm r Qs env vals H=ghK Qs (Fy ⟨clear (sets vals env r.sets) r.clr,H⟩ r.Fy):=by
 unfold Anm ghK;split<;>simp_all
theorem AmG {H:Hp} {ks sites:List Nat} {K:V→DU→Prop} {res:V} {outs:List O}:Aeq H ks sites K res outs=AbY K (Q0 H ks outs) (imp H sites res):=by
 unfold Aeq AbY;split<;>simp_all
section
variable {D:Dn} {c:Cf}
@[congr] theorem Atc {g g':V} {t:Bool} {p q:Prop} (h:g=g'):AbS g t p q=AbS g' t p q:=by rw[h]
@[congr] theorem Au6 {g g':V} {p q:Prop} (h:g=g'):Alv g p q=Alv g' p q:=by rw[h]
@[congr] theorem AvJ {r r':Option (V×DU)} {K:V→DU→Prop} (h:r=r'):L9 r K=L9 r' K:=by rw[h]
@[congr] theorem AwF {r r':Option St} {K:St→Prop} (h:r=r'):ghK K r=ghK K r':=by rw[h]
@[congr] theorem AtP {a a':Option DU} {r r':Option (V×DU×List Nat)} {K:V→DU→Prop} (h:a=a') (h':r=r'):AbY K a r=AbY K a' r':=by rw[h,h']
@[congr] theorem AuX {g:Nat} {args args':List V} {given given':List O} {K:V→List O→Prop} (h:args=args') (h':given=given'):Amf D g args given K=Amf D g args' given' K:=by rw[h,h']
@[congr] theorem AuG {H:Hp} {ks sites:List Nat} {K:V→DU→Prop} {r r':V} {o o':List O} (h:r=r') (h':o=o'):Aeq H ks sites K r o=Aeq H ks sites K r' o':=by rw[h,h']
@[congr] theorem AuQ {b:SC} {Q:Out→St→Prop} {o o':Out} {s s':St} (h:o=o') (h':s=s'):AeD D c b Q o s=AeD D c b Q o' s':=by rw[h,h']
@[congr] theorem AvN {id:Nat} {Q:Out→St→Prop} {o o':Out} {s s':St} (h:o=o') (h':s=s'):Aml id Q o s=Aml id Q o' s':=by rw[h,h']
@[congr] theorem AuO {rs:List Res} {n:Nat} {res:V} {outs:List O} {o o':Out} {s s':St} (h:o=o') (h':s=s'):AeO rs n res outs o s=AeO rs n res outs o' s':=by rw[h,h']
@[congr] theorem AwI {env:List V} {tau:Option (List Nat)} {om:List Nat} {rest:List Jv} {vals:List V} {H:List O} {Q:List V→List O→Prop} {v v':V} {u u':DU} (h:v=v') (h':u=u'):
 opK D c env tau om rest vals H Q v u=opK D c env tau om rest vals H Q v' u':=by rw[h,h']
@[congr] theorem Avp {r:Ca} {Qs:St→Prop} {env:List V} {vals vals':List V} {H H':List O} (h:vals=vals') (h':H=H'):Anm r Qs env vals H=Anm r Qs env vals' H':=by rw[h,h']
@[congr] theorem AuZ {H:Hp} {ev:Src→V} {op:Lh} {K:V→DU→Prop}:stepW D c H ev op K=stepW D c H ev op K:=rfl
@[congr] theorem Au0 {H:Hp} {K:V→DU→Prop} {g:Nat} {args args':List (Bool×V)} {sites:List Nat} (h:args=args'):FE D c H K g args sites=FE D c H K g args' sites:=by rw[h]
end
attribute [simp] AtI ApO Ato Aum Aq4 Amx Arm AtU Ana AfR Ajj AnU AgZ Am0 Aq6 Afs Aoo AkJ AtM Akx AiM AfF Awj Aqr AqO Arq Amn AmK Ahr AnK Ag7 Aqe
attribute [simp] stepW AkP AiT ApP AmG GD Acz MR Q7 Ae UH FR ro ro2 ro1 roL AkY imp ApU ApM An5 Aee Q0 AeP IV
attribute [simp] Df op1 evs noU R4 Abb sets clear Fy ghost Xe ZT ZV SQ ApN tie give Ahy MZ KC AaW masked hp Yj BN kill Oh KQ m1 m2 m3 okU Yj rename ZN OL Nq
theorem Aod {cs:List V} {o:Nat}:putAt cs o []=cs:=(rfl)
theorem AmS {cs:List V} {o:Nat} {v:V}:putAt cs o [v]=cs.set o v:=(rfl)
theorem Am3 {a:V} {cs:List V} {o:Nat} {v:V} {r:List V}:putAt (a::cs) o (v::r)=putAt ((a::cs).set o v) (o+1) r:=(rfl)
attribute [simp] Aod AmS Am3
attribute [simp] MC cellsOf Am2 AA Li Jt SV Yv Ah wrp AdB ApW unV mmV Zx CR Dc Pf Aem Anj Po Ru NT ZX bounds IY PL F8 AdT isStr AlN OO OM VB AfL Wo Al4 Att Alj Ale Ael Ahe Ace Acx Mk Iu Ahd AlY
end Go.Eng
