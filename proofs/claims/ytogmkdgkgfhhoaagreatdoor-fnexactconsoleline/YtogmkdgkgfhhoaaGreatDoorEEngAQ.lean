/- Own work: part 19 of the proof of FnExactConsoleLine. -/
import Derived.Test.YtogmkdgkgfhhoaaGreatDoorEEngAL
set_option linter.unusedSimpArgs false
set_option linter.unusedVariables false
namespace Go.Eng
section
variable {D:Dn} {c:Cf}
end
def Ls (rs:List Res) (n:Nat) (s:St) (Q:V->List O->Prop):Prop:=
 match Tf s rs with
 | none=>False
 | some l=>match give (hp s.H) (tie l)with
  | some (v,0,ks)=>Q v ((List.range n).map fun i=>if ks.contains i then .dead else Cu (hp s.H i))
  | _=>False
def AbH (rs:List Res) (n:Nat) (Q:V->List O->Prop):Out->St->Prop:=fun o s=>match o with | .exit _=>False | _=>Ls rs n s Q
def Aju (D:Dn) (f:Cm) (args:List V) (given:List O) (Q:V->List O->Prop):Prop:=
 args.length=f.params.length/\given.length=f.ngiven/\swp D ⟨f.bor,f.takes⟩ f.body (AbH f.results f.ngiven Q) (Xc f args given)
section
variable {D:Dn} {c:Cf} {s:St} {Q:V->List O->Prop}
theorem AmH {f:Cm} {args:List V} {given:List O}:Aju D f args given Q=
 (args.length=f.params.length/\given.length=f.ngiven/\swp D ⟨f.bor,f.takes⟩ f.body (AbH f.results f.ngiven Q) (Xc f args given)):=rfl
theorem AeD {rs:List Res} {n:Nat}:AbH rs n Q .normal s=Ls rs n s Q:=rfl
theorem Aky {rs:List Res} {n:Nat}:AbH rs n Q .ret s=Ls rs n s Q:=rfl
theorem Aib {rs:List Res} {n:Nat} {i:Nat}:AbH rs n Q (.exit i) s=False:=rfl
end
def Ajr (n:Nat) (H:Hp) (Q:V->List O->Prop):Option (V×Nat×List Nat)->Prop
 | some (v,0,ks)=>Q v ((List.range n).map fun i=>if ks.contains i then .dead else Cu (H i))
 | _=>False
def ApT (n:Nat) (H:Hp) (Q:V->List O->Prop):Option (List V)->Prop
 | some l=>Ajr n H Q (give H (tie l))
 | none=>False
theorem AhW {rs:List Res} {n:Nat} {s:St} {Q:V->List O->Prop}:Ls rs n s Q=ApT n (hp s.H) Q (Tf s rs):=by
 unfold Ls ApT
 split
 ·rename_i e;rw[e]
 ·rename_i l e
  rw[e]
  dsimp only
  unfold Ajr
  split<;>simp_all
theorem Aic {n:Nat} {H:Hp} {Q:V->List O->Prop} {v:V} {ks:List Nat}:Ajr n H Q (some (v,0,ks))=Q v ((List.range n).map fun i=>if ks.contains i then .dead else Cu (H i)):=rfl
theorem Alk {n:Nat} {H:Hp} {Q:V->List O->Prop} {l:List V}:ApT n H Q (some l)=Ajr n H Q (give H (tie l)):=rfl
@[congr] theorem Apn {rs:List Res} {n:Nat} {Q:V->List O->Prop} {o o':Out} {s s':St} (h:o=o') (h':s=s'):AbH rs n Q o s=AbH rs n Q o' s':=by rw[h,h']
attribute [simp] AmH AeD Aky Aib AhW Aic Alk
end Go.Eng
namespace Go.Eng
open Go.ChangeShapes Go.WideShapes Go.RowKit
def AeK (W:World):Gl:=⟨fun b=>b<W.heap.size,fun b=>W.heap[b]?⟩
section
variable {H:Type} {enc:TypeId×Value->H} {P:Program} {W w':World} {base:Nat} {Ae:Nat->Option FuncId}
end
end Go.Eng
