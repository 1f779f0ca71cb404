/- Own work: part 45 of the proof of FnAudited. -/
import Derived.Test.YtdgpapmladligabGreatP44
set_option linter.unusedSimpArgs false
set_option linter.unusedVariables false
namespace Go.Eng.T
def nums:Nat→Int→List Int
 | 0,_=> []
 | n+1,k=>k::nums n (k+1)
@[simp] theorem ADt:∀(n:Nat) (k:Int),(nums n k).length=n
 | 0,_=>rfl
 | n+1,k=>by simp[nums,ADt n]
theorem ADl:∀(n:Nat) (k:Int) (j:Nat) (h:j<(nums n k).length),(nums n k)[j]=k+j
 | 0,k,j,h=>by simp[nums]at h
 | n+1,k,0,h=>by simp[nums]
 | n+1,k,j+1,h=>by
  simp only[nums,List.getElem_cons_succ]
  rw[ADl n (k+1) j (by simpa[nums]using h)]
  simp;omega
def mkL {α:Type} (mc:α→Nat) (mk:α→Int→α):List α→Int→List α
 | [],_=> []
 | x::r,k=>mk x k::mkL mc mk r (k+mc x)
def mcL {α:Type} (mc:α→Nat) (xs:List α):Nat:=(xs.map mc).sum
section
variable {α:Type} {mc:α→Nat} {mk:α→Int→α}
@[simp] theorem AFa:∀(xs:List α) (k:Int),(mkL mc mk xs k).length=xs.length
 | [],_=>rfl
 | x::r,k=>by simp[mkL,AFa r]
theorem AFH:∀(xs:List α) (k:Int) (j:Nat) (h:j<xs.length),(mkL mc mk xs k)[j]'(by simpa using h)=mk xs[j] (k+(mcL mc (xs.take j):Nat))
 | [],k,j,h=>by simp at h
 | x::r,k,0,h=>by simp[mkL,mcL]
 | x::r,k,j+1,h=>by
  simp only[mkL,List.getElem_cons_succ]
  rw[AFH r (k+mc x) j (by simpa using h)]
  simp[mcL];congr 1;omega
theorem Av5 (ys:List α):∀(xs:List α) (k:Int),mkL mc mk (xs++ys) k=mkL mc mk xs k++mkL mc mk ys (k+(mcL mc xs:Nat))
 | [],k=>by simp[mkL,mcL]
 | x::r,k=>by
  simp only[List.cons_append,mkL,Av5 ys r]
  simp[mcL];congr 1;omega
def mkJ (mc:α→Nat) (mk:α→Int→α) (xs:List α) (k:Int) (j:Nat):List α:=mkL mc mk (xs.take j) k++xs.drop j
@[simp] theorem AJd {xs:List α} {k:Int} {j:Nat} (h:j≤xs.length):(mkJ mc mk xs k j).length=xs.length:=by simp[mkJ];omega
end
theorem Ct {α:Type} {f:α→List V} {e:Nat} (hf:∀x,(f x).length=e) {o:Nat} (ho:o<e) {v:V} {y:α}:∀ {xs:List α} {j:Nat} (h:j<xs.length),f y=(f xs[j]).set o v→(xs.flatMap f).set (j*e+o) v=(xs.set j y).flatMap f
 | [],j,h,_=>by simp at h
 | x::xs,0,_,hy=>by
  simp only[List.flatMap_cons,List.set_cons_zero,Nat.zero_mul,Nat.zero_add]
  rw[List.set_append_left _ _ (by rw[hf];exact ho),hy]
  rfl
 | x::xs,j+1,h,hy=>by
  simp only[List.flatMap_cons,List.set_cons_succ]
  have e1:(j+1)*e+o=(f x).length+(j*e+o):=by rw[hf,Nat.add_mul];omega
  rw[e1,List.set_append_right _ _ (by omega),Nat.add_sub_cancel_left,Ct hf ho (by simpa using h) (by simpa using hy)]
@[simp high] theorem AI0 {xs:List Gu} {j:Nat} (h:j<xs.length) (a:Int):(xs.flatMap Dy).set (j*4) (.sc (.int .i64 a))=(xs.set j ⟨a,xs[j].drops,xs[j].strips,xs[j].lists⟩).flatMap Dy:=Ct (o:=0) JR (by omega) h rfl
@[simp high] theorem AI6 {xs:List Gu} {j:Nat} (h:j<xs.length) {n:Nat} (a:List Int) (hn:n=a.length):(xs.flatMap Dy).set (j*4+1) (.sl 0 1 n (ints a))=(xs.set j ⟨xs[j].limit,a,xs[j].strips,xs[j].lists⟩).flatMap Dy:=by subst hn;exact Ct (o:=1) JR (by omega) h rfl
@[simp high] theorem AI7 {xs:List Gu} {j:Nat} (h:j<xs.length) {n:Nat} (a:List Int) (hn:n=a.length):(xs.flatMap Dy).set (j*4+2) (.sl 0 1 n (ints a))=(xs.set j ⟨xs[j].limit,xs[j].drops,a,xs[j].lists⟩).flatMap Dy:=by subst hn;exact Ct (o:=2) JR (by omega) h rfl
@[simp high] theorem AJi {xs:List Gu} {j:Nat} (h:j<xs.length) (a:Bool):(xs.flatMap Dy).set (j*4+3) (.sc (.bool a))=(xs.set j ⟨xs[j].limit,xs[j].drops,xs[j].strips,a⟩).flatMap Dy:=Ct (o:=3) JR (by omega) h rfl
@[simp high] theorem AHO {xs:List Eh} {j:Nat} (h:j<xs.length) (a:Bool):(xs.flatMap A9).set (j*5) (.sc (.bool a))=(xs.set j ⟨⟨a,xs[j].deal.version,xs[j].deal.tags⟩,xs[j].tries,xs[j].up⟩).flatMap A9:=Ct (o:=0) D8 (by omega) h rfl
@[simp high] theorem AG4 {xs:List Eh} {j:Nat} (h:j<xs.length) (a:Int):(xs.flatMap A9).set (j*5+1) (.sc (.int .i64 a))=(xs.set j ⟨⟨xs[j].deal.ok,a,xs[j].deal.tags⟩,xs[j].tries,xs[j].up⟩).flatMap A9:=Ct (o:=1) D8 (by omega) h rfl
@[simp high] theorem AHQ {xs:List Eh} {j:Nat} (h:j<xs.length) {n:Nat} (a:List Int) (hn:n=a.length):(xs.flatMap A9).set (j*5+2) (.sl 0 1 n (ints a))=(xs.set j ⟨⟨xs[j].deal.ok,xs[j].deal.version,a⟩,xs[j].tries,xs[j].up⟩).flatMap A9:=by subst hn;exact Ct (o:=2) D8 (by omega) h rfl
@[simp high] theorem AHH {xs:List Eh} {j:Nat} (h:j<xs.length) (a:Int):(xs.flatMap A9).set (j*5+3) (.sc (.int .i64 a))=(xs.set j ⟨⟨xs[j].deal.ok,xs[j].deal.version,xs[j].deal.tags⟩,a,xs[j].up⟩).flatMap A9:=Ct (o:=3) D8 (by omega) h rfl
@[simp high] theorem AHT {xs:List Eh} {j:Nat} (h:j<xs.length) {n:Nat} (a:List Int) (hn:n=a.length):(xs.flatMap A9).set (j*5+4) (.sl 0 1 n (ints a))=(xs.set j ⟨⟨xs[j].deal.ok,xs[j].deal.version,xs[j].deal.tags⟩,xs[j].tries,a⟩).flatMap A9:=by subst hn;exact Ct (o:=4) D8 (by omega) h rfl
@[simp high] theorem AFv {xs:List Aq} {j:Nat} (h:j<xs.length) {n:Nat} (a:List Int) (hn:n=a.length):(xs.flatMap Ak).set (j*4) (.sl 0 1 n (ints a))=(xs.set j ⟨a,xs[j].tags,xs[j].path,xs[j].cls⟩).flatMap Ak:=by subst hn;exact Ct (o:=0) Eg (by omega) h rfl
@[simp high] theorem AFn {xs:List Aq} {j:Nat} (h:j<xs.length) {n:Nat} (a:List Int) (hn:n=a.length):(xs.flatMap Ak).set (j*4+1) (.sl 0 1 n (ints a))=(xs.set j ⟨xs[j].versions,a,xs[j].path,xs[j].cls⟩).flatMap Ak:=by subst hn;exact Ct (o:=1) Eg (by omega) h rfl
@[simp high] theorem AdW {xs:List Aq} {j:Nat} (h:j<xs.length) {n:Nat} (a:List Gu) (hn:n=a.length):(xs.flatMap Ak).set (j*4+2) (.sl 0 4 n (a.flatMap Dy))=(xs.set j ⟨xs[j].versions,xs[j].tags,a,xs[j].cls⟩).flatMap Ak:=by subst hn;exact Ct (o:=2) Eg (by omega) h rfl
@[simp high] theorem AFg {xs:List Aq} {j:Nat} (h:j<xs.length) (a:Int):(xs.flatMap Ak).set (j*4+3) (.sc (.int .i64 a))=(xs.set j ⟨xs[j].versions,xs[j].tags,xs[j].path,a⟩).flatMap Ak:=Ct (o:=3) Eg (by omega) h rfl
@[simp high] theorem AGZ {xs:List CO} {j:Nat} (h:j<xs.length) (a:Int):(xs.flatMap Av).set (j*8) (.sc (.int .i64 a))=(xs.set j ⟨a,xs[j].tick,xs[j].on,⟨⟨xs[j].dialed.deal.ok,xs[j].dialed.deal.version,xs[j].dialed.deal.tags⟩,xs[j].dialed.tries,xs[j].dialed.up⟩⟩).flatMap Av:=Ct (o:=0) BP (by omega) h rfl
@[simp high] theorem AG1 {xs:List CO} {j:Nat} (h:j<xs.length) (a:Int):(xs.flatMap Av).set (j*8+1) (.sc (.int .i64 a))=(xs.set j ⟨xs[j].fin,a,xs[j].on,⟨⟨xs[j].dialed.deal.ok,xs[j].dialed.deal.version,xs[j].dialed.deal.tags⟩,xs[j].dialed.tries,xs[j].dialed.up⟩⟩).flatMap Av:=Ct (o:=1) BP (by omega) h rfl
@[simp high] theorem AHy {xs:List CO} {j:Nat} (h:j<xs.length) (a:Bool):(xs.flatMap Av).set (j*8+2) (.sc (.bool a))=(xs.set j ⟨xs[j].fin,xs[j].tick,a,⟨⟨xs[j].dialed.deal.ok,xs[j].dialed.deal.version,xs[j].dialed.deal.tags⟩,xs[j].dialed.tries,xs[j].dialed.up⟩⟩).flatMap Av:=Ct (o:=2) BP (by omega) h rfl
@[simp high] theorem AGG {xs:List CO} {j:Nat} (h:j<xs.length) (a:Bool):(xs.flatMap Av).set (j*8+3) (.sc (.bool a))=(xs.set j ⟨xs[j].fin,xs[j].tick,xs[j].on,⟨⟨a,xs[j].dialed.deal.version,xs[j].dialed.deal.tags⟩,xs[j].dialed.tries,xs[j].dialed.up⟩⟩).flatMap Av:=Ct (o:=3) BP (by omega) h rfl
@[simp high] theorem AHf {xs:List CO} {j:Nat} (h:j<xs.length) (a:Int):(xs.flatMap Av).set (j*8+4) (.sc (.int .i64 a))=(xs.set j ⟨xs[j].fin,xs[j].tick,xs[j].on,⟨⟨xs[j].dialed.deal.ok,a,xs[j].dialed.deal.tags⟩,xs[j].dialed.tries,xs[j].dialed.up⟩⟩).flatMap Av:=Ct (o:=4) BP (by omega) h rfl
@[simp high] theorem AGS {xs:List CO} {j:Nat} (h:j<xs.length) {n:Nat} (a:List Int) (hn:n=a.length):(xs.flatMap Av).set (j*8+5) (.sl 0 1 n (ints a))=(xs.set j ⟨xs[j].fin,xs[j].tick,xs[j].on,⟨⟨xs[j].dialed.deal.ok,xs[j].dialed.deal.version,a⟩,xs[j].dialed.tries,xs[j].dialed.up⟩⟩).flatMap Av:=by subst hn;exact Ct (o:=5) BP (by omega) h rfl
@[simp high] theorem AGI {xs:List CO} {j:Nat} (h:j<xs.length) (a:Int):(xs.flatMap Av).set (j*8+6) (.sc (.int .i64 a))=(xs.set j ⟨xs[j].fin,xs[j].tick,xs[j].on,⟨⟨xs[j].dialed.deal.ok,xs[j].dialed.deal.version,xs[j].dialed.deal.tags⟩,a,xs[j].dialed.up⟩⟩).flatMap Av:=Ct (o:=6) BP (by omega) h rfl
@[simp high] theorem AGF {xs:List CO} {j:Nat} (h:j<xs.length) {n:Nat} (a:List Int) (hn:n=a.length):(xs.flatMap Av).set (j*8+7) (.sl 0 1 n (ints a))=(xs.set j ⟨xs[j].fin,xs[j].tick,xs[j].on,⟨⟨xs[j].dialed.deal.ok,xs[j].dialed.deal.version,xs[j].dialed.deal.tags⟩,xs[j].dialed.tries,a⟩⟩).flatMap Av:=by subst hn;exact Ct (o:=7) BP (by omega) h rfl
@[simp high] theorem AIo {xs:List Event} {j:Nat} (h:j<xs.length) (a:Int):(xs.flatMap Cs).set (j*6) (.sc (.int .i64 a))=(xs.set j ⟨a,xs[j].n,⟨xs[j].box.limit,xs[j].box.drops,xs[j].box.strips,xs[j].box.lists⟩⟩).flatMap Cs:=Ct (o:=0) DX (by omega) h rfl
@[simp high] theorem AIq {xs:List Event} {j:Nat} (h:j<xs.length) (a:Int):(xs.flatMap Cs).set (j*6+1) (.sc (.int .i64 a))=(xs.set j ⟨xs[j].kind,a,⟨xs[j].box.limit,xs[j].box.drops,xs[j].box.strips,xs[j].box.lists⟩⟩).flatMap Cs:=Ct (o:=1) DX (by omega) h rfl
@[simp high] theorem AH4 {xs:List Event} {j:Nat} (h:j<xs.length) (a:Int):(xs.flatMap Cs).set (j*6+2) (.sc (.int .i64 a))=(xs.set j ⟨xs[j].kind,xs[j].n,⟨a,xs[j].box.drops,xs[j].box.strips,xs[j].box.lists⟩⟩).flatMap Cs:=Ct (o:=2) DX (by omega) h rfl
@[simp high] theorem AIi {xs:List Event} {j:Nat} (h:j<xs.length) {n:Nat} (a:List Int) (hn:n=a.length):(xs.flatMap Cs).set (j*6+3) (.sl 0 1 n (ints a))=(xs.set j ⟨xs[j].kind,xs[j].n,⟨xs[j].box.limit,a,xs[j].box.strips,xs[j].box.lists⟩⟩).flatMap Cs:=by subst hn;exact Ct (o:=3) DX (by omega) h rfl
@[simp high] theorem AIe {xs:List Event} {j:Nat} (h:j<xs.length) {n:Nat} (a:List Int) (hn:n=a.length):(xs.flatMap Cs).set (j*6+4) (.sl 0 1 n (ints a))=(xs.set j ⟨xs[j].kind,xs[j].n,⟨xs[j].box.limit,xs[j].box.drops,a,xs[j].box.lists⟩⟩).flatMap Cs:=by subst hn;exact Ct (o:=4) DX (by omega) h rfl
@[simp high] theorem AH3 {xs:List Event} {j:Nat} (h:j<xs.length) (a:Bool):(xs.flatMap Cs).set (j*6+5) (.sc (.bool a))=(xs.set j ⟨xs[j].kind,xs[j].n,⟨xs[j].box.limit,xs[j].box.drops,xs[j].box.strips,a⟩⟩).flatMap Cs:=Ct (o:=5) DX (by omega) h rfl
end Go.Eng.T
namespace Go.Eng.T
theorem AlH {α:Type} {f:α→List V} {p:α→Prop}:∀ {xs:List (List V)},(∀x,x∈xs→∃d,x=f d∧p d)→∃ds:List α,xs=ds.map f∧∀d,d∈ds→p d
 | [],_=>⟨[],rfl,by simp⟩
 | x::xs,h=>by
  obtain⟨d,rfl,hd⟩:=h x (by simp)
  obtain⟨ds,rfl,hds⟩:=AlH (xs:=xs) fun y hy=>h y (by simp[hy])
  exact⟨d::ds,rfl,by intro y hy;rcases List.mem_cons.1 hy with rfl | hy;exact hd;exact hds y hy⟩
theorem AG8 {α:Type} {y:Ty} {f:α→List V} {p:α→Prop} (hf:∀cs,Dat y cs→∃d,cs=f d∧p d) {cs:List V} (h:Dat (.sl y) cs):
 ∃ds:List α,cs=[.sl 0 y.cells ds.length (ds.flatMap f)]∧ds.length≤maxLen∧∀d,d∈ds→p d:=by
 simp only[Dat]at h
 obtain⟨xs,h1,h2,rfl⟩:=h
 obtain⟨ds,rfl,h3⟩:=AlH (f:=f) (p:=p) (xs:=xs) fun x hx=>hf x (h2 x hx)
 exact⟨ds,by simp[List.flatMap_def],by simpa using h1,h3⟩
end Go.Eng.T
namespace Go.Eng.T
theorem Zv {w:World} (h:Af w≤4194304):w.log.length≤4194304:=by have:=K6 (f:=Ce) (xs:=w.log);unfold Af at h;omega
theorem ER {w:World} (h:Af w≤4194304):w.ends.length≤4194304:=by have:=K6 (f:=Ar) (xs:=w.ends);unfold Af at h;omega
theorem AgA {w:World} (h:Af w≤4194304):w.stage.length≤4194304:=by have:=K6 (f:=DW) (xs:=w.stage);unfold Af at h;omega
theorem AdV (a b:Int):(a==b)=decide (a=b):=by by_cases h:a=b<;>simp[h]
end Go.Eng.T
namespace Go.Eng.T
abbrev Pp (R:Rel):Prop:=∀(xs ys:List Int),xs.length≤maxLen→ys.length≤maxLen→R [.sl 1 1 xs.length (ints xs),.sl 1 1 ys.length (ints ys)] [] (B (decide (xs=ys))) []
end Go.Eng.T
namespace Go.Eng.T
theorem AdL {xs:List Int} {v:Int} {j:Nat} (h:j<xs.length) (hp:v∉xs.take j) (hv:¬xs[j]=v):v∉xs.take (j+1):=by
 rw[List.take_add_one,List.getElem?_eq_getElem h]
 intro hm
 rcases List.mem_append.1 hm with hm | hm
 ·exact hp hm
 ·simp at hm;exact hv hm.symm
theorem AgQ {xs:List Int} {v:Int} {j:Nat} (h:xs.length≤j) (hp:v∉xs.take j):v∉xs:=by rwa [List.take_of_length_le h]at hp
theorem Atq {xs:List Int} {v:Int} {j:Nat} (h:j<xs.length) (hv:xs[j]=v):v∈xs:=by rw[←hv];exact List.getElem_mem h
def AwG (xs:List Int) (v:Int):Int:=if v∈xs then(xs.idxOf v:Nat)else -1
theorem ACj {xs:List Int} {v:Int} {j:Nat} (h:j<xs.length) (hp:v∉xs.take j) (hv:xs[j]=v):AwG xs v=j:=by
 unfold AwG
 rw[if_pos (Atq h hv)]
 congr 1
 have e:xs=xs.take j++v::xs.drop (j+1):=by
  conv=>lhs;rw[←List.take_append_drop j xs,List.drop_eq_getElem_cons h,hv]
 rw[e,List.idxOf_append,if_neg hp]
 simp
 omega
theorem AEW {xs:List Int} {v:Int}:(0≤AwG xs v)=(v∈xs):=by
 unfold AwG
 by_cases h:v∈xs<;>simp[h]
abbrev AqL (R:Rel):Prop:=∀(xs:List Int) (v:Int),xs.length≤maxLen→R [.sl 1 1 xs.length (ints xs),I v] [] (I (AwG xs v)) []
theorem AEJ (D:Dn):AqL (Body D Ij):=by
 intro xs v hl
 unfold maxLen at hl
 simp -implicitDefEqProofs
 refine Ad (fun k s=>∃j,j+k=xs.length∧v∉xs.take j∧s=⟨[.sl 1 1 xs.length (ints xs),.sc (.int .i64 v),.undef,.undef,.sc (.int .i64 xs.length),.sc (.int .i64 j),.undef,.undef],[]⟩) ?_ xs.length _ ⟨0,by simp,by simp,by simp⟩
 intro k s ⟨j,hj,hp,hs⟩
 subst hs
 by_cases hjn:j<xs.length
 ·have hw:IntKind.i64.wrap ((j:Int)+1)=(j+1:Nat):=by rw[Ab (by omega) (by omega)];simp
  by_cases he:v=xs[j]
  ·have hx:=ACj hjn hp he.symm
   simp -implicitDefEqProofs [hjn,←he,hx]
  ·simp -implicitDefEqProofs [hjn,he]
   exact⟨k-1,by omega,j+1,by omega,AdL hjn hp (fun h=>he h.symm),by simp[hw]⟩
 ·have hx:AwG xs v= -1:=by unfold AwG;rw[if_neg (AgQ (by omega) hp)]
  simp -implicitDefEqProofs [hjn,hx]
abbrev PX (R:Rel):Prop:=∀(xs:List Int) (v:Int),xs.length≤maxLen→R [.sl 1 1 xs.length (ints xs),I v] [] (B (decide (v∈xs))) []
theorem Awg (D:Dn) (hI:AqL (D 389)):PX (Body D Gj):=by
 intro xs v hl
 simp -implicitDefEqProofs
 refine Aa (hI xs v hl) ?_
 simp -implicitDefEqProofs [AEW]
theorem AE8 (D:Dn):PX (Body D X4):=by
 intro xs v hl
 unfold maxLen at hl
 simp -implicitDefEqProofs
 refine Ad (fun k s=>∃j,j+k=xs.length∧v∉xs.take j∧s=⟨[.sl 1 1 xs.length (ints xs),.sc (.int .i64 v),.undef,.sc (.int .i64 j),.undef,.undef],[]⟩) ?_ xs.length _ ⟨0,by simp,by simp,by simp⟩
 intro k s ⟨j,hj,hp,hs⟩
 subst hs
 by_cases hjn:j<xs.length
 ·have hw:IntKind.i64.wrap ((j:Int)+1)=(j+1:Nat):=by rw[Ab (by omega) (by omega)];simp
  by_cases he:xs[j]=v
  ·have hx:=Atq hjn he
   simp -implicitDefEqProofs [hjn,he,hx]
  ·simp -implicitDefEqProofs [hjn,he]
   exact⟨k-1,by omega,j+1,by omega,AdL hjn hp he,by simp[hw]⟩
 ·have hx:=AgQ (by omega) hp
  simp -implicitDefEqProofs [hjn,hx]
def NK (v:Int) (d:Eh):Bool:= !d.deal.ok||(decide (d.deal.version<v)&&decide (v∈d.up))
def goodD (v:Int) (d:Eh):Bool:= !NK v d&&decide (v≤d.deal.version)
def cntF {α:Type} (f:α→Bool) (xs:List α):Nat:=(xs.filter f).length
theorem AcN {α:Type} {f:α→Bool} {xs:List α} {j:Nat} (h:j<xs.length):cntF f (xs.take (j+1))=cntF f (xs.take j)+(if f xs[j]then 1 else 0):=by
 unfold cntF
 rw[List.take_add_one,List.getElem?_eq_getElem h,List.filter_append,List.length_append]
 congr 1
 by_cases hf:f xs[j]<;>simp[hf]
theorem AjX {α:Type} {f:α→Bool} {xs:List α} {j:Nat} (h:j≤xs.length):cntF f (xs.take j)≤j:=by
 unfold cntF
 have:=List.length_filter_le f (xs.take j)
 simp at this
 omega
theorem Ajj {α:Type} {f:α→Bool} {xs:List α} {j:Nat} (h:xs.length≤j):cntF f (xs.take j)=cntF f xs:=by rw[List.take_of_length_le h]
end Go.Eng.T
namespace Go.Eng.T
abbrev Vq (R:Rel):Prop:=∀(xs:List Eh) (v:Int),xs.length≤maxLen→(∀(j:Nat) (h:j<xs.length),xs[j].up.length≤maxLen)→
 R [.sl 1 5 xs.length (xs.flatMap A9),I v] [] (.tup [I (cntF (goodD v) xs),I (cntF (NK v) xs)]) []
theorem AuS (D:Dn) (hH:PX (D 166)):Vq (Body D RU):=by
 intro xs v hl hu
 unfold maxLen at hl
 simp -implicitDefEqProofs
 refine Ad (fun k s=>∃j o0,j+k=xs.length∧s=⟨[.sl 1 5 xs.length (xs.flatMap A9),.sc (.int .i64 v),.undef,.undef,.sc (.int .i64 (cntF (goodD v) (xs.take j))),.sc (.int .i64 (cntF (NK v) (xs.take j))),.sc (.int .i64 j),.undef,.undef,.undef,.undef],[o0]⟩) ?_ xs.length _ ⟨0,.free,by simp,by simp[cntF]⟩
 intro k s ⟨j,o0,hj,hs⟩
 subst hs
 by_cases hjn:j<xs.length
 ·have hw:IntKind.i64.wrap ((j:Int)+1)=(j+1:Nat):=by rw[Ab (by omega) (by omega)];simp
  have hc:=AcN (f:=goodD v) hjn
  have hb:=AcN (f:=NK v) hjn
  have hcl:=AjX (f:=goodD v) (xs:=xs) (j:=j) (by omega)
  have hbl:=AjX (f:=NK v) (xs:=xs) (j:=j) (by omega)
  have hw2:IntKind.i64.wrap ((cntF (goodD v) (xs.take j):Int)+1)=(cntF (goodD v) (xs.take j)+1:Nat):=by rw[Ab (by omega) (by omega)];simp
  have hw3:IntKind.i64.wrap ((cntF (NK v) (xs.take j):Int)+1)=(cntF (NK v) (xs.take j)+1:Nat):=by rw[Ab (by omega) (by omega)];simp
  have fin:∀(a b:Bool),goodD v xs[j]=a→NK v xs[j]=b→∀x y:Int,x=((cntF (goodD v) (xs.take j)+(if a then 1 else 0):Nat):Int)→y=((cntF (NK v) (xs.take j)+(if b then 1 else 0):Nat):Int)→
   x=cntF (goodD v) (xs.take (j+1))∧y=cntF (NK v) (xs.take (j+1)):=by
   intro a b ha hb' x y hx hy
   rw[hc,hb,ha,hb']
   exact⟨hx,hy⟩
  by_cases h1:xs[j].deal.ok=true
  ·by_cases h2:xs[j].deal.version<v
   ·simp -implicitDefEqProofs [hjn,h1,h2]
    refine Aa (hH xs[j].up v (hu j hjn)) ?_
    by_cases h3:v∈xs[j].up
    ·have g:=fin false true (by simp[goodD,NK,h1,h2,h3]) (by simp[NK,h1,h2,h3]) _ _ rfl rfl
     simp -implicitDefEqProofs [h3]
     exact⟨k-1,by omega,j+1,by omega,by simpa using g.1,by rw[hw3];simpa using g.2,by simp[hw]⟩
    ·have h4:¬v≤xs[j].deal.version:=by omega
     have g:=fin false false (by simp[goodD,NK,h1,h2,h3,h4]) (by simp[NK,h1,h2,h3]) _ _ rfl rfl
     simp -implicitDefEqProofs [h3,h4]
     exact⟨k-1,by omega,j+1,by omega,by simpa using g.1,by simpa using g.2,by simp[hw]⟩
   ·have h4:v≤xs[j].deal.version:=by omega
    have g:=fin true false (by simp[goodD,NK,h1,h2,h4]) (by simp[NK,h1,h2]) _ _ rfl rfl
    simp -implicitDefEqProofs [hjn,h1,h2,h4]
    exact⟨k-1,by omega,j+1,by omega,by rw[hw2];simpa using g.1,by simpa using g.2,by simp[hw]⟩
  ·have g:=fin false true (by simp[goodD,NK,h1]) (by simp[NK,h1]) _ _ rfl rfl
   simp -implicitDefEqProofs [hjn,h1]
   exact⟨k-1,by omega,j+1,by omega,by simpa using g.1,by rw[hw3];simpa using g.2,by simp[hw]⟩
 ·have hx:=Ajj (f:=goodD v) (xs:=xs) (j:=j) (by omega)
  have hy:=Ajj (f:=NK v) (xs:=xs) (j:=j) (by omega)
  simp -implicitDefEqProofs [hjn,hx,hy]
abbrev F4 (R:Rel):Prop:=∀(d:Eh) (v:Int),d.up.length≤maxLen→R [arg (A9 d),I v] [] (B (NK v d)) []
theorem Aq2 (D:Dn) (hM:Vq (D 155)):F4 (Body D QG):=by
 intro d v hu
 simp -implicitDefEqProofs
 refine Aa (hM [d] v (by unfold maxLen;simp) (fun j h=>by have e:j=0:=(by simpa using h);subst e;exact hu)) ?_
 by_cases h:NK v d<;>simp -implicitDefEqProofs [cntF,h]
theorem AEU (D:Dn) (hH:PX (D 188)):F4 (Body D YM):=by
 intro d v hu
 by_cases h1:d.deal.ok=true
 ·by_cases h2:d.deal.version<v
  ·simp -implicitDefEqProofs [h1,h2]
   refine Aa (hH d.up v hu) ?_
   simp -implicitDefEqProofs [NK,h1,h2]
  ·simp -implicitDefEqProofs [h1,h2,NK]
 ·simp -implicitDefEqProofs [h1,NK]
theorem AqN (D:Dn) (hB:F4 (D 229)):F4 (Body D QD):=by
 intro d v hu
 simp -implicitDefEqProofs
 refine Aa (hB d v hu) ?_
 simp -implicitDefEqProofs
end Go.Eng.T
namespace Go.Eng.T
set_option maxRecDepth 20000
abbrev Pv (a b c:Int):Prop:=b≤a∧a≤c
def P9 (g b l p:Int):Int:=
 if¬Pv g 0 10000∨¬Pv b 0 10000∨¬Pv l 1 10000∨¬Pv p 0 100 then 0
 else if 100*b>p*l∧100*b>p*(g+b)then 2
 else if g+b<l then 0
 else if 100*b≤p*(g+b)then 1
 else 2
abbrev Y4 (R:Rel):Prop:=∀g b l p:Int,R [I g,I b,I l,I p] [] (I (P9 g b l p)) []
theorem AoX {p x:Int} (h1:0≤p) (h2:p≤100) (h3:0≤x) (h4:x≤20000):IntKind.i64.wrap (p*x)=p*x:=by
 have a1:0≤p*x:=Int.mul_nonneg h1 h3
 have a2:p*x≤100*20000:=Int.mul_le_mul h2 h4 h3 (by omega)
 exact Ab (by omega) (by omega)
theorem AuD (D:Dn) (hI:Qo (D BF)):Y4 (Body D Sg):=by
 intro g b l p
 simp -implicitDefEqProofs
 refine Aa (hI _ _ _) ?_
 by_cases h1:Pv g 0 10000
 rotate_left
 ·simp -implicitDefEqProofs [h1,P9]
 simp -implicitDefEqProofs [h1]
 refine Aa (hI _ _ _) ?_
 by_cases h2:Pv b 0 10000
 rotate_left
 ·simp -implicitDefEqProofs [h2,P9]
 simp -implicitDefEqProofs [h2]
 refine Aa (hI _ _ _) ?_
 by_cases h3:Pv l 1 10000
 rotate_left
 ·simp -implicitDefEqProofs [h3,P9]
 simp -implicitDefEqProofs [h3]
 refine Aa (hI _ _ _) ?_
 by_cases h4:Pv p 0 100
 rotate_left
 ·simp -implicitDefEqProofs [h4,P9]
 have w1:IntKind.i64.wrap (100*b)=100*b:=Ab (by omega) (by omega)
 have w2:=AoX h4.1 h4.2 (x:=l) (by omega) (by omega)
 have w3:=AoX h4.1 h4.2 (x:=g+b) (by omega) (by omega)
 have w4:IntKind.i64.wrap (g+b)=g+b:=Ab (by omega) (by omega)
 have e:P9 g b l p=if 100*b>p*l∧100*b>p*(g+b)then 2 else if g+b<l then 0 else if 100*b≤p*(g+b)then 1 else 2:=by unfold P9;rw[if_neg (by simp[h1,h2,h3,h4])]
 rw[e]
 clear e
 by_cases c1:p*l<100*b
 ·by_cases c2:p*(g+b)<100*b
  ·simp -implicitDefEqProofs [h4,w1,w2,w3,w4,c1,c2]
  ·have c3:100*b≤p*(g+b):=by omega
   by_cases c4:g+b<l
   ·simp -implicitDefEqProofs [h4,w1,w2,w3,w4,c1,c2,c3,c4]
   ·simp -implicitDefEqProofs [h4,w1,w2,w3,w4,c1,c2,c3,c4]
 ·by_cases c4:g+b<l
  ·simp -implicitDefEqProofs [h4,w1,w2,w3,w4,c1,c4]
  ·by_cases c3:100*b≤p*(g+b)
   ·simp -implicitDefEqProofs [h4,w1,w2,w3,w4,c1,c3,c4]
   ·simp -implicitDefEqProofs [h4,w1,w2,w3,w4,c1,c3,c4]
end Go.Eng.T
namespace Go.Eng.T
set_option maxRecDepth 20000
def GR {α:Type} (p:α→Bool):List α→Int→Int
 | [],_=> -1
 | x::r,i=>if p x then i else GR p r (i+1)
theorem OM {α:Type} {p:α→Bool} {xs:List α} {j:Nat} (h:j<xs.length):GR p (xs.drop j) j=if p xs[j]then(j:Int)else GR p (xs.drop (j+1)) ((j:Int)+1):=by
 rw[List.drop_eq_getElem_cons h];rfl
theorem Ta {α:Type} {p:α→Bool} {xs:List α} {j:Nat} (h:xs.length≤j):GR p (xs.drop j) j= -1:=by rw[List.drop_eq_nil_of_le h];rfl
theorem RH {α:Type} {p:α→Bool}:∀ {xs:List α} {i:Int},0≤i→(0≤GR p xs i)=(xs.any p=true)
 | [],i,_=>by simp[GR]
 | x::r,i,h=>by
  by_cases hp:p x=true
  ·simp[GR,hp,h]
  ·have:=RH (p:=p) (xs:=r) (i:=i+1) (by omega)
   simp[GR,hp]at *
   exact this
def KD (caps:List V):Prop:=(∀(H:Hp) (n:Nat),Ko H n (caps.map fun v=>(false,v))=some [])∧(∀(H Hr:Hp) (n:Nat),Jg H Hr n (caps.map fun v=>(false,v))=some caps)∧∀H:Hp,Awn H caps=some caps
theorem E5:KD []:=⟨fun _ _=>rfl,fun _ _ _=>rfl,fun _=>rfl⟩
theorem Ab4 {v:V} {r:List V} (hv:∀H,ro H v=some v) (hv2:∀H,ro2 H v=some v) (h:KD r):KD (v::r):=
 ⟨fun H n=>h.1 H n,fun H Hr n=>by simp only[List.map_cons,Jg,hv,h.2.1],fun H=>by simp only[Awn,hv2,h.2.2]⟩
theorem Agp {a:Int} {r:List V} (h:KD r):KD (.rptr 1 [.sc (.int .i64 a)] 0::r):=Ab4 (fun H=>by simp) (fun H=>by simp) h
abbrev Ww (D:Dn) (R:Rel):Prop:=∀(xs:List Int) (g:Nat) (caps:List V) (p:Int→Bool),xs.length≤maxLen→KD caps→(∀x:Int,D g (I x::caps) [] (B (p x)) [])→
 R [.sl 1 1 xs.length (ints xs),.fn g caps] [] (I (GR p xs 0)) []
theorem Ar9 (D:Dn):Ww D (Body D F5):=by
 intro xs g caps p hl hc hp
 unfold maxLen at hl
 simp -implicitDefEqProofs
 refine Ad (fun k s=>∃j,j+k=xs.length∧GR p xs 0=GR p (xs.drop j) j∧s=⟨[.sl 1 1 xs.length (ints xs),.fn g caps,.undef,.undef,.sc (.int .i64 xs.length),.sc (.int .i64 j),.undef,.undef],[]⟩) ?_ xs.length _ ⟨0,by simp,by simp,by simp⟩
 intro k s ⟨j,hj,hi,hs⟩
 subst hs
 by_cases hjn:j<xs.length
 ·have hw:IntKind.i64.wrap ((j:Int)+1)=(j+1:Nat):=by rw[Ab (by omega) (by omega)];simp
  rw[OM hjn]at hi
  simp -implicitDefEqProofs [hjn,hc.1,hc.2.1]
  refine Aa (hp xs[j]) ?_
  by_cases he:p xs[j]=true
  ·rw[if_pos he]at hi
   simp -implicitDefEqProofs [he,hi]
  ·rw[if_neg he]at hi
   simp -implicitDefEqProofs [he]
   exact⟨k-1,by omega,j+1,by omega,by simpa using hi,by simp[hw]⟩
 ·rw[Ta (by omega)]at hi
  simp -implicitDefEqProofs [hjn,hi]
abbrev Lb (D:Dn) (R:Rel):Prop:=∀(xs:List Int) (g:Nat) (caps:List V) (p:Int→Bool),xs.length≤maxLen→KD caps→(∀x:Int,D g (I x::caps) [] (B (p x)) [])→
 R [.sl 1 1 xs.length (ints xs),.fn g caps] [] (B (xs.any p)) []
theorem AjH (D:Dn) (hI:Ww D (D QT)):Lb D (Body D Fq):=by
 intro xs g caps p hl hc hp
 simp -implicitDefEqProofs [hc.2.2]
 refine Aa (hI xs g caps p hl hc hp) ?_
 have e:decide (0≤GR p xs 0)=xs.any p:=by rw[Bool.eq_iff_iff];simp only[decide_eq_true_eq];rw[RH (by omega)]
 simp -implicitDefEqProofs [e]
def allIn (xs:List Int) (lo hi:Int):Bool:=xs.all fun x=>decide (Pv x lo hi)
abbrev JN (R:Rel):Prop:=∀(xs:List Int) (lo hi:Int),xs.length≤maxLen→R [.sl 1 1 xs.length (ints xs),I lo,I hi] [] (B (allIn xs lo hi)) []
abbrev Rv (R:Rel):Prop:=∀(x lo hi:Int),R [I x,.rptr 1 [I lo] 0,.rptr 1 [I hi] 0] [] (B (!decide (Pv x lo hi))) []
theorem Aoy (D:Dn) (hI:Qo (D BB)):Rv (Body D LW):=by
 intro x lo hi
 simp -implicitDefEqProofs
 refine Aa (hI _ _ _) ?_
 simp -implicitDefEqProofs
theorem Arf (D:Dn) (h1:Rv (D Ab7)) (hC:Lb D (D Io)):JN (Body D OA):=by
 intro xs lo hi hl
 simp -implicitDefEqProofs
 refine Aa (hC xs 266 _ (fun x=> !decide (Pv x lo hi)) hl (Agp (Agp E5)) (fun x=>h1 x lo hi)) ?_
 have e:(xs.any fun x=> !decide (Pv x lo hi))= !allIn xs lo hi:=by unfold allIn;rw[List.all_eq_not_any_not];simp
 generalize(xs.any fun x=> !decide (Pv x lo hi))=b at e⊢
 subst e
 simp -implicitDefEqProofs
end Go.Eng.T
namespace Go.Eng.T
structure Ext where
 tag:Int
 body:List Int
 deriving DecidableEq
structure Hello where
 versions:List Int
 exts:List Ext
 deriving DecidableEq
structure SE where
 version:Int
 exts:List Ext
 deriving DecidableEq
def Bw (x:Ext):List V:=[.sc (.int .i64 x.tag),.sl 0 1 x.body.length (ints x.body)]
def CP (h:Hello):List V:=[.sl 0 1 h.versions.length (ints h.versions),.sl 0 2 h.exts.length (h.exts.flatMap Bw)]
def Zp (a:SE):List V:=[.sc (.int .i64 a.version),.sl 0 2 a.exts.length (a.exts.flatMap Bw)]
theorem YC (x:Ext):(Bw x).length=2:=rfl
@[simp] theorem AJj (xs:List Ext):(xs.flatMap Bw).map (AL 0)=xs.flatMap Bw:=ZF (fun _=>rfl) xs
@[simp high] theorem AJc {xs:List Ext} {j:Nat} (h:j<xs.length):Gs (xs.flatMap Bw) (j*2) 2=some (Bw xs[j]):=O1 YC h
@[simp high] theorem RP (xs:List Ext):(xs.flatMap Bw).length=xs.length*2:=Nz YC xs
@[simp high] theorem AI8 {xs:List Ext} {j:Nat} (h:j<xs.length):(xs.flatMap Bw)[j*2]? =some (.sc (.int .i64 xs[j].tag)):=by
 have:=AP (o:=0) YC h (by omega)
 simpa[Bw]using this
@[simp high] theorem AJm {xs:List Ext} {j:Nat} (h:j<xs.length):(xs.flatMap Bw)[j*2+1]? =some (.sl 0 1 xs[j].body.length (ints xs[j].body)):=by
 have:=AP (o:=1) YC h (by omega)
 simpa[Bw]using this
theorem AyY {α:Type} {f:α→List V} {e:Nat} (hf:∀x,(f x).length=e) (xs:List α) (i:Nat):(xs.flatMap f).take (i*e)=(xs.take i).flatMap f:=by
 induction xs generalizing i with
 | nil=>simp
 | cons x xs ih=>
  cases i with
  | zero=>simp
  | succ i=>
   simp only[List.flatMap_cons,List.take_succ_cons]
   rw[←ih i,show(i+1)*e=(f x).length+i*e by rw[hf,Nat.add_mul];omega,List.take_length_add_append]
theorem AzS {α:Type} {f:α→List V} {e:Nat} (hf:∀x,(f x).length=e) (xs:List α) (o n:Nat):part (xs.flatMap f) e o n=((xs.drop o).take n).flatMap f:=by
 unfold part
 rw[Y6 hf,AyY hf]
@[simp high] theorem AIj (xs:List Ext) (o n:Nat):part (xs.flatMap Bw) 2 o n=((xs.drop o).take n).flatMap Bw:=AzS YC xs o n
attribute [simp] Bw CP Zp
def UY (l:List Ext):Prop:=l.length≤4194304∧∀x,x∈l→x.body.length≤4194304
theorem Ns {l:List Ext} (h:UY l) {j:Nat} (hj:j<l.length):l[j].body.length≤4194304:=h.2 _ (List.getElem_mem hj)
theorem Ada:UY []:=⟨by simp,by simp⟩
theorem Aw5 {l:List Ext} (h:UY l) (p:Ext→Bool):UY (l.filter p):=
 ⟨Nat.le_trans (List.length_filter_le p l) h.1,fun x hx=>h.2 x (List.mem_filter.1 hx).1⟩
def PY (q:Nat→Bool) (j:Nat):Bool:=(List.range j).all q
@[simp] theorem AHK (q:Nat→Bool):PY q 0=true:=rfl
theorem JX (q:Nat→Bool) (j:Nat):PY q (j+1)=(PY q j&&q j):=by
 unfold PY
 rw[List.range_succ,List.all_append]
 simp
theorem AjP {q:Nat→Bool} {j n:Nat} (h:j<n) (hn:q j=false):PY q n=false:=by
 have:∀m,PY q (j+1+m)=false:=by
  intro m
  induction m with
  | zero=>rw[Nat.add_zero,JX,hn];simp
  | succ m ih=>rw[show j+1+(m+1)=(j+1+m)+1 by omega,JX,ih];rfl
 have:=this (n-(j+1))
 rwa [show j+1+(n-(j+1))=n by omega]at this
theorem Apv {q:Nat→Bool} {n:Nat}:PY q n=true↔∀i,i<n→q i=true:=by
 unfold PY
 rw[List.all_eq_true]
 simp
theorem Abr {α:Type} {p:α→Bool} {xs:List α} {j:Nat} (h:j<xs.length):(xs.take (j+1)).filter p=(xs.take j).filter p++(if p xs[j]then [xs[j]]else []):=by
 have e:xs.take (j+1)=xs.take j++ [xs[j]]:=by simp
 rw[e,List.filter_append]
 by_cases hp:p xs[j]=true<;>simp[hp]
theorem AfI {α:Type} {p:α→Bool} {xs:List α} {j:Nat} (h:xs.length≤j):(xs.take j).filter p=xs.filter p:=by rw[List.take_of_length_le h]
theorem Aff {α:Type} {p:α→Bool} {xs:List α} {j:Nat}:((xs.take j).filter p).length≤j:=by
 have:=List.length_filter_le p (xs.take j)
 have h2:(xs.take j).length≤j:=by simp;omega
 omega
end Go.Eng.T
namespace Go.Eng.T
set_option maxRecDepth 20000
abbrev NZ (R:Rel):Prop:=∀r:BL,BX r≤4194304→R [arg (F7 r)] [] (.agg (F7 r)) []
theorem AAe (D:Dn):NZ (Body D Uq):=by
 intro r h
 have hb:r.stages.length*8≤1099511627776:=by unfold BX at h;omega
 simp -implicitDefEqProofs [hb]
abbrev VN (R:Rel):Prop:=∀d:Eh,DW d≤4194304→R [arg (A9 d)] [] (.agg (A9 d)) []
theorem Auz (D:Dn):VN (Body D QY):=by
 intro d h
 unfold DW YJ at h
 have h1:d.deal.tags.length*8≤1099511627776:=by omega
 have h2:d.up.length*8≤1099511627776:=by omega
 simp -implicitDefEqProofs [h1,h2]
theorem Zd {α:Type} {f:α→List V} {xs:List α} {j:Nat} (h:j<xs.length):(xs.take j).flatMap f++f xs[j]=(xs.take (j+1)).flatMap f:=by
 have e:xs.take (j+1)=xs.take j++ [xs[j]]:=by simp
 rw[e,List.flatMap_append];simp
abbrev TK (R:Rel):Prop:=∀x:Aq,Ar x≤4194304→R [arg (Ak x)] [] (.agg (Ak x)) []
theorem ADw (D:Dn):TK (Body D WZ):=by
 intro x h
 unfold Ar at h
 have h1:x.versions.length*8≤1099511627776:=by omega
 have h2:x.tags.length*8≤1099511627776:=by omega
 have hlen:=K6 (f:=JS) (xs:=x.path)
 simp -implicitDefEqProofs [h1,h2]
 refine Ad (fun k s=>∃j o7 o8 o9 o10 o11 o12 o13,j+k=x.path.length∧s=⟨[.undef,.ptr 0 0,.ptr 1 0,.ptr 6 0,.sc (.int .i64 j),.undef,.undef],[.var ((Ak x).map (AL 1)),.var [.nil 1,.nil 1,.nil 4,.sc (.int .i64 0)],.dead,.arr 1 0 x.versions.length (ints x.versions),.dead,.arr 1 0 x.tags.length (ints x.tags),.var [.arr 3,.arr 5,.arr 14,.sc (.int .i64 x.cls)],o7,o8,o9,o10,o11,o12,o13,.arr 4 0 j ((x.path.take j).flatMap Dy)]⟩) ?_ x.path.length _ ⟨0,.free,.free,.free,.free,.free,.free,.free,by simp,by simp⟩
 intro k s ⟨j,o7,o8,o9,o10,o11,o12,o13,hj,hs⟩
 subst hs
 by_cases hjn:j<x.path.length
 ·have hw:IntKind.i64.wrap ((j:Int)+1)=(j+1:Nat):=by rw[Ab (by omega) (by omega)];simp
  have hsz:=size_at (f:=JS) hjn
  have e:JS x.path[j]=x.path[j].drops.length+x.path[j].strips.length:=rfl
  have h1:x.path[j].drops.length*8≤1099511627776:=by omega
  have h2:x.path[j].strips.length*8≤1099511627776:=by omega
  have h3:(j+1)*64≤1099511627776:=by omega
  have hst:=Zd (f:=Dy) hjn
  simp -implicitDefEqProofs [hjn,h1,h2,h3]
  exact⟨k-1,by omega,j+1,by omega,by simp[hw],rfl,by rw[←hst];rfl⟩
 ·obtain rfl:j=x.path.length:=by omega
  simp -implicitDefEqProofs
end Go.Eng.T
namespace Go.Eng.T
set_option maxRecDepth 20000
theorem AgP {w:World} (h:Af w≤4194304):BX w.rollout≤4194304:=by unfold Af at h;omega
theorem Ms {w:World} (h:Af w≤4194304):w.server.length≤4194304∧w.tags.length≤4194304∧Cu Ar w.ends≤4194304∧Cu DW w.stage≤4194304∧Cu Ce w.log≤4194304:=by unfold Af at h;omega
abbrev Ga (R:Rel):Prop:=∀w:World,Af w≤4194304→R [arg (Bn w)] [] (.agg (Bn w)) []
theorem AzU (D:Dn) (hE:TK (D Arc)) (hR:NZ (D UI)) (hD:VN (D Xp)):Ga (Body D Un):=by
 intro w h
 have hl:=Zv h
 have he:=ER h
 have hs:=AgA h
 have hr:=AgP h
 have z:=Ms h
 have b1:w.server.length*8≤1099511627776:=by omega
 have b2:w.tags.length*8≤1099511627776:=by omega
 simp -implicitDefEqProofs [b1,b2]
 refine Ad (fun k s=>∃j o8 o9 o10 o11 o12,j+k=w.ends.length∧s=⟨[.undef,.ptr 0 0,.ptr 1 0,.ptr 2 0,.sc (.int .i64 j),.undef,.undef,.undef,.undef,.undef],[.var ((Bn w).map (AL 1)),.var [.nil 1,.nil 1,.sc (.int .i64 0),.nil 4,.sc (.int .i64 0),.nil 1,.sc (.int .i64 0),.sc (.bool false),.sc (.int .i64 0),.sc (.int .i64 0),.nil 5,.nil 8,.sc (.int .i64 0),.sc (.int .i64 0),.sc (.int .i64 0)],.var [.arr 4,.arr 6,.sc (.int .i64 w.key),.arr 24,.sc (.int .i64 w.rollout.version),.sl 1 1 w.rollout.stages.length (ints w.rollout.stages),.sc (.int .i64 w.rollout.pos),.sc (.bool w.rollout.off),.sc (.int .i64 w.least),.sc (.int .i64 w.percent),.sl 1 5 w.stage.length (w.stage.flatMap A9),.sl 1 8 w.log.length (w.log.flatMap Av),.sc (.int .i64 w.now),.sc (.int .i64 w.hurt),.sc (.int .i64 w.reached)],.dead,.arr 1 0 w.server.length (ints w.server),.dead,.arr 1 0 w.tags.length (ints w.tags),.free,o8,o9,o10,o11,o12,.free,.free,.free,.free,.free,.free,.free,.free,.free,.free,.free,.arr 4 0 j ((w.ends.take j).flatMap Ak),.free,.free]⟩) ?_ w.ends.length _ ⟨0,by simp⟩
 intro k s ⟨j,o8,o9,o10,o11,o12,hj,hs'⟩
 subst hs'
 by_cases hjn:j<w.ends.length
 ·have hw:IntKind.i64.wrap ((j:Int)+1)=(j+1:Nat):=by rw[Ab (by omega) (by omega)];simp
  have hsz:=size_at (f:=Ar) hjn
  have h3:(j+1)*80≤1099511627776:=by omega
  have hst:=Zd (f:=Ak) hjn
  simp -implicitDefEqProofs [hjn]
  refine Aa (hE w.ends[j] (by first | omega | (simp only[Ce]at hsz;omega))) ?_
  simp -implicitDefEqProofs [hjn,h3]
  exact⟨k-1,by omega,j+1,by omega,by simp[hw],rfl,by rw[←hst];rfl⟩
 obtain rfl:j=w.ends.length:=by omega
 simp -implicitDefEqProofs
 refine Aa (hR w.rollout hr) ?_
 simp -implicitDefEqProofs
 refine Ad (fun k s=>∃j o8 o9 o10 o11 o12 o15 o16 o17 o18,j+k=w.stage.length∧s=⟨[.undef,.ptr 0 0,.ptr 1 0,.ptr 2 0,.undef,.sc (.int .i64 j),.undef,.undef,.undef,.undef],[.var ((Bn w).map (AL 1)),.var [.nil 1,.nil 1,.sc (.int .i64 0),.nil 4,.sc (.int .i64 0),.nil 1,.sc (.int .i64 0),.sc (.bool false),.sc (.int .i64 0),.sc (.int .i64 0),.nil 5,.nil 8,.sc (.int .i64 0),.sc (.int .i64 0),.sc (.int .i64 0)],.var [.arr 4,.arr 6,.sc (.int .i64 w.key),.arr 24,.sc (.int .i64 w.rollout.version),.arr 13,.sc (.int .i64 w.rollout.pos),.sc (.bool w.rollout.off),.sc (.int .i64 w.least),.sc (.int .i64 w.percent),.arr 25,.sl 1 8 w.log.length (w.log.flatMap Av),.sc (.int .i64 w.now),.sc (.int .i64 w.hurt),.sc (.int .i64 w.reached)],.dead,.arr 1 0 w.server.length (ints w.server),.dead,.arr 1 0 w.tags.length (ints w.tags),.free,o8,o9,o10,o11,o12,.arr 1 0 w.rollout.stages.length (ints w.rollout.stages),.free,o15,o16,o17,o18,.free,.free,.free,.free,.free,.arr 4 0 w.ends.length (w.ends.flatMap Ak),.arr 5 0 j ((w.stage.take j).flatMap A9),.free]⟩) ?_ w.stage.length _ ⟨0,by simp⟩
 intro k s ⟨j,o8,o9,o10,o11,o12,o15,o16,o17,o18,hj,hs'⟩
 subst hs'
 by_cases hjn:j<w.stage.length
 ·have hw:IntKind.i64.wrap ((j:Int)+1)=(j+1:Nat):=by rw[Ab (by omega) (by omega)];simp
  have hsz:=size_at (f:=DW) hjn
  have h3:(j+1)*72≤1099511627776:=by omega
  have hst:=Zd (f:=A9) hjn
  simp -implicitDefEqProofs [hjn]
  refine Aa (hD w.stage[j] (by first | omega | (simp only[Ce]at hsz;omega))) ?_
  simp -implicitDefEqProofs [hjn,h3]
  exact⟨k-1,by omega,j+1,by omega,by simp[hw],rfl,by rw[←hst];rfl⟩
 obtain rfl:j=w.stage.length:=by omega
 simp -implicitDefEqProofs
 refine Ad (fun k s=>∃j o8 o9 o10 o11 o12 o15 o16 o17 o18 o20 o21 o22 o23,j+k=w.log.length∧s=⟨[.undef,.ptr 0 0,.ptr 1 0,.ptr 2 0,.undef,.undef,.sc (.int .i64 j),.undef,.undef,.undef],[.var ((Bn w).map (AL 1)),.var [.nil 1,.nil 1,.sc (.int .i64 0),.nil 4,.sc (.int .i64 0),.nil 1,.sc (.int .i64 0),.sc (.bool false),.sc (.int .i64 0),.sc (.int .i64 0),.nil 5,.nil 8,.sc (.int .i64 0),.sc (.int .i64 0),.sc (.int .i64 0)],.var [.arr 4,.arr 6,.sc (.int .i64 w.key),.arr 24,.sc (.int .i64 w.rollout.version),.arr 13,.sc (.int .i64 w.rollout.pos),.sc (.bool w.rollout.off),.sc (.int .i64 w.least),.sc (.int .i64 w.percent),.arr 25,.arr 26,.sc (.int .i64 w.now),.sc (.int .i64 w.hurt),.sc (.int .i64 w.reached)],.dead,.arr 1 0 w.server.length (ints w.server),.dead,.arr 1 0 w.tags.length (ints w.tags),.free,o8,o9,o10,o11,o12,.arr 1 0 w.rollout.stages.length (ints w.rollout.stages),.free,o15,o16,o17,o18,.free,o20,o21,o22,o23,.arr 4 0 w.ends.length (w.ends.flatMap Ak),.arr 5 0 w.stage.length (w.stage.flatMap A9),.arr 8 0 j ((w.log.take j).flatMap Av)]⟩) ?_ w.log.length _ ⟨0,by simp⟩
 intro k s ⟨j,o8,o9,o10,o11,o12,o15,o16,o17,o18,o20,o21,o22,o23,hj,hs'⟩
 subst hs'
 by_cases hjn:j<w.log.length
 ·have hw:IntKind.i64.wrap ((j:Int)+1)=(j+1:Nat):=by rw[Ab (by omega) (by omega)];simp
  have hsz:=size_at (f:=Ce) hjn
  have h3:(j+1)*96≤1099511627776:=by omega
  have hst:=Zd (f:=Av) hjn
  simp -implicitDefEqProofs [hjn]
  refine Aa (hD w.log[j].dialed (by first | omega | (simp only[Ce]at hsz;omega))) ?_
  simp -implicitDefEqProofs [hjn,h3]
  exact⟨k-1,by omega,j+1,by omega,by simp[hw],rfl,by rw[←hst];rfl⟩
 obtain rfl:j=w.log.length:=by omega
 simp -implicitDefEqProofs
end Go.Eng.T
namespace Go.Eng.T
set_option maxRecDepth 20000
abbrev Po (a b c:Int):Prop:=b≤a∧a≤c
def Lr (xs:List Int) (j:Nat):Bool:=(List.range j).all fun i=>decide (Po (xs.getD i 0) 1 100)&&(decide (i=0)||decide (xs.getD (i-1) 0<xs.getD i 0))
theorem YE (xs:List Int) (j:Nat):Lr xs (j+1)=(Lr xs j&&(decide (Po (xs.getD j 0) 1 100)&&(decide (j=0)||decide (xs.getD (j-1) 0<xs.getD j 0)))):=by
 unfold Lr
 rw[List.range_succ,List.all_append]
 simp
theorem Ac9 {xs:List Int} {j:Nat} (h:j<xs.length) (hn:Lr xs (j+1)=false):Lr xs xs.length=false:=by
 have:∀n,Lr xs (j+1+n)=false:=by
  intro n
  induction n with
  | zero=>exact hn
  | succ n ih=>rw[show j+1+(n+1)=(j+1+n)+1 by omega,YE,ih];rfl
 have:=this (xs.length-(j+1))
 rwa [show j+1+(xs.length-(j+1))=xs.length by omega]at this
def A8 (r:BL):Bool:=
 Lr r.stages r.stages.length&&(decide (Po r.version 1 9)&&decide (Po r.stages.length 1 5)&&decide (r.stages.getD (r.stages.length-1) 0=100)&&decide (Po r.pos 0 (r.stages.length-1)))
abbrev EB (R:Rel):Prop:=∀r:BL,r.stages.length≤4194304→R [arg (F7 r)] [] (B (A8 r)) []
theorem getD_at {xs:List Int} {j:Nat} (h:j<xs.length):xs.getD j 0=xs[j]:=by simp[h]
theorem Ap5 (D:Dn) (hI:Qo (D BF)):EB (Body D Ql):=by
 intro r hl
 simp -implicitDefEqProofs
 refine Ad (fun k s=>∃j,j+k=r.stages.length∧Lr r.stages j=true∧s=⟨[.undef,.ptr 0 0,.undef,.sc (.int .i64 j),.undef,.undef],[.var ((F7 r).map (AL 1))]⟩) ?_ r.stages.length _ ⟨0,by simp,by simp[Lr],by simp⟩
 intro k s ⟨j,hj,hr,hs⟩
 subst hs
 by_cases hjn:j<r.stages.length
 ·have hw:IntKind.i64.wrap ((j:Int)+1)=(j+1:Nat):=by rw[Ab (by omega) (by omega)];simp
  have hst:=YE r.stages j
  rw[hr,Bool.true_and,getD_at hjn]at hst
  simp -implicitDefEqProofs [hjn]
  refine Aa (hI _ _ _) ?_
  by_cases h1:Po r.stages[j] 1 100
  rotate_left
  ·have e:A8 r=false:=by unfold A8;rw[Ac9 hjn (by rw[hst];simp[h1])];rfl
   simp -implicitDefEqProofs [h1,e]
  by_cases h0:j=0
  ·subst h0
   simp -implicitDefEqProofs [h1]
   exact⟨k-1,by omega,1,by omega,by rw[hst];simp[h1],by simpa using hw⟩
  ·have hp:((j-1:Nat):Int)=(j:Int)-1:=by omega
   have hw2:IntKind.i64.wrap ((j:Int)-1)=((j-1:Nat):Int):=by rw[Ab (by omega) (by omega)];omega
   have h2:(0:Int)<j:=by omega
   have h2':0<j:=by omega
   have h3:j-1<r.stages.length:=by omega
   rw[getD_at h3]at hst
   by_cases h4:r.stages[j-1]<r.stages[j]
   ·have h4':¬r.stages[j]≤r.stages[j-1]:=by omega
    simp -implicitDefEqProofs [h1,h2,h2',hw2,h3,hjn,h4']
    exact⟨k-1,by omega,j+1,by omega,by rw[hst];simp[h1,h0,h4],by simp[hw]⟩
   ·have e:A8 r=false:=by unfold A8;rw[Ac9 hjn (by rw[hst];simp[h1,h0,h4])];rfl
    have h4':r.stages[j]≤r.stages[j-1]:=by omega
    simp -implicitDefEqProofs [h1,h2,h2',hw2,h3,hjn,h4',e]
 ·obtain rfl:j=r.stages.length:=by omega
  simp -implicitDefEqProofs
  refine Aa (hI _ _ _) ?_
  by_cases h1:Po r.version 1 9
  rotate_left
  ·simp -implicitDefEqProofs [h1,A8]
  simp -implicitDefEqProofs [h1]
  refine Aa (hI _ _ _) ?_
  by_cases h2:Po r.stages.length 1 5
  rotate_left
  ·simp -implicitDefEqProofs [h2,A8]
  have hw2:IntKind.i64.wrap ((r.stages.length:Int)-1)=((r.stages.length-1:Nat):Int):=by rw[Ab (by omega) (by omega)];omega
  have h3:r.stages.length-1<r.stages.length:=by omega
  have h5:0<r.stages.length:=by omega
  by_cases h4:r.stages[r.stages.length-1]=100
  rotate_left
  ·simp -implicitDefEqProofs [h2,hw2,h3,h4,h5,A8]
  simp -implicitDefEqProofs [h2,hw2,h3,h4,h5]
  refine Aa (hI _ _ _) ?_
  have hc:((r.stages.length-1:Nat):Int)=(r.stages.length:Int)-1:=by omega
  have e:A8 r=decide (Po r.pos 0 ((r.stages.length-1:Nat):Int)):=by unfold A8;rw[hr,getD_at h3,h4,hc];simp[h1,h2]
  simp -implicitDefEqProofs [e]
theorem AqF (D:Dn) (hI:Qo (D BB)):EB (Body D Qq):=by
 intro r hl
 simp -implicitDefEqProofs
 refine Ad (fun k s=>∃j v3 v4,j+k=r.stages.length∧Lr r.stages j=true∧s=⟨[.undef,.ptr 0 0,.undef,v3,v4,.sl 1 1 r.stages.length (ints r.stages),.sc (.int .i64 r.stages.length),.sc (.int .i64 j),.undef,.undef],[.var ((F7 r).map (AL 1))]⟩) ?_ r.stages.length _ ⟨0,.undef,.undef,by simp,by simp[Lr],by simp⟩
 intro k s ⟨j,v3,v4,hj,hr,hs⟩
 subst hs
 by_cases hjn:j<r.stages.length
 ·have hw:IntKind.i64.wrap ((j:Int)+1)=(j+1:Nat):=by rw[Ab (by omega) (by omega)];simp
  have hst:=YE r.stages j
  rw[hr,Bool.true_and,getD_at hjn]at hst
  simp -implicitDefEqProofs [hjn]
  refine Aa (hI _ _ _) ?_
  by_cases h1:Po r.stages[j] 1 100
  rotate_left
  ·have e:A8 r=false:=by unfold A8;rw[Ac9 hjn (by rw[hst];simp[h1])];rfl
   simp -implicitDefEqProofs [h1,e]
  by_cases h0:j=0
  ·subst h0
   simp -implicitDefEqProofs [h1]
   exact⟨k-1,by omega,1,by omega,by rw[hst];simp[h1],by simpa using hw⟩
  ·have hp:((j-1:Nat):Int)=(j:Int)-1:=by omega
   have hw2:IntKind.i64.wrap ((j:Int)-1)=((j-1:Nat):Int):=by rw[Ab (by omega) (by omega)];omega
   have h2:(0:Int)<j:=by omega
   have h2':0<j:=by omega
   have h3:j-1<r.stages.length:=by omega
   rw[getD_at h3]at hst
   by_cases h4:r.stages[j-1]<r.stages[j]
   ·have h4':¬r.stages[j]≤r.stages[j-1]:=by omega
    simp -implicitDefEqProofs [h1,h2,h2',hw2,h3,hjn,h4']
    exact⟨k-1,by omega,j+1,by omega,by rw[hst];simp[h1,h0,h4],by simp[hw]⟩
   ·have e:A8 r=false:=by unfold A8;rw[Ac9 hjn (by rw[hst];simp[h1,h0,h4])];rfl
    have h4':r.stages[j]≤r.stages[j-1]:=by omega
    simp -implicitDefEqProofs [h1,h2,h2',hw2,h3,hjn,h4',e]
 ·obtain rfl:j=r.stages.length:=by omega
  simp -implicitDefEqProofs
  refine Aa (hI _ _ _) ?_
  by_cases h1:Po r.version 1 9
  rotate_left
  ·simp -implicitDefEqProofs [h1,A8]
  simp -implicitDefEqProofs [h1]
  refine Aa (hI _ _ _) ?_
  by_cases h2:Po r.stages.length 1 5
  rotate_left
  ·simp -implicitDefEqProofs [h2,A8]
  have hw2:IntKind.i64.wrap ((r.stages.length:Int)-1)=((r.stages.length-1:Nat):Int):=by rw[Ab (by omega) (by omega)];omega
  have h3:r.stages.length-1<r.stages.length:=by omega
  have h5:0<r.stages.length:=by omega
  by_cases h4:r.stages[r.stages.length-1]=100
  rotate_left
  ·simp -implicitDefEqProofs [h2,hw2,h3,h4,h5,A8]
  simp -implicitDefEqProofs [h2,hw2,h3,h4,h5]
  refine Aa (hI _ _ _) ?_
  have hc:((r.stages.length-1:Nat):Int)=(r.stages.length:Int)-1:=by omega
  have e:A8 r=decide (Po r.pos 0 ((r.stages.length-1:Nat):Int)):=by unfold A8;rw[hr,getD_at h3,h4,hc];simp[h1,h2]
  simp -implicitDefEqProofs [e]
def Lh (a b:Int):Int:=if Po a 0 1000000000000∧Po b 1 1000000000000 then(a+b-1).tdiv b else 0
abbrev PS (R:Rel):Prop:=∀a b:Int,R [I a,I b] [] (I (Lh a b)) []
theorem AuV {a b:Int} (h1:0≤a) (h2:a≤4000000000000) (h3:1≤b):IntKind.i64.wrap (a.tdiv b)=a.tdiv b:=by
 have a1:0≤a.tdiv b:=Int.tdiv_nonneg h1 (by omega)
 have a2:a.tdiv b≤a:=Int.tdiv_le_self _ h1
 exact Ab (by omega) (by omega)
theorem Awo (D:Dn) (hI:Qo (D BF)):PS (Body D Ur):=by
 intro a b
 simp -implicitDefEqProofs
 refine Aa (hI _ _ _) ?_
 by_cases h1:Po a 0 1000000000000
 rotate_left
 ·simp -implicitDefEqProofs [h1,Lh]
 simp -implicitDefEqProofs [h1]
 refine Aa (hI _ _ _) ?_
 by_cases h2:Po b 1 1000000000000
 rotate_left
 ·simp -implicitDefEqProofs [h2,Lh]
 have w1:IntKind.i64.wrap (a+b)=a+b:=Ab (by omega) (by omega)
 have w2:IntKind.i64.wrap (a+b-1)=a+b-1:=Ab (by omega) (by omega)
 have w3:=AuV (a:=a+b-1) (b:=b) (by omega) (by omega) (by omega)
 have h0:¬b=0:=by omega
 have e:Lh a b=(a+b-1).tdiv b:=by unfold Lh;rw[if_pos ⟨h1,h2⟩]
 simp -implicitDefEqProofs [h2,w1,w2,w3,h0,e]
theorem Axi (D:Dn) (hI:Qo (D BB)):PS (Body D U6):=by
 intro a b
 simp -implicitDefEqProofs
 refine Aa (hI _ _ _) ?_
 by_cases h1:Po a 0 1000000000000
 rotate_left
 ·simp -implicitDefEqProofs [h1,Lh]
 simp -implicitDefEqProofs [h1]
 refine Aa (hI _ _ _) ?_
 by_cases h2:Po b 1 1000000000000
 rotate_left
 ·simp -implicitDefEqProofs [h2,Lh]
 have w1:IntKind.i64.wrap (a+b)=a+b:=Ab (by omega) (by omega)
 have w2:IntKind.i64.wrap (a+b-1)=a+b-1:=Ab (by omega) (by omega)
 have w3:=AuV (a:=a+b-1) (b:=b) (by omega) (by omega) (by omega)
 have h0:¬b=0:=by omega
 have e:Lh a b=(a+b-1).tdiv b:=by unfold Lh;rw[if_pos ⟨h1,h2⟩]
 simp -implicitDefEqProofs [h2,w1,w2,w3,h0,e]
end Go.Eng.T
namespace Go.Eng.T
set_option maxRecDepth 20000
theorem ADM {xs:List Int} {n:Nat} (h:Lr xs n=true) {i:Nat} (hi:i<n):Po (xs.getD i 0) 1 100:=by
 unfold Lr at h
 have:=List.all_eq_true.1 h i (List.mem_range.2 hi)
 simp at this
 exact⟨this.1.1,this.1.2⟩
theorem Acj {r:BL} (h:A8 r=true):0≤r.pos∧r.pos<r.stages.length∧r.stages.length≤5∧Po (r.stages.getD r.pos.toNat 0) 1 100:=by
 unfold A8 at h
 simp only[Bool.and_eq_true,decide_eq_true_eq]at h
 obtain⟨h1,⟨⟨h2,h3⟩,h4⟩,h5⟩:=h
 refine⟨h5.1,by omega,by omega,ADM h1 (by omega)⟩
def countIn (r:BL) (n:Int):Int:=if A8 r=true∧r.off=false∧Po n 0 10000 then Lh (n*r.stages.getD r.pos.toNat 0) 100 else 0
abbrev Qh (R:Rel):Prop:=∀(r:BL) (n:Int),r.stages.length≤4194304→R [arg (F7 r),I n] [] (I (countIn r n)) []
theorem Ayl {n x:Int} (h1:Po n 0 10000) (h2:Po x 1 100):IntKind.i64.wrap (n*x)=n*x:=by
 have a1:0≤n*x:=Int.mul_nonneg h1.1 (by omega)
 have a2:n*x≤10000*100:=Int.mul_le_mul h1.2 h2.2 (by omega) (by omega)
 exact Ab (by omega) (by omega)
theorem AvR (D:Dn) (hR:EB (D Hu)) (hI:Qo (D BF)) (hC:PS (D Aox)):Qh (Body D Uy):=by
 intro r n hl
 simp -implicitDefEqProofs
 refine Aa (hR r hl) ?_
 by_cases h1:A8 r=true
 rotate_left
 ·simp -implicitDefEqProofs [h1,countIn]
 by_cases h2:r.off=true
 ·simp -implicitDefEqProofs [h1,h2,countIn]
 simp -implicitDefEqProofs [h1,h2]
 refine Aa (hI _ _ _) ?_
 by_cases h3:Po n 0 10000
 rotate_left
 ·simp -implicitDefEqProofs [h3,countIn]
 obtain⟨p1,p2,p3,p4⟩:=Acj h1
 obtain⟨q,hq⟩:∃q:Nat,r.pos=q:=⟨r.pos.toNat,by omega⟩
 have hq2:q<r.stages.length:=by omega
 have e:countIn r n=Lh (n*r.stages[q]) 100:=by unfold countIn;rw[if_pos ⟨h1,by simpa using h2,h3⟩,hq];simp[hq2]
 have p4':Po r.stages[q] 1 100:=by rw[hq]at p4;simpa[hq2]using p4
 have hw:=Ayl h3 p4'
 simp -implicitDefEqProofs [h3,hq,hq2,hw]
 refine Aa (hC _ _) ?_
 simp -implicitDefEqProofs [e]
theorem Axf (D:Dn) (hR:EB (D QX)) (hI:Qo (D BB)) (hC:PS (D AnK)):Qh (Body D U7):=by
 intro r n hl
 simp -implicitDefEqProofs
 refine Aa (hR r hl) ?_
 by_cases h1:A8 r=true
 rotate_left
 ·simp -implicitDefEqProofs [h1,countIn]
 by_cases h2:r.off=true
 ·simp -implicitDefEqProofs [h1,h2,countIn]
 simp -implicitDefEqProofs [h1,h2]
 refine Aa (hI _ _ _) ?_
 by_cases h3:Po n 0 10000
 rotate_left
 ·simp -implicitDefEqProofs [h3,countIn]
 obtain⟨p1,p2,p3,p4⟩:=Acj h1
 obtain⟨q,hq⟩:∃q:Nat,r.pos=q:=⟨r.pos.toNat,by omega⟩
 have hq2:q<r.stages.length:=by omega
 have e:countIn r n=Lh (n*r.stages[q]) 100:=by unfold countIn;rw[if_pos ⟨h1,by simpa using h2,h3⟩,hq];simp[hq2]
 have p4':Po r.stages[q] 1 100:=by rw[hq]at p4;simpa[hq2]using p4
 have hw:=Ayl h3 p4'
 simp -implicitDefEqProofs [h3,hq,hq2,hw]
 refine Aa (hC _ _) ?_
 simp -implicitDefEqProofs [e]
def isIn (r:BL) (i n:Int):Bool:=decide (0≤i)&&decide (i<n)&&decide (i<countIn r n)
abbrev Aui (R:Rel):Prop:=∀(r:BL) (i n:Int),r.stages.length≤4194304→R [arg (F7 r),I i,I n] [] (B (isIn r i n)) []
theorem AFs (D:Dn) (hC:Qh (D AmV)):Aui (Body D AbK):=by
 intro r i n hl
 by_cases h1:0≤i
 ·by_cases h2:i<n
  ·simp -implicitDefEqProofs [h1,h2]
   refine Aa (hC r n hl) ?_
   simp -implicitDefEqProofs [isIn,h1,h2]
  ·simp -implicitDefEqProofs [h1,h2,isIn]
 ·simp -implicitDefEqProofs [h1,isIn]
abbrev Ajs (R:Rel):Prop:=∀(w:World) (i:Int),w.ends.length≤4194304→R [arg (Bn w),I i] [] (B (decide (Po i 0 ((w.ends.length:Int)-1)))) []
theorem ACq (D:Dn) (hI:Qo (D BB)):Ajs (Body D V8):=by
 intro w i hl
 have hw:IntKind.i64.wrap ((w.ends.length:Int)-1)=(w.ends.length:Int)-1:=Ab (by omega) (by omega)
 simp -implicitDefEqProofs [hw]
 refine Aa (hI _ _ _) ?_
 simp -implicitDefEqProofs
def WI (w:World) (i:Int):Bool:=decide (Po i 0 ((w.ends.length:Int)-1))&&isIn w.rollout i w.ends.length&&(match w.ends[i.toNat]? with | some e=>decide (w.rollout.version∈e.versions) | none=>false)
theorem Atc {w:World} (h:Af w≤4194304) {j:Nat} (hj:j<w.ends.length):w.ends[j].versions.length≤maxLen:=by
 have:=size_at (f:=Ar) hj
 have e:Ar w.ends[j]=w.ends[j].versions.length+w.ends[j].tags.length+Cu JS w.ends[j].path:=rfl
 unfold Af at h
 unfold maxLen;omega
theorem Og {w:World} (h:Af w≤4194304):w.rollout.stages.length≤4194304:=by unfold Af BX at h;omega
abbrev Aeq (R:Rel):Prop:=∀(w:World) (i:Int),Af w≤4194304→R [arg (Bn w),I i] [] (B (WI w i)) []
theorem AvJ (D:Dn) (hI:Qo (D BF)) (hN:Aui (D Al1)) (hH:PX (D GA)):Aeq (Body D UB):=by
 intro w i hsz
 have hl:=ER hsz
 have hw:IntKind.i64.wrap ((w.ends.length:Int)-1)=(w.ends.length:Int)-1:=Ab (by omega) (by omega)
 simp -implicitDefEqProofs [hw]
 refine Aa (hI _ _ _) ?_
 by_cases h1:Po i 0 ((w.ends.length:Int)-1)
 rotate_left
 ·simp -implicitDefEqProofs [h1,WI]
 simp -implicitDefEqProofs [h1]
 refine Aa (hN w.rollout _ _ (Og hsz)) ?_
 by_cases h2:isIn w.rollout i w.ends.length=true
 rotate_left
 ·simp -implicitDefEqProofs [h2,WI]
 obtain⟨j,rfl⟩:∃j:Nat,i=j:=⟨i.toNat,by omega⟩
 have hj:j<w.ends.length:=by omega
 simp -implicitDefEqProofs [h2,hj]
 refine Aa (hH _ _ (Atc hsz hj)) ?_
 simp -implicitDefEqProofs [WI,h1,h2,hj]
end Go.Eng.T
namespace Go.Eng.T
set_option maxRecDepth 20000
def Ja (w:World) (n:Int):World×Bool:=if Po n 1 100∧Po w.now 0 (10000-n)then({w with now:=w.now+n},true)else(w,false)
abbrev Zj (R:Rel):Prop:=∀(w:World) (n:Int),Af w≤4194304→R [arg (Bn w),I n] [] (.tup [.agg (Bn (Ja w n).1),B (Ja w n).2]) []
theorem Atw (D:Dn) (hC:Ga (D Db)) (hI:Qo (D BF)):Zj (Body D SV):=by
 intro w n h
 simp -implicitDefEqProofs
 refine Aa (hC w h) ?_
 simp -implicitDefEqProofs
 refine Aa (hI _ _ _) ?_
 by_cases h1:Po n 1 100
 rotate_left
 ·have e:Ja w n=(w,false):=by unfold Ja;rw[if_neg (by omega)]
  simp -implicitDefEqProofs [h1,e]
 have hw:IntKind.i64.wrap (10000-n)=10000-n:=Ab (by omega) (by omega)
 simp -implicitDefEqProofs [h1,hw]
 refine Aa (hI _ _ _) ?_
 by_cases h2:Po w.now 0 (10000-n)
 rotate_left
 ·have e:Ja w n=(w,false):=by unfold Ja;rw[if_neg (by omega)]
  simp -implicitDefEqProofs [h2,e]
 have hw2:IntKind.i64.wrap (w.now+n)=w.now+n:=Ab (by omega) (by omega)
 have e:Ja w n=({w with now:=w.now+n},true):=by unfold Ja;rw[if_pos (by omega)]
 simp -implicitDefEqProofs [h2,e,hw2]
def Aj3 (w:World) (i:Nat):World:=match w.ends[i]? with
 | some x=> {w with ends:=w.ends.set i ⟨x.versions,x.tags,[],x.cls⟩}
 | none=>w
def Ht (w:World) (i:Int):World×Bool:=
 if 0≤i then(match w.ends[i.toNat]? with
  | some x=>if x.path=[]then(w,false)else(Aj3 w i.toNat,true)
  | none=>(w,false))else(w,false)
abbrev WL (R:Rel):Prop:=∀(w:World) (i:Int),Af w≤4194304→R [arg (Bn w),I i] [] (.tup [.agg (Bn (Ht w i).1),B (Ht w i).2]) []
theorem An2 {w:World} {i:Int} (h:¬Po i 0 ((w.ends.length:Int)-1)):Ht w i=(w,false):=by
 unfold Ht
 by_cases h0:0≤i
 ·rw[if_pos h0,List.getElem?_eq_none (by omega)]
 ·rw[if_neg h0]
theorem Aq5 (D:Dn) (hC:Ga (D Db)) (hI:Qo (D BF)):WL (Body D Qz):=by
 intro w i h
 have hl:=ER h
 have hw:IntKind.i64.wrap ((w.ends.length:Int)-1)=(w.ends.length:Int)-1:=Ab (by omega) (by omega)
 simp -implicitDefEqProofs
 refine Aa (hC w h) ?_
 simp -implicitDefEqProofs [hw]
 refine Aa (hI _ _ _) ?_
 by_cases h1:Po i 0 ((w.ends.length:Int)-1)
 rotate_left
 ·simp -implicitDefEqProofs [h1,An2 h1]
 obtain⟨j,rfl⟩:∃j:Nat,i=j:=⟨i.toNat,by omega⟩
 have hj:j<w.ends.length:=by omega
 by_cases h2:w.ends[j].path=[]
 ·have e:Ht w j=(w,false):=by unfold Ht;rw[if_pos (by omega)];simp[hj,h2]
  simp -implicitDefEqProofs [h1,h2,hj,e]
 ·have e:Ht w j=({w with ends:=w.ends.set j ⟨w.ends[j].versions,w.ends[j].tags,[],w.ends[j].cls⟩},true):=by unfold Ht;rw[if_pos (by omega)];simp[hj,h2,Aj3]
  have hf:j*4+2<w.ends.length*4:=by omega
  have hs:(w.ends.flatMap Ak).set (j*4+2) (.sl 0 4 0 [])=(w.ends.set j ⟨w.ends[j].versions,w.ends[j].tags,[],w.ends[j].cls⟩).flatMap Ak:=AdW hj [] rfl
  simp -implicitDefEqProofs [h1,h2,hj,e,hf,hs]
theorem Ayv {α:Type} {f:α→Nat}:∀ {xs:List α} {j:Nat} (h:j<xs.length) (y:α),((xs.set j y).map f).sum+f xs[j]=(xs.map f).sum+f y
 | [],j,h,_=>by simp at h
 | x::r,0,h,y=>by simp;omega
 | x::r,j+1,h,y=>by
  have:=Ayv (f:=f) (xs:=r) (j:=j) (by simpa using h) y
  simp at *
  omega
theorem size_set {α:Type} {f:α→Nat} {xs:List α} {j:Nat} (h:j<xs.length) (y:α):Cu f (xs.set j y)+f xs[j]=Cu f xs+f y:=by
 have:=Ayv (f:=f) h y
 unfold Cu;simp only[List.length_set];omega
end Go.Eng.T
namespace Go.Eng.T
set_option maxRecDepth 20000
theorem R3 {xs:List Int} {lo hi:Int} {j:Nat} (h:j<xs.length):allIn (xs.take (j+1)) lo hi=(allIn (xs.take j) lo hi&&decide (Pv xs[j] lo hi)):=by
 have e:xs.take (j+1)=xs.take j++ [xs[j]]:=by simp
 unfold allIn
 rw[e,List.all_append];simp
theorem AsW {xs:List Int} {lo hi:Int} {j:Nat} (h:j<xs.length) (hn:¬Pv xs[j] lo hi):allIn xs lo hi=false:=by
 unfold allIn
 rw[List.all_eq_false]
 exact⟨xs[j],List.getElem_mem h,by simp[hn]⟩
theorem Af1 {xs:List Int} {lo hi:Int} {j:Nat} (h:xs.length≤j) (ha:allIn (xs.take j) lo hi=true):allIn xs lo hi=true:=by rwa [List.take_of_length_le h]at ha
abbrev Zo (R:Rel):Prop:=∀xs:List Int,xs.length≤maxLen→R [.sl 1 1 xs.length (ints xs)] [] (B (allIn xs 0 255)) []
theorem ABF (D:Dn) (hI:Qo (D BF)):Zo (Body D Wt):=by
 intro xs hl
 unfold maxLen at hl
 simp -implicitDefEqProofs
 refine Ad (fun k s=>∃j,j+k=xs.length∧allIn (xs.take j) 0 255=true∧s=⟨[.sl 1 1 xs.length (ints xs),.undef,.sc (.int .i64 j),.undef,.undef],[]⟩) ?_ xs.length _ ⟨0,by simp,by simp[allIn],by simp⟩
 intro k s ⟨j,hj,hp,hs⟩
 subst hs
 by_cases hjn:j<xs.length
 ·have hw:IntKind.i64.wrap ((j:Int)+1)=(j+1:Nat):=by rw[Ab (by omega) (by omega)];simp
  simp -implicitDefEqProofs [hjn]
  refine Aa (hI _ _ _) ?_
  by_cases h1:Pv xs[j] 0 255
  ·simp -implicitDefEqProofs [h1]
   exact⟨k-1,by omega,j+1,by omega,by rw[R3 hjn,hp];simp[h1],by simp[hw]⟩
  ·simp -implicitDefEqProofs [h1,AsW hjn h1]
 ·simp -implicitDefEqProofs [hjn,Af1 (by omega) hp]
def Hg (b:Gu):Bool:=decide (Pv b.limit 0 9)&&decide (b.drops.length≤6)&&decide (b.strips.length≤6)&&allIn b.drops 0 255&&allIn b.strips 0 255
abbrev R6 (R:Rel):Prop:=∀b:Gu,JI b→R [arg (Dy b)] [] (B (Hg b)) []
theorem ADR (D:Dn) (hI:Qo (D BF)) (hB:Zo (D WU)):R6 (Body D Y0):=by
 intro b hl
 simp -implicitDefEqProofs
 refine Aa (hI _ _ _) ?_
 by_cases h1:Pv b.limit 0 9
 rotate_left
 ·simp -implicitDefEqProofs [h1,Hg]
 by_cases h2:b.drops.length≤6
 rotate_left
 ·have h2':¬(b.drops.length:Int)≤6:=by omega
  simp -implicitDefEqProofs [h1,h2',h2,Hg]
 have h2':(b.drops.length:Int)≤6:=by omega
 by_cases h3:b.strips.length≤6
 rotate_left
 ·have h3':¬(b.strips.length:Int)≤6:=by omega
  simp -implicitDefEqProofs [h1,h2',h3',h3,Hg]
 have h3':(b.strips.length:Int)≤6:=by omega
 simp -implicitDefEqProofs [h1,h2',h3']
 refine Aa (hB _ hl.1) ?_
 by_cases h4:allIn b.drops 0 255=true
 rotate_left
 ·simp -implicitDefEqProofs [h4,Hg]
 simp -implicitDefEqProofs [h4]
 refine Aa (hB _ hl.2) ?_
 simp -implicitDefEqProofs [Hg,h1,h2,h3,h4]
theorem ABX (D:Dn) (hI:Qo (D BB)) (hB:JN (D Ky)):R6 (Body D XQ):=by
 intro b hl
 simp -implicitDefEqProofs
 refine Aa (hI _ _ _) ?_
 by_cases h1:Pv b.limit 0 9
 rotate_left
 ·simp -implicitDefEqProofs [h1,Hg]
 by_cases h2:b.drops.length≤6
 rotate_left
 ·have h2':¬(b.drops.length:Int)≤6:=by omega
  simp -implicitDefEqProofs [h1,h2',h2,Hg]
 have h2':(b.drops.length:Int)≤6:=by omega
 by_cases h3:b.strips.length≤6
 rotate_left
 ·have h3':¬(b.strips.length:Int)≤6:=by omega
  simp -implicitDefEqProofs [h1,h2',h3',h3,Hg]
 have h3':(b.strips.length:Int)≤6:=by omega
 simp -implicitDefEqProofs [h1,h2',h3']
 refine Aa (hB _ _ _ hl.1) ?_
 by_cases h4:allIn b.drops 0 255=true
 rotate_left
 ·simp -implicitDefEqProofs [h4,Hg]
 simp -implicitDefEqProofs [h4]
 refine Aa (hB _ _ _ hl.2) ?_
 simp -implicitDefEqProofs [Hg,h1,h2,h3,h4]
def JC (w:World) (i:Int) (b:Gu):World×Bool:=
 if 0≤i then(match w.ends[i.toNat]? with
  | some x=>if Hg b=true∧x.path.length<4 then({w with ends:=w.ends.set i.toNat ⟨x.versions,x.tags,x.path++ [b],x.cls⟩},true)else(w,false)
  | none=>(w,false))else(w,false)
abbrev Adc (R:Rel):Prop:=∀(w:World) (i:Int) (b:Gu),Af w≤4194304→JS b≤4194304→R [arg (Bn w),I i,arg (Dy b)] [] (.tup [.agg (Bn (JC w i b).1),B (JC w i b).2]) []
theorem At5 {w:World} {i:Int} {b:Gu} (h:¬Po i 0 ((w.ends.length:Int)-1)):JC w i b=(w,false):=by
 unfold JC
 by_cases h0:0≤i
 ·rw[if_pos h0,List.getElem?_eq_none (by omega)]
 ·rw[if_neg h0]
theorem ABS {b:Gu} (h:JS b≤4194304):JI b:=by unfold JS at h;unfold JI Uo maxLen;omega
theorem AvI (D:Dn) (hC:Ga (D Db)) (hI:Qo (D BF)) (hB:R6 (D Yr)):Adc (Body D UJ):=by
 intro w i b h hb
 have hl:=ER h
 have hw:IntKind.i64.wrap ((w.ends.length:Int)-1)=(w.ends.length:Int)-1:=Ab (by omega) (by omega)
 simp -implicitDefEqProofs
 refine Aa (hC w h) ?_
 simp -implicitDefEqProofs [hw]
 refine Aa (hI _ _ _) ?_
 by_cases h1:Po i 0 ((w.ends.length:Int)-1)
 rotate_left
 ·simp -implicitDefEqProofs [h1,At5 h1]
 obtain⟨j,rfl⟩:∃j:Nat,i=j:=⟨i.toNat,by omega⟩
 have hj:j<w.ends.length:=by omega
 simp -implicitDefEqProofs [h1]
 refine Aa (hB b (ABS hb)) ?_
 by_cases h2:Hg b=true
 rotate_left
 ·have e:JC w j b=(w,false):=by unfold JC;rw[if_pos (by omega)];simp[hj,h2]
  simp -implicitDefEqProofs [h2,e]
 by_cases h3:w.ends[j].path.length<4
 rotate_left
 ·have e:JC w j b=(w,false):=by unfold JC;rw[if_pos (by omega)];simp[hj,h3]
  have h3':(4:Int)≤w.ends[j].path.length:=by omega
  simp -implicitDefEqProofs [h2,hj,h3',e]
 have e:JC w j b=({w with ends:=w.ends.set j ⟨w.ends[j].versions,w.ends[j].tags,w.ends[j].path++ [b],w.ends[j].cls⟩},true):=by unfold JC;rw[if_pos (by omega)];simp[hj,h2,h3]
 have h3':¬(4:Int)≤w.ends[j].path.length:=by omega
 have hz:JS b=b.drops.length+b.strips.length:=rfl
 have b1:b.drops.length*8≤1099511627776:=by omega
 have b2:b.strips.length*8≤1099511627776:=by omega
 have b3:(w.ends[j].path.length+1)*64≤1099511627776:=by omega
 have hf:j*4+2<w.ends.length*4:=by omega
 simp -implicitDefEqProofs [h2,hj,h3',e,hf,b1,b2,b3]
 have hs:=AdW hj (w.ends[j].path++ [b]) (n:=w.ends[j].path.length+1) (by simp)
 simpa[List.flatMap_append]using hs
end Go.Eng.T
namespace Go.Eng.T
set_option maxRecDepth 20000
abbrev I7 (D:Dn) (R:Rel):Prop:=∀(xs:List Aq) (g:Nat) (caps:List V) (p:Aq→Bool),xs.length≤maxLen→KD caps→(∀(j:Nat) (h:j<xs.length),D g (arg (Ak xs[j])::caps) [] (B (p xs[j])) [])→R [.sl 1 4 xs.length (xs.flatMap Ak),.fn g caps] [] (I (GR p xs 0)) []
theorem Aah (D:Dn):I7 D (Body D Cg):=by
 intro xs g caps p hl hc hp
 unfold maxLen at hl
 simp -implicitDefEqProofs
 refine Ad (fun k s=>∃j,j+k=xs.length∧GR p xs 0=GR p (xs.drop j) j∧s=⟨[.sl 1 4 xs.length (xs.flatMap Ak),.fn g caps,.undef,.undef,.sc (.int .i64 xs.length),.sc (.int .i64 j),.undef,.undef],[]⟩) ?_ xs.length _ ⟨0,by simp,by simp,by simp⟩
 intro k s ⟨j,hj,hi,hs⟩
 subst hs
 by_cases hjn:j<xs.length
 ·have hw:IntKind.i64.wrap ((j:Int)+1)=(j+1:Nat):=by rw[Ab (by omega) (by omega)];simp
  rw[OM hjn]at hi
  simp -implicitDefEqProofs [hjn,hc.1,hc.2.1]
  refine Aa (hp j hjn) ?_
  by_cases he:p xs[j]=true
  ·rw[if_pos he]at hi
   simp -implicitDefEqProofs [he,hi]
  ·rw[if_neg he]at hi
   simp -implicitDefEqProofs [he]
   exact⟨k-1,by omega,j+1,by omega,by simpa using hi,by simp[hw]⟩
 ·rw[Ta (by omega)]at hi
  simp -implicitDefEqProofs [hjn,hi]
abbrev G7 (D:Dn) (R:Rel):Prop:=∀(xs:List Aq) (g:Nat) (caps:List V) (p:Aq→Bool),xs.length≤maxLen→KD caps→(∀(j:Nat) (h:j<xs.length),D g (arg (Ak xs[j])::caps) [] (B (p xs[j])) [])→R [.sl 1 4 xs.length (xs.flatMap Ak),.fn g caps] [] (B (xs.any p)) []
theorem Wd (D:Dn) (hI:I7 D (D Hq)):G7 D (Body D BS):=by
 intro xs g caps p hl hc hp
 simp -implicitDefEqProofs [hc.2.2]
 refine Aa (hI xs g caps p hl hc hp) ?_
 have e:decide (0≤GR p xs 0)=xs.any p:=by rw[Bool.eq_iff_iff];simp only[decide_eq_true_eq];rw[RH (by omega)]
 simp -implicitDefEqProofs [e]
abbrev Kr (D:Dn) (R:Rel):Prop:=∀(xs:List CO) (g:Nat) (caps:List V) (p:CO→Bool),xs.length≤maxLen→KD caps→(∀(j:Nat) (h:j<xs.length),D g (arg (Av xs[j])::caps) [] (B (p xs[j])) [])→R [.sl 1 8 xs.length (xs.flatMap Av),.fn g caps] [] (I (GR p xs 0)) []
theorem AcG (D:Dn):Kr D (Body D Cy):=by
 intro xs g caps p hl hc hp
 unfold maxLen at hl
 simp -implicitDefEqProofs
 refine Ad (fun k s=>∃j,j+k=xs.length∧GR p xs 0=GR p (xs.drop j) j∧s=⟨[.sl 1 8 xs.length (xs.flatMap Av),.fn g caps,.undef,.undef,.sc (.int .i64 xs.length),.sc (.int .i64 j),.undef,.undef],[]⟩) ?_ xs.length _ ⟨0,by simp,by simp,by simp⟩
 intro k s ⟨j,hj,hi,hs⟩
 subst hs
 by_cases hjn:j<xs.length
 ·have hw:IntKind.i64.wrap ((j:Int)+1)=(j+1:Nat):=by rw[Ab (by omega) (by omega)];simp
  rw[OM hjn]at hi
  simp -implicitDefEqProofs [hjn,hc.1,hc.2.1]
  refine Aa (hp j hjn) ?_
  by_cases he:p xs[j]=true
  ·rw[if_pos he]at hi
   simp -implicitDefEqProofs [he,hi]
  ·rw[if_neg he]at hi
   simp -implicitDefEqProofs [he]
   exact⟨k-1,by omega,j+1,by omega,by simpa using hi,by simp[hw]⟩
 ·rw[Ta (by omega)]at hi
  simp -implicitDefEqProofs [hjn,hi]
abbrev Iq (D:Dn) (R:Rel):Prop:=∀(xs:List CO) (g:Nat) (caps:List V) (p:CO→Bool),xs.length≤maxLen→KD caps→(∀(j:Nat) (h:j<xs.length),D g (arg (Av xs[j])::caps) [] (B (p xs[j])) [])→R [.sl 1 8 xs.length (xs.flatMap Av),.fn g caps] [] (B (xs.any p)) []
theorem YA (D:Dn) (hI:Kr D (D IL)):Iq D (Body D Co):=by
 intro xs g caps p hl hc hp
 simp -implicitDefEqProofs [hc.2.2]
 refine Aa (hI xs g caps p hl hc hp) ?_
 have e:decide (0≤GR p xs 0)=xs.any p:=by rw[Bool.eq_iff_iff];simp only[decide_eq_true_eq];rw[RH (by omega)]
 simp -implicitDefEqProofs [e]
abbrev Pn (D:Dn) (R:Rel):Prop:=∀(xs:List Gu) (g:Nat) (caps:List V) (p:Gu→Bool),xs.length≤maxLen→KD caps→(∀(j:Nat) (h:j<xs.length),D g (arg (Dy xs[j])::caps) [] (B (p xs[j])) [])→R [.sl 1 4 xs.length (xs.flatMap Dy),.fn g caps] [] (I (GR p xs 0)) []
theorem AkC (D:Dn):Pn D (Body D Dx):=by
 intro xs g caps p hl hc hp
 unfold maxLen at hl
 simp -implicitDefEqProofs
 refine Ad (fun k s=>∃j,j+k=xs.length∧GR p xs 0=GR p (xs.drop j) j∧s=⟨[.sl 1 4 xs.length (xs.flatMap Dy),.fn g caps,.undef,.undef,.sc (.int .i64 xs.length),.sc (.int .i64 j),.undef,.undef],[]⟩) ?_ xs.length _ ⟨0,by simp,by simp,by simp⟩
 intro k s ⟨j,hj,hi,hs⟩
 subst hs
 by_cases hjn:j<xs.length
 ·have hw:IntKind.i64.wrap ((j:Int)+1)=(j+1:Nat):=by rw[Ab (by omega) (by omega)];simp
  rw[OM hjn]at hi
  simp -implicitDefEqProofs [hjn,hc.1,hc.2.1]
  refine Aa (hp j hjn) ?_
  by_cases he:p xs[j]=true
  ·rw[if_pos he]at hi
   simp -implicitDefEqProofs [he,hi]
  ·rw[if_neg he]at hi
   simp -implicitDefEqProofs [he]
   exact⟨k-1,by omega,j+1,by omega,by simpa using hi,by simp[hw]⟩
 ·rw[Ta (by omega)]at hi
  simp -implicitDefEqProofs [hjn,hi]
abbrev IK (D:Dn) (R:Rel):Prop:=∀(xs:List Gu) (g:Nat) (caps:List V) (p:Gu→Bool),xs.length≤maxLen→KD caps→(∀(j:Nat) (h:j<xs.length),D g (arg (Dy xs[j])::caps) [] (B (p xs[j])) [])→R [.sl 1 4 xs.length (xs.flatMap Dy),.fn g caps] [] (B (xs.any p)) []
theorem Ad1 (D:Dn) (hI:Pn D (D JV)):IK D (Body D CW):=by
 intro xs g caps p hl hc hp
 simp -implicitDefEqProofs [hc.2.2]
 refine Aa (hI xs g caps p hl hc hp) ?_
 have e:decide (0≤GR p xs 0)=xs.any p:=by rw[Bool.eq_iff_iff];simp only[decide_eq_true_eq];rw[RH (by omega)]
 simp -implicitDefEqProofs [e]
end Go.Eng.T
namespace Go.Eng.T
set_option maxRecDepth 20000
theorem AIP {xs:List CO} {j:Nat} (h:j<xs.length):xs[j].dialed.up.length≤Cu Ce xs:=by
 have:=size_at (f:=Ce) h
 simp only[Ce,DW]at this⊢
 omega
theorem AsJ {w:World} (h:Af w≤4194304) {j:Nat} (hj:j<w.log.length):w.log[j].dialed.up.length≤maxLen:=by
 have:=AIP hj
 unfold Af at h
 unfold maxLen;omega
def MC (w:World) (l:CO):Bool:=l.on&&NK w.rollout.version l.dialed
abbrev AsD (R:Rel):Prop:=∀(w:World) (l:CO),l.dialed.up.length≤maxLen→R [arg (Bn w),arg (Av l)] [] (B (MC w l)) []
theorem ADU (D:Dn) (hB:F4 (D Ag5)):AsD (Body D Wl):=by
 intro w l hl
 by_cases h:l.on=true
 ·simp -implicitDefEqProofs [h]
  refine Aa (hB l.dialed _ hl) ?_
  simp -implicitDefEqProofs [MC,h]
 ·simp -implicitDefEqProofs [h,MC]
abbrev SF (R:Rel):Prop:=∀(w:World),Af w≤4194304→R [arg (Bn w)] [] (B (decide (w.hurt=cntF (MC w) w.log))) []
theorem AqJ (D:Dn) (hB:AsD (D AcV)):SF (Body D QR):=by
 intro w hsz
 have hl:=Zv hsz
 simp -implicitDefEqProofs
 refine Ad (fun k s=>∃j o,j+k=w.log.length∧s=⟨[.undef,.ptr 0 0,.undef,.sc (.int .i64 (cntF (MC w) (w.log.take j))),.undef,.sl 1 8 w.log.length (w.log.flatMap Av),.sc (.int .i64 w.log.length),.sc (.int .i64 j),.undef,.undef],[.var ((Bn w).map (AL 1)),o]⟩) ?_ w.log.length _ ⟨0,.free,by simp,by simp[cntF]⟩
 intro k s ⟨j,o,hj,hs⟩
 subst hs
 by_cases hjn:j<w.log.length
 ·have hw:IntKind.i64.wrap ((j:Int)+1)=(j+1:Nat):=by rw[Ab (by omega) (by omega)];simp
  have hc:=AcN (f:=MC w) hjn
  have hcl:=AjX (f:=MC w) (xs:=w.log) (j:=j) (by omega)
  have hw2:IntKind.i64.wrap ((cntF (MC w) (w.log.take j):Int)+1)=(cntF (MC w) (w.log.take j)+1:Nat):=by rw[Ab (by omega) (by omega)];simp
  simp -implicitDefEqProofs [hjn]
  refine Aa (hB w w.log[j] (AsJ hsz hjn)) ?_
  by_cases he:MC w w.log[j]=true
  ·simp -implicitDefEqProofs [he]
   exact⟨k-1,by omega,j+1,by omega,by rw[hc,hw2];simp[he],by simp[hw]⟩
  ·simp -implicitDefEqProofs [he]
   exact⟨k-1,by omega,j+1,by omega,by rw[hc];simp[he],by simp[hw]⟩
 ·have hx:=Ajj (f:=MC w) (xs:=w.log) (j:=j) (by omega)
  simp -implicitDefEqProofs [hjn,hx,AdV]
end Go.Eng.T
namespace Go.Eng.T
set_option maxRecDepth 20000
def Au (t:Int):Bool:=decide (Pv t 0 255)&&decide (t.tmod 16=10)
abbrev FL (R:Rel):Prop:=∀t:Int,R [I t] [] (B (Au t)) []
theorem AoB (D:Dn) (hI:Qo (D BF)):FL (Body D O7):=by
 intro t
 simp -implicitDefEqProofs
 refine Aa (hI _ _ _) ?_
 by_cases h:Pv t 0 255
 ·simp -implicitDefEqProofs [h,Au,AdV]
 ·simp -implicitDefEqProofs [h,Au]
theorem Aot (D:Dn) (hI:Qo (D BB)):FL (Body D Ov):=by
 intro t
 simp -implicitDefEqProofs
 refine Aa (hI _ _ _) ?_
 by_cases h:Pv t 0 255
 ·simp -implicitDefEqProofs [h,Au,AdV]
 ·simp -implicitDefEqProofs [h,Au]
abbrev Mt (R:Rel):Prop:=∀xs:List Int,xs.length≤maxLen→R [.sl 1 1 xs.length (ints xs)] [] (B (xs.any Au)) []
theorem YK {α:Type} {p:α→Bool} {xs:List α} {j:Nat} (h:j<xs.length) (hp:p xs[j]=true):xs.any p=true:=List.any_eq_true.2 ⟨_,List.getElem_mem h,hp⟩
theorem AkU {α:Type} {p:α→Bool} {xs:List α} {j:Nat} (h:j<xs.length):(xs.take (j+1)).any p=((xs.take j).any p||p xs[j]):=by
 have e:xs.take (j+1)=xs.take j++ [xs[j]]:=by simp
 rw[e,List.any_append];simp
theorem any_none {α:Type} {p:α→Bool} {xs:List α} {j:Nat} (h:xs.length≤j) (ha:(xs.take j).any p=false):xs.any p=false:=by rwa [List.take_of_length_le h]at ha
theorem AnX (D:Dn) (hR:FL (D VQ)) (hC:Lb D (D Io)):Mt (Body D OW):=by
 intro xs hl
 simp -implicitDefEqProofs
 refine Aa (hC xs 279 _ Au hl E5 (fun x=>hR x)) ?_
 generalize xs.any Au=b
 simp -implicitDefEqProofs
def UW (l:CO):Bool:=l.dialed.deal.ok&&(l.dialed.deal.tags.any Au|| !decide (Pv l.dialed.deal.version 1 9))
abbrev Yj (R:Rel):Prop:=∀w:World,Af w≤4194304→R [arg (Bn w)] [] (B (!w.log.any UW)) []
theorem AsE {w:World} (h:Af w≤4194304) {j:Nat} (hj:j<w.log.length):w.log[j].dialed.deal.tags.length≤maxLen:=by
 have:=size_at (f:=Ce) hj
 have e:Ce w.log[j]=w.log[j].dialed.deal.tags.length+w.log[j].dialed.up.length:=rfl
 unfold Af at h
 unfold maxLen;omega
abbrev Y9 (R:Rel):Prop:=∀l:CO,l.dialed.deal.tags.length≤maxLen→R [arg (Av l)] [] (B (UW l)) []
theorem AwZ (D:Dn) (hH:Mt (D NS)) (hI:Qo (D BB)):Y9 (Body D QB):=by
 intro l hl
 by_cases h1:l.dialed.deal.ok=true
 rotate_left
 ·simp -implicitDefEqProofs [h1,UW]
 simp -implicitDefEqProofs [h1]
 refine Aa (hH _ hl) ?_
 unfold UW
 rw[h1]
 generalize l.dialed.deal.tags.any Au=c
 cases c
 rotate_left
 ·simp -implicitDefEqProofs
 simp -implicitDefEqProofs
 refine Aa (hI _ _ _) ?_
 simp -implicitDefEqProofs
theorem Av8 (D:Dn) (h1:Y9 (D Aiu)) (hC:Iq D (D HZ)):Yj (Body D Uv):=by
 intro w hsz
 simp -implicitDefEqProofs
 refine Aa (hC w.log 247 _ UW (by have:=Zv hsz;unfold maxLen;omega) E5 (fun j hj=>h1 _ (AsE hsz hj))) ?_
 generalize w.log.any UW=b
 simp -implicitDefEqProofs
end Go.Eng.T
namespace Go.Eng.T
open Go.Eng.X
def Cq:Nat→Bj
 |0=>R 0 [x 0 (s 0),m (z 1)] [(1,0)] [0,2]
 |1=>Q 1 [M 1 1 0 [],m (l 0)] [(3,1)] [] [] [w 1 6]
 |2=>R 2 [F (s 1) 11,L (l 0),e (l 1),m (i 0)] [(5,1),(6,2),(7,3)] []
 |3=>R 3 [y .lss (s 7) (s 6)] [(8,0)] []
 |4=>Q 4 [A 8 (s 5) (s 7),P 8 (l 0),a 2 zL,W 8 (l 2) (l 1)] [(4,2)] [] [2] []
 |5=>R 5 [P 15 (s 1),P 8 (s 4),C 196 [r (l 0),r (l 1)] []] [(9,2)] []
 |6=>Q 6 [m (s 3),F (s 4) 0,L (l 1),M 3 1 1 [l 2],q 4 1 8 (l 0) (l 3),m (l 4)] [(3,5)] [4] [3,4] [w 4 6]
 |7=>R 7 [y .add (s 7) (i 1),m (l 0)] [(7,1)] []
 |8=>R 8 [m (s 3),C 197 [v (l 0)] []] [] [1,5,6,7]
 |_=>R 9 [m (s 3),C 198 [v (l 0)] [5],m (l 1)] [(2,2)] [3]
def QJ:Bl:=⟨10,7,[0],0,false,[],j (d (Cq 0)) (j (d (Cq 1)) (j (j (d (Cq 2)) (.block 0 (.loop (j (d (Cq 3)) (j (h 8 (.skip) (.exit 0)) (j (.block 1 (j (d (Cq 4)) (j (d (Cq 5)) (h 9 (d (Cq 6)) (.skip))))) (d (Cq 7)))))))) (j (d (Cq 8)) (j (d (Cq 9)) (.ret))))),[.slot 2]⟩
def AcS:List Tmp:=[0,1,2,3,5,8,9,10,11,16]
attribute [simp] Cq QJ
end Go.Eng.T
namespace Go.Eng.T
set_option maxRecDepth 20000
abbrev K5 (D:Dn) (R:Rel):Prop:=∀(xs:List Ext) (g:Nat) (caps:List V) (p:Ext→Bool),xs.length≤maxLen→KD caps→(∀(j:Nat) (h:j<xs.length),D g (arg (Bw xs[j])::caps) [] (B (p xs[j])) [])→R [.sl 1 2 xs.length (xs.flatMap Bw),.fn g caps] [] (I (GR p xs 0)) []
theorem Amu (D:Dn):K5 D (Body D Du):=by
 intro xs g caps p hl hc hp
 unfold maxLen at hl
 simp -implicitDefEqProofs
 refine Ad (fun k s=>∃j,j+k=xs.length∧GR p xs 0=GR p (xs.drop j) j∧s=⟨[.sl 1 2 xs.length (xs.flatMap Bw),.fn g caps,.undef,.undef,.sc (.int .i64 xs.length),.sc (.int .i64 j),.undef,.undef],[]⟩) ?_ xs.length _ ⟨0,by simp,by simp,by simp⟩
 intro k s ⟨j,hj,hi,hs⟩
 subst hs
 by_cases hjn:j<xs.length
 ·have hw:IntKind.i64.wrap ((j:Int)+1)=(j+1:Nat):=by rw[Ab (by omega) (by omega)];simp
  rw[OM hjn]at hi
  simp -implicitDefEqProofs [hjn,hc.1,hc.2.1]
  refine Aa (hp j hjn) ?_
  by_cases he:p xs[j]=true
  ·rw[if_pos he]at hi
   simp -implicitDefEqProofs [he,hi]
  ·rw[if_neg he]at hi
   simp -implicitDefEqProofs [he]
   exact⟨k-1,by omega,j+1,by omega,by simpa using hi,by simp[hw]⟩
 ·rw[Ta (by omega)]at hi
  simp -implicitDefEqProofs [hjn,hi]
abbrev Kt (D:Dn) (R:Rel):Prop:=∀(xs:List Ext) (g:Nat) (caps:List V) (p:Ext→Bool),xs.length≤maxLen→KD caps→(∀(j:Nat) (h:j<xs.length),D g (arg (Bw xs[j])::caps) [] (B (p xs[j])) [])→R [.sl 1 2 xs.length (xs.flatMap Bw),.fn g caps] [] (B (xs.any p)) []
theorem Aex (D:Dn) (hI:K5 D (D FN)):Kt D (Body D CX):=by
 intro xs g caps p hl hc hp
 simp -implicitDefEqProofs [hc.2.2]
 refine Aa (hI xs g caps p hl hc hp) ?_
 have e:decide (0≤GR p xs 0)=xs.any p:=by rw[Bool.eq_iff_iff];simp only[decide_eq_true_eq];rw[RH (by omega)]
 simp -implicitDefEqProofs [e]
end Go.Eng.T
namespace Go.Eng.T
set_option maxRecDepth 20000
def Hl (t:Int) (x:Ext):Bool:=decide (x.tag=t)
def JH (l:List Ext) (t:Int):Int:=GR (Hl t) l 0
abbrev Rb (R:Rel):Prop:=∀(l:List Ext) (t:Int),l.length≤maxLen→R [.sl 1 2 l.length (l.flatMap Bw),I t] [] (I (JH l t)) []
theorem ACe (D:Dn):Rb (Body D XU):=by
 intro l t hl
 unfold maxLen at hl
 have hres:JH l t=GR (Hl t) l 0:=rfl
 rw[hres]
 simp -implicitDefEqProofs
 refine Ad (fun k s=>∃j,j+k=l.length∧GR (Hl t) l 0=GR (Hl t) (l.drop j) j∧s=⟨[.sl 1 2 l.length (l.flatMap Bw),I t,.undef,I j,.undef,.undef],[]⟩) ?_ (l.length) _ ⟨0,by simp,by simp,by simp⟩
 intro k s ⟨j,hj,hi,hs⟩
 subst hs
 by_cases hjn:j<l.length
 ·have hw:IntKind.i64.wrap ((j:Int)+1)=(j+1:Nat):=by rw[Ab (by omega) (by omega)];simp
  rw[OM hjn]at hi
  by_cases he:l[j].tag=t
  ·rw[if_pos (by simp[Hl,he])]at hi
   simp -implicitDefEqProofs [hjn,he,hi]
  ·rw[if_neg (by simp[Hl,he])]at hi
   simp -implicitDefEqProofs [hjn,he]
   exact⟨k-1,by omega,j+1,by omega,by simpa using hi,by simp[hw]⟩
 ·rw[Ta (by omega)]at hi
  simp -implicitDefEqProofs [hjn,hi]
abbrev Ajg (R:Rel):Prop:=∀(x:Ext) (t:Int),R [arg (Bw x),.rptr 1 [I t] 0] [] (B (Hl t x)) []
theorem ACl (D:Dn):Ajg (Body D UL):=by
 intro x t
 simp -implicitDefEqProofs [Hl,AdV]
theorem ACH (D:Dn) (h1:Ajg (D Aom)) (hX:K5 D (D FN)):Rb (Body D Yt):=by
 intro l t hl
 have hres:JH l t=GR (Hl t) l 0:=rfl
 rw[hres]
 simp -implicitDefEqProofs
 refine Aa (hX l 351 _ (Hl t) hl (Agp E5) (fun j h=>h1 l[j] t)) ?_
 simp -implicitDefEqProofs
def X5 (x:Ext):Bool:=decide (Pv x.tag 0 255)&&(decide (x.body.length≤4)&&allIn x.body 0 255)
def Wz (l:List Ext) (i:Nat):Bool:=match l[i]? with
 | some x=>X5 x&& !(l.take i).any (Hl x.tag)
 | none=>true
theorem Ae6 {l:List Ext} {i:Nat} (h:i<l.length):Wz l i=(X5 l[i]&& !(l.take i).any (Hl l[i].tag)):=by
 unfold Wz
 rw[List.getElem?_eq_getElem h]
def EK (l:List Ext):Bool:=PY (Wz l) l.length&&decide (l.length≤6)
theorem Awb {α:Type} {p:α→Bool}:∀ {xs:List α} {i:Int},GR p xs i= -1∨(i≤GR p xs i∧GR p xs i<i+xs.length)
 | [],i=> .inl rfl
 | x::r,i=>by
  by_cases hp:p x=true
  ·right;simp[GR,hp];omega
  ·rcases Awb (p:=p) (xs:=r) (i:=i+1)with h | h
   ·left;simp[GR,hp,h]
   ·right;simp[GR,hp]at *;omega
theorem Axw {α:Type} {p:α→Bool}:∀ {xs:List α} {i:Int} {j:Nat},0≤i→(h:j<xs.length)→p xs[j]=true→(GR p xs i<i+j↔(xs.take j).any p=true)
 | x::r,i,0,hi,h,hp=>by
  have:p x=true:=hp
  simp[GR,this]
 | x::r,i,j+1,hi,h,hp=>by
  by_cases hx:p x=true
  ·simp[GR,hx];omega
  ·have:=Axw (p:=p) (xs:=r) (i:=i+1) (j:=j) (by omega) (by simpa using h) (by simpa using hp)
   simp only[GR,hx,List.take_succ_cons,List.any_cons,Bool.false_or]
   rw[←this]
   simp
   omega
theorem As4 {l:List Ext} {j:Nat} (h:j<l.length):(JH l l[j].tag<(j:Int))=((l.take j).any (Hl l[j].tag)=true):=by
 have:=Axw (p:=Hl l[j].tag) (i:=0) (by omega) h (by simp[Hl])
 rw[Int.zero_add]at this
 exact propext this
theorem Ale {l:List Ext} {j:Nat} {t:Int}:(0≤JH (l.take j) t)=((l.take j).any (Hl t)=true):=RH (by omega)
theorem JU {l:List Ext} {j:Nat} (h:j<l.length) (hn:Wz l j=false):EK l=false:=by
 unfold EK
 rw[AjP h hn];rfl
abbrev Gc (R:Rel):Prop:=∀l:List Ext,UY l→R [.sl 1 2 l.length (l.flatMap Bw)] [] (B (EK l)) []
theorem AvM (D:Dn) (hI:Qo (D BF)) (hB:Zo (D WU)) (hX:Rb (D TJ)):Gc (Body D Ug):=by
 intro l hl
 have hll:=hl.1
 simp -implicitDefEqProofs
 refine Ad (fun k s=>∃j,j+k=l.length∧PY (Wz l) j=true∧s=⟨[.sl 1 2 l.length (l.flatMap Bw),.undef,I j,.undef,.undef],[]⟩) ?_ (l.length) _ ⟨0,by simp,by simp,by simp⟩
 intro k s ⟨j,hj,hr,hs⟩
 subst hs
 by_cases hjn:j<l.length
 ·have hw:IntKind.i64.wrap ((j:Int)+1)=(j+1:Nat):=by rw[Ab (by omega) (by omega)];simp
  have hst:=JX (Wz l) j
  have hq:=Ae6 hjn
  have hb:=Ns hl hjn
  rw[hr,Bool.true_and]at hst
  simp -implicitDefEqProofs [hjn]
  refine Aa (hI _ _ _) ?_
  by_cases h1:Pv l[j].tag 0 255
  rotate_left
  ·have e:=JU hjn (by rw[hq];simp[X5,h1])
   simp -implicitDefEqProofs [h1,e]
  by_cases h2:l[j].body.length≤4
  rotate_left
  ·have e:=JU hjn (by rw[hq];simp[X5,h2])
   have h2':(4:Int)<l[j].body.length:=by omega
   simp -implicitDefEqProofs [hjn,h1,h2',e]
  have h2':¬(4:Int)<l[j].body.length:=by omega
  simp -implicitDefEqProofs [hjn,h1,h2']
  refine Aa (hB _ (by unfold maxLen;omega)) ?_
  by_cases h3:allIn l[j].body 0 255=true
  rotate_left
  ·have e:=JU hjn (by rw[hq];simp[X5,h3])
   simp -implicitDefEqProofs [hjn,h3,e]
  simp -implicitDefEqProofs [hjn,h3]
  refine Aa (hX l _ (by unfold maxLen;omega)) ?_
  by_cases h4:(l.take j).any (Hl l[j].tag)=true
  ·have e:=JU hjn (by rw[hq];simp only[h4];simp)
   have h4':JH l l[j].tag<(j:Int):=by rw[As4 hjn];exact h4
   simp -implicitDefEqProofs [hjn,h4',e]
  ·have h4':¬JH l l[j].tag<(j:Int):=by rw[As4 hjn];exact h4
   have h4f:(l.take j).any (Hl l[j].tag)=false:=by simpa using h4
   simp -implicitDefEqProofs [hjn,h4']
   exact⟨k-1,by omega,j+1,by omega,by rw[hst,hq,h4f];simp[X5,h1,h2,h3],by simp[hw]⟩
 ·obtain rfl:j=l.length:=by omega
  have e:EK l=decide (l.length≤6):=by unfold EK;rw[hr];rfl
  by_cases h5:l.length≤6
  ·have h5':(l.length:Int)≤6:=by omega
   simp -implicitDefEqProofs [e,h5,h5']
  ·have h5':¬(l.length:Int)≤6:=by omega
   simp -implicitDefEqProofs [e,h5,h5']
theorem Awx (D:Dn) (hI:Qo (D BB)) (hX:Rb (D AgH)) (hN:JN (D Ky)):Gc (Body D Ul):=by
 intro l hl
 have hll:=hl.1
 simp -implicitDefEqProofs
 refine Ad (fun k s=>∃j o0,j+k=l.length∧PY (Wz l) j=true∧s=⟨[.sl 1 2 l.length (l.flatMap Bw),.undef,.undef,.undef,.sl 1 2 l.length (l.flatMap Bw),I l.length,I j,.undef,.undef],[o0]⟩) ?_ (l.length) _ ⟨0,.free,by simp,by simp,by simp⟩
 intro k s ⟨j,o0,hj,hr,hs⟩
 subst hs
 by_cases hjn:j<l.length
 ·have hw:IntKind.i64.wrap ((j:Int)+1)=(j+1:Nat):=by rw[Ab (by omega) (by omega)];simp
  have hst:=JX (Wz l) j
  have hq:=Ae6 hjn
  have hb:=Ns hl hjn
  rw[hr,Bool.true_and]at hst
  simp -implicitDefEqProofs [hjn]
  refine Aa (hI _ _ _) ?_
  by_cases h1:Pv l[j].tag 0 255
  rotate_left
  ·have e:=JU hjn (by rw[hq];simp[X5,h1])
   simp -implicitDefEqProofs [h1,e]
  have hjl:j≤l.length:=by omega
  have hmin:min j l.length=j:=by omega
  simp -implicitDefEqProofs [hjn,hjl,hmin,h1]
  have hxx:=hX (l.take j) l[j].tag (by simp;unfold maxLen;omega)
  rw[List.length_take,hmin]at hxx
  refine Aa (hxx) ?_
  by_cases h4:(l.take j).any (Hl l[j].tag)=true
  ·have e:=JU hjn (by rw[hq];simp only[h4];simp)
   have h4':0≤JH (l.take j) l[j].tag:=by rw[Ale];exact h4
   simp -implicitDefEqProofs [hjn,h4',e]
  have h4':¬0≤JH (l.take j) l[j].tag:=by rw[Ale];exact h4
  have h4f:(l.take j).any (Hl l[j].tag)=false:=by simpa using h4
  by_cases h2:l[j].body.length≤4
  rotate_left
  ·have e:=JU hjn (by rw[hq];simp[X5,h2])
   have h2':(4:Int)<l[j].body.length:=by omega
   simp -implicitDefEqProofs [hjn,h4',h2',e]
  have h2':¬(4:Int)<l[j].body.length:=by omega
  simp -implicitDefEqProofs [hjn,h4',h2']
  refine Aa (hN _ _ _ (by unfold maxLen;omega)) ?_
  by_cases h3:allIn l[j].body 0 255=true
  rotate_left
  ·have e:=JU hjn (by rw[hq];simp[X5,h3])
   simp -implicitDefEqProofs [hjn,h3,e]
  simp -implicitDefEqProofs [hjn,h3]
  exact⟨k-1,by omega,j+1,by omega,by rw[hst,hq,h4f];simp[X5,h1,h2,h3],by simp[hw]⟩
 ·obtain rfl:j=l.length:=by omega
  have e:EK l=decide (l.length≤6):=by unfold EK;rw[hr];rfl
  by_cases h5:l.length≤6
  ·have h5':(l.length:Int)≤6:=by omega
   simp -implicitDefEqProofs [e,h5,h5']
  ·have h5':¬(l.length:Int)≤6:=by omega
   simp -implicitDefEqProofs [e,h5,h5']
def Ap (l:List Ext):List Int:=l.map (·.tag)
theorem Ao6 {l:List Ext} {j:Nat} (h:j<l.length):Ap (l.take (j+1))=Ap (l.take j)++ [l[j].tag]:=by
 have e:l.take (j+1)=l.take j++ [l[j]]:=by simp
 unfold Ap
 rw[e,List.map_append];rfl
abbrev Lp (R:Rel):Prop:=∀l:List Ext,l.length≤4194304→R [.sl 1 2 l.length (l.flatMap Bw)] [] (.sl 0 1 (Ap l).length (ints (Ap l))) []
theorem AAk (D:Dn):Lp (Body D Xh):=by
 intro l hl
 simp -implicitDefEqProofs
 refine Ad (fun k s=>∃j o1 o2,j+k=l.length∧s=⟨[.sl 1 2 l.length (l.flatMap Bw),.undef,.arr 3,I j,.undef],[.free,o1,o2,.arr 1 0 (Ap (l.take j)).length (ints (Ap (l.take j)))]⟩) ?_ (l.length) _ ⟨0,.free,.free,by simp,by simp[Ap]⟩
 intro k s ⟨j,o1,o2,hj,hs⟩
 subst hs
 by_cases hjn:j<l.length
 ·have hw:IntKind.i64.wrap ((j:Int)+1)=(j+1:Nat):=by rw[Ab (by omega) (by omega)];simp
  have hst:=Ao6 hjn
  have hlen:(Ap (l.take j)).length=j:=by simp[Ap];omega
  have hb:(j+1)*8≤1099511627776:=by omega
  simp -implicitDefEqProofs [hjn,hlen,hb]
  exact⟨k-1,by omega,j+1,by omega,by simp[hw],by rw[hst];simp[hlen],by rw[hst]⟩
 ·have e:l.take j=l:=List.take_of_length_le (by omega)
  simp -implicitDefEqProofs [hjn,e]
theorem Az1 (D:Dn):Lp (Body D V9):=by
 intro l hl
 simp -implicitDefEqProofs
 refine Ad (fun k s=>∃j v3 o1 o2 o3,j+k=l.length∧s=⟨[.undef,.undef,.arr 4,v3,.sl 1 2 l.length (l.flatMap Bw),I l.length,I j,.undef],[.free,o1,o2,o3,.arr 1 0 (Ap (l.take j)).length (ints (Ap (l.take j)))]⟩) ?_ (l.length) _ ⟨0,.undef,.free,.free,.free,by simp,by simp[Ap]⟩
 intro k s ⟨j,v3,o1,o2,o3,hj,hs⟩
 subst hs
 by_cases hjn:j<l.length
 ·have hw:IntKind.i64.wrap ((j:Int)+1)=(j+1:Nat):=by rw[Ab (by omega) (by omega)];simp
  have hst:=Ao6 hjn
  have hlen:(Ap (l.take j)).length=j:=by simp[Ap];omega
  have hb:(j+1)*8≤1099511627776:=by omega
  simp -implicitDefEqProofs [hjn,hlen,hb]
  exact⟨k-1,by omega,j+1,by omega,by simp[hw],by rw[hst];simp[hlen],by rw[hst]⟩
 ·have e:l.take j=l:=List.take_of_length_le (by omega)
  simp -implicitDefEqProofs [hjn,e]
end Go.Eng.T
namespace Go.Eng.T
set_option maxRecDepth 20000
def kept (p:Int→Bool) (l:List Ext):List Ext:=l.filter fun x=>p x.tag
theorem ZG {p:Int→Bool} {l:List Ext} {j:Nat} (h:j<l.length):kept p (l.take (j+1))=kept p (l.take j)++(if p l[j].tag then [l[j]]else []):=Abr (p:=fun x:Ext=>p x.tag) h
theorem Vd {p:Int→Bool} {l:List Ext} {j:Nat} (h:l.length≤j):kept p (l.take j)=kept p l:=AfI h
theorem Ve {p:Int→Bool} {l:List Ext} {j:Nat}:(kept p (l.take j)).length≤j:=Aff
theorem VW {l:List Ext} (h:UY l) (p:Int→Bool):UY (kept p l):=Aw5 h _
theorem RQ {p:Int→Bool} {l:List Ext} {j:Nat} (h:j<l.length) (hp:p l[j].tag=true):
 (kept p (l.take j)).flatMap Bw++ [.sc (.int .i64 l[j].tag),.sl 0 1 l[j].body.length (ints l[j].body)]=(kept p (l.take (j+1))).flatMap Bw:=by
 rw[ZG h,if_pos hp,List.flatMap_append];simp
theorem Jq {p:Int→Bool} {l:List Ext} {j:Nat} (h:j<l.length) (hp:p l[j].tag=true):(kept p (l.take (j+1))).length=(kept p (l.take j)).length+1:=by
 rw[ZG h,if_pos hp];simp
theorem VE {p:Int→Bool} {l:List Ext} {j:Nat} (h:j<l.length) (hp:¬p l[j].tag=true):kept p (l.take (j+1))=kept p (l.take j):=by
 rw[ZG h,if_neg hp,List.append_nil]
def ApF (caps:List V):Prop:=∀k,caps.any (m1 k)=false
theorem RN:ApF []:=fun _=>rfl
theorem Aa1 {fl:Nat} {cs:List V} {o:Nat} {r:List V} (h:ApF r):ApF (.rptr fl cs o::r):=fun k=>by
 have:=h k
 simp only[List.any_cons,this,m1,Bool.or_self]
theorem RJ {k g:Nat} {caps:List V} (h:ApF caps):Td k (.fn g caps)= .fn g caps:=by
 have:=h k
 simp only[Td,m3,m2,this]
 rfl
theorem XP {a b g:Nat} {caps:List V} (h:ApF caps):Aec a b (.fn g caps)= .fn g caps:=by
 have:=h a
 simp only[Aec,m3,m2,this]
 rfl
abbrev Ma (D:Dn) (R:Rel):Prop:=∀(l:List Ext) (g:Nat) (caps:List V) (p:Int→Bool),UY l→KD caps→ApF caps→(∀t:Int,D g (I t::caps) [] (B (p t)) [])→
 R [.sl 1 2 l.length (l.flatMap Bw),.fn g caps] [] (.sl 0 2 (kept p l).length ((kept p l).flatMap Bw)) []
theorem AvN (D:Dn):Ma D (Body D Sd):=by
 intro l g caps p hl hc hno hp
 have hll:=hl.1
 simp -implicitDefEqProofs [↓RJ hno,↓XP hno]
 refine Ad (fun k s=>∃j v4 o1 o2 o3 o4 o5,j+k=l.length∧s=⟨[.undef,.fn g caps,.undef,.arr 6,v4,.sl 1 2 l.length (l.flatMap Bw),I l.length,I j,.undef,.undef],[.free,o1,o2,o3,o4,o5,.arr 2 0 (kept p (l.take j)).length ((kept p (l.take j)).flatMap Bw)]⟩) ?_ (l.length) _ ⟨0,.undef,.free,.free,.free,.free,.free,by simp,by simp[kept,↓RJ hno,↓XP hno]⟩
 intro k s ⟨j,v4,o1,o2,o3,o4,o5,hj,hs⟩
 subst hs
 by_cases hjn:j<l.length
 ·have hw:IntKind.i64.wrap ((j:Int)+1)=(j+1:Nat):=by rw[Ab (by omega) (by omega)];simp
  have hb:=Ns hl hjn
  have h1:l[j].body.length*8≤1099511627776:=by omega
  have hkl:=Ve (p:=p) (l:=l) (j:=j)
  have h2:((kept p (l.take j)).length+1)*32≤1099511627776:=by omega
  simp -implicitDefEqProofs [hjn,↓RJ hno,↓XP hno,hc.1,hc.2.1]
  refine Aa (hp l[j].tag) ?_
  by_cases he:p l[j].tag=true
  ·have hst:=RQ hjn he
   have hsl:=Jq hjn he
   simp -implicitDefEqProofs [he,hjn,↓RJ hno,↓XP hno,h1,h2]
   exact⟨k-1,by omega,j+1,by omega,by simp[hw],by rw[hsl],by rw[←hst]⟩
  ·have hst:=VE hjn he
   simp -implicitDefEqProofs [he,↓RJ hno,↓XP hno]
   exact⟨k-1,by omega,j+1,by omega,by simp[hw],by rw[hst],by rw[hst]⟩
 ·have e:=Vd (p:=p) (l:=l) (j:=j) (by omega)
  simp -implicitDefEqProofs [hjn,e]
abbrev Ado (R:Rel):Prop:=∀t:Int,R [I t] [] (B true) []
abbrev Xi (R:Rel):Prop:=∀t:Int,R [I t] [] (B (!Au t)) []
theorem Asd (D:Dn):Ado (Body D OZ):=by
 intro t
 simp -implicitDefEqProofs
theorem Al7 (D:Dn) (hR:FL (D VQ)):Xi (Body D KJ):=by
 intro t
 simp -implicitDefEqProofs
 refine Aa (hR t) ?_
 simp -implicitDefEqProofs
theorem AAL (l:List Ext):kept (fun _=>true) l=l:=by simp[kept]
abbrev Ps (R:Rel):Prop:=∀l:List Ext,UY l→R [.sl 1 2 l.length (l.flatMap Bw)] [] (.sl 0 2 l.length (l.flatMap Bw)) []
theorem Av7 (D:Dn) (h1:Ado (D VD)) (hK:Ma D (D J3)):Ps (Body D SQ):=by
 intro l hl
 simp -implicitDefEqProofs
 refine Aa (hK l VD [] (fun _=>true) hl E5 RN (fun t=>h1 t)) ?_
 simp -implicitDefEqProofs [AAL]
def AaQ (l:List Ext):List Ext:=kept (fun t=> !Au t) l
def Ll (l:List Ext) (tags:List Int):List Ext:=kept (fun t=>decide (t∈tags)) l
abbrev Ia (R:Rel):Prop:=∀l:List Ext,UY l→R [.sl 1 2 l.length (l.flatMap Bw)] [] (.sl 0 2 (AaQ l).length ((AaQ l).flatMap Bw)) []
theorem Akh (D:Dn) (h1:Xi (D Rn)) (hK:Ma D (D J3)):Ia (Body D NA):=by
 intro l hl
 simp -implicitDefEqProofs
 refine Aa (hK l Rn [] (fun t=> !Au t) hl E5 RN (fun t=>h1 t)) ?_
 simp -implicitDefEqProofs [AaQ]
abbrev Nk (R:Rel):Prop:=∀(l:List Ext) (tags:List Int),UY l→tags.length≤maxLen→R [.sl 1 2 l.length (l.flatMap Bw),.sl 1 1 tags.length (ints tags)] [] (.sl 0 2 (Ll l tags).length ((Ll l tags).flatMap Bw)) []
abbrev Zb (R:Rel):Prop:=∀(t:Int) (tags:List Int),tags.length≤maxLen→R [I t,.rptr 1 [.sl 0 1 tags.length (ints tags)] 0] [] (B (decide (t∈tags))) []
theorem Aba {a:List Int} {r:List V} (h:KD r):KD (.rptr 1 [.sl 0 1 a.length (ints a)] 0::r):=Ab4 (fun H=>by simp) (fun H=>by simp) h
theorem Awq (D:Dn) (hH:PX (D Bq)):Zb (Body D Qm):=by
 intro t tags hl
 simp -implicitDefEqProofs
 refine Aa (hH tags t hl) ?_
 simp -implicitDefEqProofs
theorem AwO (D:Dn) (h1:Zb (D Xw)) (hK:Ma D (D J3)):Nk (Body D UC):=by
 intro l tags hl ht
 simp -implicitDefEqProofs
 refine Aa (hK l Xw _ (fun t=>decide (t∈tags)) hl (Aba E5) (Aa1 RN) (fun t=>h1 t tags ht)) ?_
 simp -implicitDefEqProofs [Ll]
theorem Avy (D:Dn) (hH:PX (D GA)):Nk (Body D U4):=by
 intro l tags hl ht
 have hll:=hl.1
 have hres:Ll l tags=kept (fun t=>decide (t∈tags)) l:=rfl
 rw[hres]
 generalize hp:(fun t=>decide (t∈tags))=p
 simp -implicitDefEqProofs
 refine Ad (fun k s=>∃j o1 o2 o3 o4,j+k=l.length∧s=⟨[.sl 1 2 l.length (l.flatMap Bw),.sl 1 1 tags.length (ints tags),.undef,.arr 5,I j,.undef,.undef],[.free,o1,o2,o3,o4,.arr 2 0 (kept p (l.take j)).length ((kept p (l.take j)).flatMap Bw)]⟩) ?_ (l.length) _ ⟨0,.free,.free,.free,.free,by simp,by simp[kept]⟩
 intro k s ⟨j,o1,o2,o3,o4,hj,hs⟩
 subst hs
 by_cases hjn:j<l.length
 ·have hw:IntKind.i64.wrap ((j:Int)+1)=(j+1:Nat):=by rw[Ab (by omega) (by omega)];simp
  have hb:=Ns hl hjn
  have h1:l[j].body.length*8≤1099511627776:=by omega
  have hkl:=Ve (p:=p) (l:=l) (j:=j)
  have h2:((kept p (l.take j)).length+1)*32≤1099511627776:=by omega
  simp -implicitDefEqProofs [hjn]
  refine Aa (hH tags l[j].tag ht) ?_
  have hpe:decide (l[j].tag∈tags)=p l[j].tag:=by rw[←hp]
  rw[hpe]
  by_cases he:p l[j].tag=true
  ·have hst:=RQ hjn he
   have hsl:=Jq hjn he
   simp -implicitDefEqProofs [he,hjn,h1,h2]
   exact⟨k-1,by omega,j+1,by omega,by simp[hw],by rw[hsl],by rw[←hst]⟩
  ·have hst:=VE hjn he
   simp -implicitDefEqProofs [he]
   exact⟨k-1,by omega,j+1,by omega,by simp[hw],by rw[hst],by rw[hst]⟩
 ·have e:=Vd (p:=p) (l:=l) (j:=j) (by omega)
  simp -implicitDefEqProofs [hjn,e]
theorem AjW (D:Dn) (hR:FL (D Ou)):Ia (Body D MB):=by
 intro l hl
 have hll:=hl.1
 have hres:AaQ l=kept (fun t=> !Au t) l:=rfl
 rw[hres]
 generalize hp:(fun t=> !Au t)=p
 simp -implicitDefEqProofs
 refine Ad (fun k s=>∃j o1 o2 o3 o4,j+k=l.length∧s=⟨[.sl 1 2 l.length (l.flatMap Bw),.undef,.arr 5,I j,.undef,.undef],[.free,o1,o2,o3,o4,.arr 2 0 (kept p (l.take j)).length ((kept p (l.take j)).flatMap Bw)]⟩) ?_ (l.length) _ ⟨0,.free,.free,.free,.free,by simp,by simp[kept]⟩
 intro k s ⟨j,o1,o2,o3,o4,hj,hs⟩
 subst hs
 by_cases hjn:j<l.length
 ·have hw:IntKind.i64.wrap ((j:Int)+1)=(j+1:Nat):=by rw[Ab (by omega) (by omega)];simp
  have hb:=Ns hl hjn
  have h1:l[j].body.length*8≤1099511627776:=by omega
  have hkl:=Ve (p:=p) (l:=l) (j:=j)
  have h2:((kept p (l.take j)).length+1)*32≤1099511627776:=by omega
  simp -implicitDefEqProofs [hjn]
  refine Aa (hR l[j].tag) ?_
  have hpe:(!Au l[j].tag)=p l[j].tag:=by rw[←hp]
  by_cases he:p l[j].tag=true
  ·have hst:=RQ hjn he
   have hsl:=Jq hjn he
   have he':Au l[j].tag=false:=by rw[he]at hpe;simpa using hpe
   simp -implicitDefEqProofs [he',hjn,h1,h2]
   exact⟨k-1,by omega,j+1,by omega,by simp[hw],by rw[hsl],by rw[←hst]⟩
  ·have hst:=VE hjn he
   have he':Au l[j].tag=true:=by simp at he;rw[he]at hpe;simpa using hpe
   simp -implicitDefEqProofs [he']
   exact⟨k-1,by omega,j+1,by omega,by simp[hw],by rw[hst],by rw[hst]⟩
 ·have e:=Vd (p:=p) (l:=l) (j:=j) (by omega)
  simp -implicitDefEqProofs [hjn,e]
theorem Awd (l:List Ext):Ll l (Ap l)=l:=by
 unfold Ll kept
 rw[List.filter_eq_self]
 intro x hx
 simp only[decide_eq_true_eq]
 exact List.mem_map.2 ⟨x,hx,rfl⟩
theorem M0 (l:List Ext):(Ap l).length=l.length:=by simp[Ap]
theorem AAp (D:Dn) (hT:Lp (D Ady)) (hK:Nk (D Aam)):Ps (Body D Uz):=by
 intro l hl
 have hll:=hl.1
 simp -implicitDefEqProofs
 refine Aa (hT l hll) ?_
 simp -implicitDefEqProofs
 refine Aa (hK l (Ap l) hl (by rw[M0];unfold maxLen;omega)) ?_
 simp -implicitDefEqProofs [Awd]
end Go.Eng.T
namespace Go.Eng.T
set_option maxRecDepth 20000
abbrev InV (a b c:Int):Prop:=b≤a∧a≤c
def KL (xs:List Int) (j:Nat):Bool:=(List.range j).all fun i=>decide (InV (xs.getD i 0) 1 9)&&(decide (i=0)||decide (xs.getD (i-1) 0<xs.getD i 0))
theorem TS (xs:List Int) (j:Nat):KL xs (j+1)=(KL xs j&&(decide (InV (xs.getD j 0) 1 9)&&(decide (j=0)||decide (xs.getD (j-1) 0<xs.getD j 0)))):=by
 unfold KL
 rw[List.range_succ,List.all_append]
 simp
theorem Za {xs:List Int} {j:Nat} (h:j<xs.length) (hn:KL xs (j+1)=false):KL xs xs.length=false:=by
 have:∀n,KL xs (j+1+n)=false:=by
  intro n
  induction n with
  | zero=>exact hn
  | succ n ih=>rw[show j+1+(n+1)=(j+1+n)+1 by omega,TS,ih];rfl
 have:=this (xs.length-(j+1))
 rwa [show j+1+(xs.length-(j+1))=xs.length by omega]at this
theorem VH {xs:List Int} {j:Nat} (h:j<xs.length):xs.getD j 0=xs[j]:=by simp[h]
def AU (xs:List Int):Bool:=KL xs xs.length&&decide (0<xs.length)
abbrev BA (R:Rel):Prop:=∀xs:List Int,xs.length≤maxLen→R [.sl 1 1 xs.length (ints xs)] [] (B (AU xs)) []
theorem Alh (D:Dn) (hI:Qo (D BF)):BA (Body D MP):=by
 intro xs hl
 unfold maxLen at hl
 simp -implicitDefEqProofs
 refine Ad (fun k s=>∃j,j+k=xs.length∧KL xs j=true∧s=⟨[.sl 1 1 xs.length (ints xs),.undef,.sc (.int .i64 j),.undef,.undef],[]⟩) ?_ xs.length _ ⟨0,by simp,by simp[KL],by simp⟩
 intro k s ⟨j,hj,hr,hs⟩
 subst hs
 by_cases hjn:j<xs.length
 ·have hw:IntKind.i64.wrap ((j:Int)+1)=(j+1:Nat):=by rw[Ab (by omega) (by omega)];simp
  have hst:=TS xs j
  rw[hr,Bool.true_and,VH hjn]at hst
  simp -implicitDefEqProofs [hjn]
  refine Aa (hI _ _ _) ?_
  by_cases h1:InV xs[j] 1 9
  rotate_left
  ·have e:AU xs=false:=by unfold AU;rw[Za hjn (by rw[hst];simp[h1])];rfl
   simp -implicitDefEqProofs [h1,e]
  by_cases h0:j=0
  ·subst h0
   simp -implicitDefEqProofs [h1]
   exact⟨k-1,by omega,1,by omega,by rw[hst];simp[h1],by simpa using hw⟩
  ·have hw2:IntKind.i64.wrap ((j:Int)-1)=((j-1:Nat):Int):=by rw[Ab (by omega) (by omega)];omega
   have h2:(0:Int)<j:=by omega
   have h2':0<j:=by omega
   have h3:j-1<xs.length:=by omega
   rw[VH h3]at hst
   by_cases h4:xs[j-1]<xs[j]
   ·have h4':¬xs[j]≤xs[j-1]:=by omega
    simp -implicitDefEqProofs [h1,h2,h2',hw2,h3,hjn,h4']
    exact⟨k-1,by omega,j+1,by omega,by rw[hst];simp[h1,h0,h4],by simp[hw]⟩
   ·have e:AU xs=false:=by unfold AU;rw[Za hjn (by rw[hst];simp[h1,h0,h4])];rfl
    have h4':xs[j]≤xs[j-1]:=by omega
    simp -implicitDefEqProofs [h1,h2,h2',hw2,h3,hjn,h4',e]
 ·obtain rfl:j=xs.length:=by omega
  have e:AU xs=decide (0<xs.length):=by unfold AU;rw[hr];rfl
  by_cases h5:0<xs.length
  ·have h5':(0:Int)<xs.length:=by omega
   simp -implicitDefEqProofs [e,h5,h5']
  ·have h5':¬(0:Int)<xs.length:=by omega
   simp -implicitDefEqProofs [e,h5,h5']
theorem Alc (D:Dn) (hI:Qo (D BB)):BA (Body D MK):=by
 intro xs hl
 unfold maxLen at hl
 simp -implicitDefEqProofs
 refine Ad (fun k s=>∃j v2 v3,j+k=xs.length∧KL xs j=true∧s=⟨[.sl 1 1 xs.length (ints xs),.undef,v2,v3,.sl 1 1 xs.length (ints xs),.sc (.int .i64 xs.length),.sc (.int .i64 j),.undef,.undef],[]⟩) ?_ xs.length _ ⟨0,.undef,.undef,by simp,by simp[KL],by simp⟩
 intro k s ⟨j,v2,v3,hj,hr,hs⟩
 subst hs
 by_cases hjn:j<xs.length
 ·have hw:IntKind.i64.wrap ((j:Int)+1)=(j+1:Nat):=by rw[Ab (by omega) (by omega)];simp
  have hst:=TS xs j
  rw[hr,Bool.true_and,VH hjn]at hst
  simp -implicitDefEqProofs [hjn]
  refine Aa (hI _ _ _) ?_
  by_cases h1:InV xs[j] 1 9
  rotate_left
  ·have e:AU xs=false:=by unfold AU;rw[Za hjn (by rw[hst];simp[h1])];rfl
   simp -implicitDefEqProofs [h1,e]
  by_cases h0:j=0
  ·subst h0
   simp -implicitDefEqProofs [h1]
   exact⟨k-1,by omega,1,by omega,by rw[hst];simp[h1],by simpa using hw⟩
  ·have hw2:IntKind.i64.wrap ((j:Int)-1)=((j-1:Nat):Int):=by rw[Ab (by omega) (by omega)];omega
   have h2:(0:Int)<j:=by omega
   have h2':0<j:=by omega
   have h3:j-1<xs.length:=by omega
   rw[VH h3]at hst
   by_cases h4:xs[j-1]<xs[j]
   ·have h4':¬xs[j]≤xs[j-1]:=by omega
    simp -implicitDefEqProofs [h1,h2,h2',hw2,h3,hjn,h4']
    exact⟨k-1,by omega,j+1,by omega,by rw[hst];simp[h1,h0,h4],by simp[hw]⟩
   ·have e:AU xs=false:=by unfold AU;rw[Za hjn (by rw[hst];simp[h1,h0,h4])];rfl
    have h4':xs[j]≤xs[j-1]:=by omega
    simp -implicitDefEqProofs [h1,h2,h2',hw2,h3,hjn,h4',e]
 ·obtain rfl:j=xs.length:=by omega
  have e:AU xs=decide (0<xs.length):=by unfold AU;rw[hr];rfl
  by_cases h5:0<xs.length
  ·have h5':(0:Int)<xs.length:=by omega
   simp -implicitDefEqProofs [e,h5,h5']
  ·have h5':¬(0:Int)<xs.length:=by omega
   simp -implicitDefEqProofs [e,h5,h5']
theorem Kk {p:Int→Bool} {xs:List Int} {j:Nat} (h:j<xs.length):(xs.take (j+1)).filter p=(xs.take j).filter p++(if p xs[j]then [xs[j]]else []):=by
 have e:xs.take (j+1)=xs.take j++ [xs[j]]:=by simp
 rw[e,List.filter_append]
 by_cases hp:p xs[j]=true<;>simp[hp]
theorem K7 {p:Int→Bool} {xs:List Int} {j:Nat} (h:xs.length≤j):(xs.take j).filter p=xs.filter p:=by rw[List.take_of_length_le h]
theorem M5 {p:Int→Bool} {xs:List Int} {j:Nat}:((xs.take j).filter p).length≤j:=by
 have:=List.length_filter_le p (xs.take j)
 have h2:(xs.take j).length≤j:=by simp;omega
 omega
def common (a b:List Int):List Int:=a.filter fun v=>decide (v∈b)
def EJ (a:List Int) (v:Int):List Int:=a.filter fun x=> !decide (x=v)
abbrev Mi (R:Rel):Prop:=∀a b:List Int,a.length≤4194304→b.length≤maxLen→R [.sl 1 1 a.length (ints a),.sl 1 1 b.length (ints b)] [] (.sl 0 1 (common a b).length (ints (common a b))) []
abbrev Md (R:Rel):Prop:=∀(a:List Int) (v:Int),a.length≤4194304→R [.sl 1 1 a.length (ints a),I v] [] (.sl 0 1 (EJ a v).length (ints (EJ a v))) []
theorem AsS (D:Dn) (hH:PX (D GA)):Mi (Body D Tf):=by
 intro a b ha hb'
 have hres:common a b=a.filter (fun v=>decide (v∈b)):=rfl
 rw[hres]
 simp -implicitDefEqProofs
 refine Ad (fun k s=>∃j o1 o2,j+k=a.length∧s=⟨[.sl 1 1 a.length (ints a),.sl 1 1 b.length (ints b),.undef,.arr 3,.sc (.int .i64 j),.undef,.undef],[.free,o1,o2,.arr 1 0 ((a.take j).filter (fun v=>decide (v∈b))).length (ints ((a.take j).filter (fun v=>decide (v∈b))))]⟩) ?_ a.length _ ⟨0,by simp⟩
 intro k s ⟨j,o1,o2,hj,hs⟩
 subst hs
 by_cases hjn:j<a.length
 ·have hw:IntKind.i64.wrap ((j:Int)+1)=(j+1:Nat):=by rw[Ab (by omega) (by omega)];simp
  have hst:=Kk (p:=fun v=>decide (v∈b)) hjn
  have hln:=M5 (p:=fun v=>decide (v∈b)) (xs:=a) (j:=j)
  have hb:(((a.take j).filter (fun v=>decide (v∈b))).length+1)*8≤1099511627776:=by omega
  simp -implicitDefEqProofs [hjn]
  refine Aa (hH b _ hb') ?_
  by_cases h1:a[j]∈b
  ·rw[if_pos (by simp[h1])]at hst
   simp -implicitDefEqProofs [h1,hjn,hb]
   exact⟨k-1,by omega,j+1,by omega,by simp[hw],by rw[hst];simp,by rw[hst]⟩
  ·rw[if_neg (by simp[h1]),List.append_nil]at hst
   simp -implicitDefEqProofs [h1,hjn,hb]
   exact⟨k-1,by omega,j+1,by omega,by simp[hw],by rw[hst],by rw[hst]⟩
 ·have hx:=K7 (p:=fun v=>decide (v∈b)) (xs:=a) (j:=j) (by omega)
  simp -implicitDefEqProofs [hjn,hx]
theorem As8 (D:Dn) (hH:PX (D Bq)):Mi (Body D Ti):=by
 intro a b ha hb'
 have hres:common a b=a.filter (fun v=>decide (v∈b)):=rfl
 rw[hres]
 simp -implicitDefEqProofs
 refine Ad (fun k s=>∃j v4 o1 o2,j+k=a.length∧s=⟨[.undef,.sl 1 1 b.length (ints b),.undef,.arr 3,v4,.sl 1 1 a.length (ints a),.sc (.int .i64 a.length),.sc (.int .i64 j),.undef,.undef],[.free,o1,o2,.arr 1 0 ((a.take j).filter (fun v=>decide (v∈b))).length (ints ((a.take j).filter (fun v=>decide (v∈b))))]⟩) ?_ a.length _ ⟨0,by simp⟩
 intro k s ⟨j,v4,o1,o2,hj,hs⟩
 subst hs
 by_cases hjn:j<a.length
 ·have hw:IntKind.i64.wrap ((j:Int)+1)=(j+1:Nat):=by rw[Ab (by omega) (by omega)];simp
  have hst:=Kk (p:=fun v=>decide (v∈b)) hjn
  have hln:=M5 (p:=fun v=>decide (v∈b)) (xs:=a) (j:=j)
  have hb:(((a.take j).filter (fun v=>decide (v∈b))).length+1)*8≤1099511627776:=by omega
  simp -implicitDefEqProofs [hjn]
  refine Aa (hH b _ hb') ?_
  by_cases h1:a[j]∈b
  ·rw[if_pos (by simp[h1])]at hst
   simp -implicitDefEqProofs [h1,hjn,hb]
   exact⟨k-1,by omega,j+1,by omega,by simp[hw],by rw[hst];simp,by rw[hst]⟩
  ·rw[if_neg (by simp[h1]),List.append_nil]at hst
   simp -implicitDefEqProofs [h1,hjn,hb]
   exact⟨k-1,by omega,j+1,by omega,by simp[hw],by rw[hst],by rw[hst]⟩
 ·have hx:=K7 (p:=fun v=>decide (v∈b)) (xs:=a) (j:=j) (by omega)
  simp -implicitDefEqProofs [hjn,hx]
theorem AqQ (D:Dn):Md (Body D Oz):=by
 intro a v ha
 have hres:EJ a v=a.filter (fun x=> !decide (x=v)):=rfl
 rw[hres]
 simp -implicitDefEqProofs
 refine Ad (fun k s=>∃j o1 o2,j+k=a.length∧s=⟨[.sl 1 1 a.length (ints a),.sc (.int .i64 v),.undef,.arr 3,.sc (.int .i64 j),.undef,.undef],[.free,o1,o2,.arr 1 0 ((a.take j).filter (fun x=> !decide (x=v))).length (ints ((a.take j).filter (fun x=> !decide (x=v))))]⟩) ?_ a.length _ ⟨0,by simp⟩
 intro k s ⟨j,o1,o2,hj,hs⟩
 subst hs
 by_cases hjn:j<a.length
 ·have hw:IntKind.i64.wrap ((j:Int)+1)=(j+1:Nat):=by rw[Ab (by omega) (by omega)];simp
  have hst:=Kk (p:=fun x=> !decide (x=v)) hjn
  have hln:=M5 (p:=fun x=> !decide (x=v)) (xs:=a) (j:=j)
  have hb:(((a.take j).filter (fun x=> !decide (x=v))).length+1)*8≤1099511627776:=by omega
  simp -implicitDefEqProofs [hjn]
  by_cases h1:a[j]=v
  ·rw[if_neg (by simp[h1]),List.append_nil]at hst
   simp -implicitDefEqProofs [h1,hjn,hb]
   exact⟨k-1,by omega,j+1,by omega,by simp[hw],by rw[hst],by rw[hst]⟩
  ·rw[if_pos (by simp[h1])]at hst
   simp -implicitDefEqProofs [h1,hjn,hb]
   exact⟨k-1,by omega,j+1,by omega,by simp[hw],by rw[hst];simp,by rw[hst]⟩
 ·have hx:=K7 (p:=fun x=> !decide (x=v)) (xs:=a) (j:=j) (by omega)
  simp -implicitDefEqProofs [hjn,hx]
end Go.Eng.T
namespace Go.Eng.T
set_option maxRecDepth 20000
def hB (h:Hello):Prop:=h.versions.length≤4194304∧UY h.exts
def CB (h:Hello):Bool:=AU h.versions&&EK h.exts
abbrev Eo (R:Rel):Prop:=∀h:Hello,hB h→R [arg (CP h)] [] (B (CB h)) []
theorem AwA (D:Dn) (hA:BA (D Di)) (hE:Gc (D KW)):Eo (Body D Uj):=by
 intro h hh
 simp -implicitDefEqProofs
 refine Aa (hA _ (by have:=hh.1;unfold maxLen;omega)) ?_
 by_cases h1:AU h.versions=true
 rotate_left
 ·simp -implicitDefEqProofs [h1,CB]
 simp -implicitDefEqProofs [h1]
 refine Aa (hE _ hh.2) ?_
 simp -implicitDefEqProofs [h1,CB]
theorem Awz (D:Dn) (hA:BA (D FX)) (hE:Gc (D K9)):Eo (Body D Uf):=by
 intro h hh
 simp -implicitDefEqProofs
 refine Aa (hA _ (by have:=hh.1;unfold maxLen;omega)) ?_
 by_cases h1:AU h.versions=true
 rotate_left
 ·simp -implicitDefEqProofs [h1,CB]
 simp -implicitDefEqProofs [h1]
 refine Aa (hE _ hh.2) ?_
 simp -implicitDefEqProofs [h1,CB]
abbrev KZ (R:Rel):Prop:=∀h:Hello,hB h→R [arg (CP h)] [] (.agg (CP h)) []
theorem AuO (D:Dn) (hE:Ps (D Ye)):KZ (Body D QF):=by
 intro h hh
 have h1:h.versions.length*8≤1099511627776:=by have:=hh.1;omega
 simp -implicitDefEqProofs [h1]
 refine Aa (hE _ hh.2) ?_
 simp -implicitDefEqProofs
theorem Aw7 (D:Dn) (hE:Ps (D Aax)):KZ (Body D Si):=by
 intro h hh
 have h1:h.versions.length*8≤1099511627776:=by have:=hh.1;omega
 simp -implicitDefEqProofs [h1]
 refine Aa (hE _ hh.2) ?_
 simp -implicitDefEqProofs
def lossy (b:Gu) (x:Ext):Bool:=decide (x.tag∈b.drops)||(b.lists&&(!decide (x.tag∈b.strips)&& !decide (Pv x.tag 1 3)))
def AwY (vs:List Int):Int:=vs.getLastD 0
def OL (b:Gu) (h:Hello):Bool:=(decide (0<b.limit)&&decide (b.limit<AwY h.versions))||h.exts.any (lossy b)
def stays (b:Gu) (t:Int):Bool:= !decide (t∈b.strips)
def AQ:Hello:=⟨[],[]⟩
def BM (b:Gu) (h:Hello):Hello×Bool:=if Hg b&&(CB h&& !OL b h)then(⟨h.versions,kept (stays b) h.exts⟩,true)else(AQ,false)
abbrev PG (R:Rel):Prop:=∀(b:Gu) (h:Hello),JI b→hB h→R [arg (Dy b),arg (CP h)] [] (.tup [.agg (CP (BM b h).1),B (BM b h).2]) []
theorem XM {xs:List Int} (h:AU xs=true):0<xs.length:=by
 unfold AU at h
 simp only[Bool.and_eq_true,decide_eq_true_eq]at h
 exact h.2
theorem AGe {xs:List Int} (h:xs.length-1<xs.length):AwY xs=xs[xs.length-1]:=by
 unfold AwY
 rw[List.getLastD_eq_getLast?,List.getLast?_eq_getElem?,List.getElem?_eq_getElem h];rfl
theorem Avn (D:Dn) (hX:R6 (D Yr)) (hE:Eo (D GJ)) (hH:PX (D GA)) (hI:Qo (D BF)):PG (Body D Uw):=by
 intro b h hb hh
 obtain⟨hv,hx⟩:=hh
 have hll:=hx.1
 simp -implicitDefEqProofs
 refine Aa (hX b hb) ?_
 by_cases h1:Hg b=true
 rotate_left
 ·simp -implicitDefEqProofs [h1,BM,AQ]
 simp -implicitDefEqProofs [h1]
 refine Aa (hE h ⟨hv,hx⟩) ?_
 by_cases h2:CB h=true
 rotate_left
 ·simp -implicitDefEqProofs [h2,BM,AQ]
 have hpos:0<h.versions.length:=XM (by unfold CB at h2;simp only[Bool.and_eq_true]at h2;exact h2.1)
 have hn1:h.versions.length-1<h.versions.length:=by omega
 have hw1:IntKind.i64.wrap ((h.versions.length:Int)-1)=((h.versions.length-1:Nat):Int):=by rw[Ab (by omega) (by omega)];omega
 have htop:=AGe hn1
 by_cases h3:0<b.limit
 ·by_cases h4:b.limit<h.versions[h.versions.length-1]
  ·have e:BM b h=(AQ,false):=by simp[BM,OL,htop,h3,h4]
   simp -implicitDefEqProofs [h2,h3,hw1,hn1,hpos,h4,e,AQ]
  ·have h3':b.limit<AwY h.versions↔False:=by rw[htop];simpa using h4
   have b0:h.versions.length*8≤1099511627776:=by omega
   simp -implicitDefEqProofs [h2,h3,hw1,hn1,hpos,h4,b0]
   refine Ad (fun k s=>∃j v8 o6 o7 o8 o9,j+k=h.exts.length∧(h.exts.take j).any (lossy b)=false∧s=⟨[.undef,.undef,.ptr 0 0,.ptr 1 0,.ptr 2 0,.undef,.ptr 5 0,I j,v8,.undef,.undef,.undef,.undef,.undef],[.var ((Dy b).map (AL 1)),.var ((CP h).map (AL 1)),.var [.nil 1,.nil 2],.dead,.arr 1 0 h.versions.length (ints h.versions),.var [.arr 4,.arr 10],o6,o7,o8,o9,.arr 2 0 (kept (stays b) (h.exts.take j)).length ((kept (stays b) (h.exts.take j)).flatMap Bw)]⟩) ?_ (h.exts.length) _ ⟨0,.undef,.free,.free,.free,.free,by simp,by simp,by simp[kept]⟩
   intro k s ⟨j,v8,o6,o7,o8,o9,hj,hp,hs⟩
   subst hs
   by_cases hjn:j<h.exts.length
   ·have hw:IntKind.i64.wrap ((j:Int)+1)=(j+1:Nat):=by rw[Ab (by omega) (by omega)];simp
    have hbd:=Ns hx hjn
    have b1:h.exts[j].body.length*8≤1099511627776:=by omega
    have hkl:=Ve (p:=stays b) (l:=h.exts) (j:=j)
    have b2:((kept (stays b) (h.exts.take j)).length+1)*32≤1099511627776:=by omega
    have hst:=AkU (p:=lossy b) hjn
    rw[hp,Bool.false_or]at hst
    simp -implicitDefEqProofs [hjn]
    refine Aa (hH _ _ hb.2) ?_
    simp -implicitDefEqProofs
    refine Aa (hH _ _ hb.1) ?_
    by_cases g1:h.exts[j].tag∈b.drops
    ·have e:BM b h=(AQ,false):=by
      have:=YK (p:=lossy b) hjn (by simp[lossy,g1])
      simp[BM,OL,this]
     simp -implicitDefEqProofs [g1,e,AQ]
    by_cases g2:h.exts[j].tag∈b.strips
    ·have hl:lossy b h.exts[j]=false:=by simp[lossy,g1,g2]
     have hk:=VE (p:=stays b) hjn (by simp[stays,g2])
     by_cases g3:b.lists=true
     ·simp -implicitDefEqProofs [g1,g2,g3]
      exact⟨k-1,by omega,j+1,by omega,by simpa using hst.trans hl,by simp[hw],by rw[hk],by rw[hk]⟩
     ·simp -implicitDefEqProofs [g1,g2,g3]
      exact⟨k-1,by omega,j+1,by omega,by simpa using hst.trans hl,by simp[hw],by rw[hk],by rw[hk]⟩
    have hk:=RQ (p:=stays b) hjn (by simp[stays,g2])
    have hkl:=Jq (p:=stays b) hjn (by simp[stays,g2])
    by_cases g3:b.lists=true
    rotate_left
    ·have hl:lossy b h.exts[j]=false:=by simp[lossy,g1,g2,g3]
     simp -implicitDefEqProofs [g1,g2,g3,hjn,b1,b2]
     exact⟨k-1,by omega,j+1,by omega,by simpa using hst.trans hl,by simp[hw],by rw[hkl],by rw[←hk]⟩
    simp -implicitDefEqProofs [g1,g2,g3]
    refine Aa (hI _ _ _) ?_
    by_cases g4:Pv h.exts[j].tag 1 3
    ·have hl:lossy b h.exts[j]=false:=by simp[lossy,g1,g2,g3,g4]
     simp -implicitDefEqProofs [g4,hjn,b1,b2]
     exact⟨k-1,by omega,j+1,by omega,by simpa using hst.trans hl,by simp[hw],by rw[hkl],by rw[←hk]⟩
    ·have e:BM b h=(AQ,false):=by
      have:=YK (p:=lossy b) hjn (by simp[lossy,g1,g2,g3,g4])
      simp[BM,OL,this]
     simp -implicitDefEqProofs [g4,e,AQ]
   ·have hje:j=h.exts.length:=by omega
    have ea:h.exts.any (lossy b)=false:=any_none (by omega) hp
    have ek:=Vd (p:=stays b) (l:=h.exts) (j:=j) (by omega)
    have e:BM b h=(⟨h.versions,kept (stays b) h.exts⟩,true):=by simp only[BM,h1,h2,OL,ea,h3'];simp
    simp -implicitDefEqProofs [hjn,e,ek]
 ·have b0:h.versions.length*8≤1099511627776:=by omega
  simp -implicitDefEqProofs [h2,h3,b0]
  refine Ad (fun k s=>∃j v8 o6 o7 o8 o9,j+k=h.exts.length∧(h.exts.take j).any (lossy b)=false∧s=⟨[.undef,.undef,.ptr 0 0,.ptr 1 0,.ptr 2 0,.undef,.ptr 5 0,I j,v8,.undef,.undef,.undef,.undef,.undef],[.var ((Dy b).map (AL 1)),.var ((CP h).map (AL 1)),.var [.nil 1,.nil 2],.dead,.arr 1 0 h.versions.length (ints h.versions),.var [.arr 4,.arr 10],o6,o7,o8,o9,.arr 2 0 (kept (stays b) (h.exts.take j)).length ((kept (stays b) (h.exts.take j)).flatMap Bw)]⟩) ?_ (h.exts.length) _ ⟨0,.undef,.free,.free,.free,.free,by simp,by simp,by simp[kept]⟩
  intro k s ⟨j,v8,o6,o7,o8,o9,hj,hp,hs⟩
  subst hs
  by_cases hjn:j<h.exts.length
  ·have hw:IntKind.i64.wrap ((j:Int)+1)=(j+1:Nat):=by rw[Ab (by omega) (by omega)];simp
   have hbd:=Ns hx hjn
   have b1:h.exts[j].body.length*8≤1099511627776:=by omega
   have hkl:=Ve (p:=stays b) (l:=h.exts) (j:=j)
   have b2:((kept (stays b) (h.exts.take j)).length+1)*32≤1099511627776:=by omega
   have hst:=AkU (p:=lossy b) hjn
   rw[hp,Bool.false_or]at hst
   simp -implicitDefEqProofs [hjn]
   refine Aa (hH _ _ hb.2) ?_
   simp -implicitDefEqProofs
   refine Aa (hH _ _ hb.1) ?_
   by_cases g1:h.exts[j].tag∈b.drops
   ·have e:BM b h=(AQ,false):=by
     have:=YK (p:=lossy b) hjn (by simp[lossy,g1])
     simp[BM,OL,this]
    simp -implicitDefEqProofs [g1,e,AQ]
   by_cases g2:h.exts[j].tag∈b.strips
   ·have hl:lossy b h.exts[j]=false:=by simp[lossy,g1,g2]
    have hk:=VE (p:=stays b) hjn (by simp[stays,g2])
    by_cases g3:b.lists=true
    ·simp -implicitDefEqProofs [g1,g2,g3]
     exact⟨k-1,by omega,j+1,by omega,by simpa using hst.trans hl,by simp[hw],by rw[hk],by rw[hk]⟩
    ·simp -implicitDefEqProofs [g1,g2,g3]
     exact⟨k-1,by omega,j+1,by omega,by simpa using hst.trans hl,by simp[hw],by rw[hk],by rw[hk]⟩
   have hk:=RQ (p:=stays b) hjn (by simp[stays,g2])
   have hkl:=Jq (p:=stays b) hjn (by simp[stays,g2])
   by_cases g3:b.lists=true
   rotate_left
   ·have hl:lossy b h.exts[j]=false:=by simp[lossy,g1,g2,g3]
    simp -implicitDefEqProofs [g1,g2,g3,hjn,b1,b2]
    exact⟨k-1,by omega,j+1,by omega,by simpa using hst.trans hl,by simp[hw],by rw[hkl],by rw[←hk]⟩
   simp -implicitDefEqProofs [g1,g2,g3]
   refine Aa (hI _ _ _) ?_
   by_cases g4:Pv h.exts[j].tag 1 3
   ·have hl:lossy b h.exts[j]=false:=by simp[lossy,g1,g2,g3,g4]
    simp -implicitDefEqProofs [g4,hjn,b1,b2]
    exact⟨k-1,by omega,j+1,by omega,by simpa using hst.trans hl,by simp[hw],by rw[hkl],by rw[←hk]⟩
   ·have e:BM b h=(AQ,false):=by
     have:=YK (p:=lossy b) hjn (by simp[lossy,g1,g2,g3,g4])
     simp[BM,OL,this]
    simp -implicitDefEqProofs [g4,e,AQ]
  ·have hje:j=h.exts.length:=by omega
   have ea:h.exts.any (lossy b)=false:=any_none (by omega) hp
   have ek:=Vd (p:=stays b) (l:=h.exts) (j:=j) (by omega)
   have e:BM b h=(⟨h.versions,kept (stays b) h.exts⟩,true):=by simp only[BM,h1,h2,OL,ea,h3];simp
   simp -implicitDefEqProofs [hjn,e,ek]
abbrev ZA (R:Rel):Prop:=∀(t:Int) (b:Gu),JI b→R [I t,.rptr 1 (Dy b) 0] [] (B (stays b t)) []
theorem Awi (D:Dn) (hH:PX (D Bq)):ZA (Body D Ri):=by
 intro t b hb
 simp -implicitDefEqProofs
 refine Aa (hH b.strips t hb.2) ?_
 simp -implicitDefEqProofs [stays]
abbrev Ajk (R:Rel):Prop:=∀(x:Ext) (b:Gu),JI b→R [arg (Bw x),.rptr 1 (Dy b) 0] [] (B (lossy b x)) []
theorem ADg (D:Dn) (hH:PX (D Bq)) (hI:Qo (D BB)):Ajk (Body D Ue):=by
 intro x b hb
 simp -implicitDefEqProofs
 refine Aa (hH b.drops x.tag hb.1) ?_
 by_cases g1:x.tag∈b.drops
 ·simp -implicitDefEqProofs [g1,lossy]
 by_cases g3:b.lists=true
 rotate_left
 ·simp -implicitDefEqProofs [g1,g3,lossy]
 simp -implicitDefEqProofs [g1,g3]
 refine Aa (hH b.strips x.tag hb.2) ?_
 by_cases g2:x.tag∈b.strips
 ·simp -implicitDefEqProofs [g1,g2,g3,lossy]
 simp -implicitDefEqProofs [g2]
 refine Aa (hI _ _ _) ?_
 simp -implicitDefEqProofs [g1,g2,g3,lossy]
def AFk (xs:List Int):Int:=xs.foldl max (xs.headD 0)
abbrev AGX (R:Rel):Prop:=∀xs:List Int,0<xs.length→xs.length≤4194304→R [.sl 1 1 xs.length (ints xs)] [] (I (AFk xs)) []
abbrev Avp (R:Rel):Prop:=∀xs:List Int,xs.length≤4194304→R [.sl 1 1 xs.length (ints xs)] [] (.sl 0 1 xs.length (ints xs)) []
abbrev Aq7 (R:Rel):Prop:=∀(b:Gu) (h:Hello),JI b→hB h→Hg b=true→AU h.versions=true→R [arg (Dy b),arg (CP h)] [] (B (OL b h)) []
theorem Aer:∀(xs:List Int) (a:Int),(∀x,x∈xs→a≤x)→(∀i,(h:i+1<xs.length)→xs[i]≤xs[i+1])→xs.foldl max a=(xs.getLast?.getD a)
 | [],a,_,_=>rfl
 | x::r,a,h1,h2=>by
  have hx:=h1 x (by simp)
  have hr:∀y,y∈r→x≤y:=by
   intro y hy
   obtain⟨n,hn,rfl⟩:=List.getElem_of_mem hy
   have key:∀m,(hm:m<r.length)→x≤r[m]:=by
    intro m
    induction m with
    | zero=>intro hm;have:=h2 0 (by simp;omega);simpa using this
    | succ m ih=>
     intro hm
     have h3:=ih (by omega)
     have:=h2 (m+1) (by simp;omega)
     simp only[List.getElem_cons_succ]at this
     omega
   exact key n hn
  have ih:=Aer r x hr (fun i h=>by have:=h2 (i+1) (by simp;omega);simpa using this)
  simp only[List.foldl_cons]
  rw[show max a x=x by omega,ih]
  cases r with
  | nil=>rfl
  | cons y s=>simp[List.getLast?_cons_cons,List.getLast?_cons]
theorem Ark {xs:List Int} (h:AU xs=true) {i:Nat} (hi:i+1<xs.length):xs[i]<xs[i+1]:=by
 unfold AU KL at h
 simp only[Bool.and_eq_true,List.all_eq_true,List.mem_range]at h
 have:=(h.1 (i+1) hi).2
 rw[VH hi,show i+1-1=i by omega,VH (by omega)]at this
 simpa using this
theorem AAg {xs:List Int} (h:AU xs=true):AFk xs=AwY xs:=by
 cases xs with
 | nil=>rfl
 | cons x r=>
  unfold AFk AwY
  simp only[List.headD_cons,List.foldl_cons]
  rw[show max x x=x by omega,Aer r x ?_ ?_]
  ·cases r with
   | nil=>rfl
   | cons y s=>simp[List.getLastD_eq_getLast?,List.getLast?_cons_cons,List.getLast?_cons]
  ·intro y hy
   obtain⟨n,hn,rfl⟩:=List.getElem_of_mem hy
   induction n with
   | zero=>have:=Ark h (i:=0) (by simp;omega);simp at this;omega
   | succ m ih=>
    have h3:=ih (by omega) (List.getElem_mem _)
    have:=Ark h (i:=m+1) (by simp;omega)
    simp only[List.getElem_cons_succ]at this
    omega
  ·intro i hi
   have:=Ark h (i:=i+1) (by simp;omega)
   simp only[List.getElem_cons_succ]at this
   omega
theorem Af7 {b:Gu} {r:List V} (h:KD r):KD (.rptr 1 (Dy b) 0::r):=Ab4 (fun H=>by simp) (fun H=>by simp) h
theorem AF3 (D:Dn) (hM:AGX (D Wx)) (h1:Ajk (D U1)) (hC:Kt D (D Jf)):Aq7 (Body D Ya):=by
 intro b h hb hh hbox hver
 obtain⟨hv,hx⟩:=hh
 have hll:=hx.1
 have hpos:=XM hver
 have hlim:0≤b.limit:=by unfold Hg at hbox;simp only[Bool.and_eq_true,decide_eq_true_eq]at hbox;exact hbox.1.1.1.1.1
 by_cases h0:b.limit=0
 ·obtain⟨lim,dr,st,li⟩:=b
  dsimp only at h0
  subst h0
  simp -implicitDefEqProofs
  refine Aa (hC h.exts U1 _ (lossy ⟨0,dr,st,li⟩) (by unfold maxLen;omega) (Af7 (b:=⟨0,dr,st,li⟩) E5) (fun j hj=>h1 h.exts[j] ⟨0,dr,st,li⟩ hb)) ?_
  simp -implicitDefEqProofs [OL]
 ·have hn:0<b.limit:=by omega
  simp -implicitDefEqProofs [h0]
  refine Aa (hM h.versions hpos hv) ?_
  rw[AAg hver]
  by_cases h4:b.limit<AwY h.versions
  ·simp -implicitDefEqProofs [h0,h4,OL,hn]
  ·simp -implicitDefEqProofs [h0,h4]
   refine Aa (hC h.exts U1 _ (lossy b) (by unfold maxLen;omega) (Af7 E5) (fun j hj=>h1 h.exts[j] b hb)) ?_
   simp -implicitDefEqProofs [OL,hn,h4]
theorem Avm (D:Dn) (hX:R6 (D AgD)) (hE:Eo (D Im)) (hL:Aq7 (D As6)) (hC:Avp (D Us)) (h1':ZA (D Xx)) (hK:Ma D (D J3)):PG (Body D UA):=by
 intro b h hb hh
 simp -implicitDefEqProofs
 refine Aa (hX b hb) ?_
 by_cases h1:Hg b=true
 rotate_left
 ·simp -implicitDefEqProofs [h1,BM,AQ]
 simp -implicitDefEqProofs [h1]
 refine Aa (hE h hh) ?_
 by_cases h2:CB h=true
 rotate_left
 ·simp -implicitDefEqProofs [h2,BM,AQ]
 have hver:AU h.versions=true:=by unfold CB at h2;simp only[Bool.and_eq_true]at h2;exact h2.1
 simp -implicitDefEqProofs [h2]
 refine Aa (hL b h hb hh h1 hver) ?_
 by_cases h3:OL b h=true
 ·simp -implicitDefEqProofs [h3,BM,AQ]
 have e:BM b h=(⟨h.versions,kept (stays b) h.exts⟩,true):=by simp[BM,h1,h2,h3]
 simp -implicitDefEqProofs [h3]
 refine Aa (hC h.versions hh.1) ?_
 simp -implicitDefEqProofs
 refine Aa (hK h.exts Xx _ (stays b) hh.2 (Af7 E5) (Aa1 RN) (fun t=>h1' t b hb)) ?_
 simp -implicitDefEqProofs [e]
end Go.Eng.T
namespace Go.Eng.T
set_option maxRecDepth 20000
def Ik:List Gu→Hello→Hello×Bool
 | [],h=>(h,true)
 | b::r,h=>if(BM b h).2=true then Ik r (BM b h).1 else(AQ,false)
theorem AgL {path:List Gu} {j:Nat} {x:Hello} (h:j<path.length):Ik (path.drop j) x=if(BM path[j] x).2=true then Ik (path.drop (j+1)) (BM path[j] x).1 else(AQ,false):=by
 rw[List.drop_eq_getElem_cons h];rfl
theorem AjZ {path:List Gu} {j:Nat} {x:Hello} (h:path.length≤j):Ik (path.drop j) x=(x,true):=by rw[List.drop_eq_nil_of_le h];rfl
def Ba (path:List Gu) (h:Hello):Hello×Bool:=if decide (path.length≤4)&&CB h then Ik path h else(AQ,false)
theorem AkP:hB AQ:=⟨by simp[AQ],Ada⟩
theorem ArN {b:Gu} {h:Hello} (hh:hB h):hB (BM b h).1:=by
 unfold BM
 split
 ·exact⟨hh.1,VW hh.2 _⟩
 ·exact AkP
theorem Aw3 {b:Gu} {h:Hello} (hk:(BM b h).2=false):(BM b h).1=AQ:=by
 unfold BM at *
 split at hk
 ·cases hk
 ·rename_i hc;rw[if_neg hc]
abbrev FV (R:Rel):Prop:=∀(path:List Gu) (h:Hello),lnS JI path→hB h→R [.sl 1 4 path.length (path.flatMap Dy),arg (CP h)] [] (.tup [.agg (CP (Ba path h).1),B (Ba path h).2]) []
theorem Atu (D:Dn) (hE:Eo (D GJ)) (hC:KZ (D Yh)) (hP:PG (D Aos)):FV (Body D Tk):=by
 intro path h hb hh
 have hl:=hb.1
 unfold maxLen at hl
 by_cases h1:path.length≤4
 rotate_left
 ·have h1':(4:Int)<path.length:=by omega
  simp -implicitDefEqProofs [h1',h1,Ba,AQ]
 have h1':¬(4:Int)<path.length:=by omega
 simp -implicitDefEqProofs [h1']
 refine Aa (hE h hh) ?_
 by_cases h2:CB h=true
 rotate_left
 ·simp -implicitDefEqProofs [h2,h1,Ba,AQ]
 have e:Ba path h=Ik path h:=by simp[Ba,h1,h2]
 rw[e]
 simp -implicitDefEqProofs [h2]
 refine Aa (hC h hh) ?_
 simp -implicitDefEqProofs
 refine Ad (fun k s=>∃j x o5 o6 o7,j+k=path.length∧hB x∧Ik path h=Ik (path.drop j) x∧s=⟨[.sl 1 4 path.length (path.flatMap Dy),.undef,.undef,.ptr 1 0,.undef,.ptr 4 0,I j,.undef,.undef,.undef,.undef,.undef],[.var ((CP h).map (AL 1)),.var [.nil 1,.nil 2],.free,.free,.var [.arr 8,.arr 9],o5,o6,o7,.arr 1 0 x.versions.length (ints x.versions),.arr 2 0 x.exts.length (x.exts.flatMap Bw)]⟩) ?_ (path.length) _ ⟨0,h,.free,.free,.free,by simp,hh,by simp,by simp⟩
 intro k s ⟨j,x,o5,o6,o7,hj,hx,hg,hs⟩
 subst hs
 by_cases hjn:j<path.length
 ·have hw:IntKind.i64.wrap ((j:Int)+1)=(j+1:Nat):=by rw[Ab (by omega) (by omega)];simp
  rw[AgL hjn]at hg
  simp -implicitDefEqProofs [hjn]
  refine Aa (hP path[j] x (hb.2 j hjn) hx) ?_
  have hx':=ArN (b:=path[j]) hx
  generalize BM path[j] x=r at hg hx'
  by_cases hk:r.2=true
  ·rw[if_pos hk]at hg
   simp -implicitDefEqProofs [hk]
   refine⟨k-1,by omega,j+1,by omega,r.1,hx',?_⟩
   simp[hw,hg]
  ·rw[if_neg hk]at hg
   simp -implicitDefEqProofs [hk,hg,AQ]
 ·rw[AjZ (by omega)]at hg
  simp -implicitDefEqProofs [hjn,hg]
theorem Ath (D:Dn) (hE:Eo (D Im)) (hC:KZ (D Xn)) (hP:PG (D AnL)):FV (Body D SL):=by
 intro path h hb hh
 have hl:=hb.1
 unfold maxLen at hl
 simp -implicitDefEqProofs
 refine Aa (hE h hh) ?_
 by_cases h2:CB h=true
 rotate_left
 ·simp -implicitDefEqProofs [h2,Ba,AQ]
 by_cases h1:path.length≤4
 rotate_left
 ·have h1':(4:Int)<path.length:=by omega
  simp -implicitDefEqProofs [h2,h1',h1,Ba,AQ]
 have h1':¬(4:Int)<path.length:=by omega
 have e:Ba path h=Ik path h:=by simp[Ba,h1,h2]
 rw[e]
 simp -implicitDefEqProofs [h2,h1']
 refine Aa (hC h hh) ?_
 simp -implicitDefEqProofs
 refine Ad (fun k s=>∃j x ok o5 o6,j+k=path.length∧hB x∧Ik path h=(if ok=true then Ik (path.drop j) x else(AQ,false))∧(ok=false→x=AQ)∧s=⟨[.sl 1 4 path.length (path.flatMap Dy),.undef,.undef,.ptr 1 0,.undef,.ptr 4 0,B ok,I j,.undef,.undef],[.var ((CP h).map (AL 1)),.var [.nil 1,.nil 2],.free,.free,.var [.arr 7,.arr 8],o5,o6,.arr 1 0 x.versions.length (ints x.versions),.arr 2 0 x.exts.length (x.exts.flatMap Bw)]⟩) ?_ (path.length) _ ⟨0,h,true,.free,.free,by simp,hh,by simp,by simp,by simp⟩
 intro k s ⟨j,x,ok,o5,o6,hj,hx,hg,hno,hs⟩
 subst hs
 by_cases hok:ok=true
 rotate_left
 ·rw[if_neg hok]at hg
  have hok':ok=false:=by simpa using hok
  have hno':=hno hok'
  subst hok'
  subst hno'
  by_cases hjn:j<path.length
  ·simp -implicitDefEqProofs [hjn,hg,AQ]
  ·simp -implicitDefEqProofs [hjn,hg,AQ]
 rw[if_pos hok]at hg
 subst hok
 by_cases hjn:j<path.length
 ·have hw:IntKind.i64.wrap ((j:Int)+1)=(j+1:Nat):=by rw[Ab (by omega) (by omega)];simp
  rw[AgL hjn]at hg
  simp -implicitDefEqProofs [hjn]
  refine Aa (hP path[j] x (hb.2 j hjn) hx) ?_
  have hx':=ArN (b:=path[j]) hx
  have hno':=Aw3 (b:=path[j]) (h:=x)
  generalize BM path[j] x=r at hg hx' hno'
  simp -implicitDefEqProofs
  refine⟨k-1,by omega,j+1,by omega,r.1,hx',?_⟩
  simp[hw,hg,hno']
  by_cases hr:r.2=true
  ·right;exact⟨fun h=>by simp[hr]at h,hr⟩
  ·left;exact⟨fun h=>absurd h hr,hno' (by simpa using hr),by simpa using hr⟩
 ·rw[AjZ (by omega)]at hg
  simp -implicitDefEqProofs [hjn,hg]
def NJ (b:Gu):Bool:=decide (b.limit=0)&&(decide (b.drops.length=0)&&(decide (b.strips.length=0)&& !b.lists))
abbrev AcL (R:Rel):Prop:=∀b:Gu,JI b→R [arg (Dy b)] [] (B (NJ b)) []
theorem Aww (D:Dn):AcL (Body D UX):=by
 intro b hb
 by_cases g1:b.limit=0
 rotate_left
 ·simp -implicitDefEqProofs [g1,NJ,AdV]
 by_cases g2:b.drops.length=0
 rotate_left
 ·have g2':¬(b.drops.length:Int)=0:=by omega
  simp -implicitDefEqProofs [g1,g2,g2',NJ,AdV]
 have g2':(b.drops.length:Int)=0:=by omega
 by_cases g3:b.strips.length=0
 rotate_left
 ·have g3':¬(b.strips.length:Int)=0:=by omega
  simp -implicitDefEqProofs [g1,g2,g2',g3,g3',NJ,AdV]
 have g3':(b.strips.length:Int)=0:=by omega
 simp -implicitDefEqProofs [g1,g2,g2',g3,g3',NJ,AdV]
def Mq (path:List Gu):Bool:=decide (path.length≤4)&&path.all NJ
abbrev Rw (R:Rel):Prop:=∀path:List Gu,lnS JI path→R [.sl 1 4 path.length (path.flatMap Dy)] [] (B (Mq path)) []
theorem Vm {α:Type} {p:α→Bool} {xs:List α} {j:Nat} (h:j<xs.length) (hp:p xs[j]=false):xs.all p=false:=List.all_eq_false.2 ⟨_,List.getElem_mem h,by simp[hp]⟩
theorem Yw {α:Type} {p:α→Bool} {xs:List α} {j:Nat} (h:j<xs.length):(xs.take (j+1)).all p=((xs.take j).all p&&p xs[j]):=by
 have e:xs.take (j+1)=xs.take j++ [xs[j]]:=by simp
 rw[e,List.all_append];simp
theorem Ack {α:Type} {p:α→Bool} {xs:List α} {j:Nat} (h:xs.length≤j):(xs.take j).all p=xs.all p:=by rw[List.take_of_length_le h]
abbrev Pe (R:Rel):Prop:=∀b:Gu,JI b→R [arg (Dy b)] [] (B (!NJ b)) []
theorem Ala (D:Dn) (hC:AcL (D AnZ)):Pe (Body D KG):=by
 intro b hb
 simp -implicitDefEqProofs
 refine Aa (hC b hb) ?_
 simp -implicitDefEqProofs
theorem AlR (D:Dn) (h1:Pe (D Rm)) (hC:IK D (D Ff)):Rw (Body D Nw):=by
 intro path hb
 have hl:=hb.1
 by_cases g1:path.length≤4
 rotate_left
 ·have g1':¬(path.length:Int)≤4:=by omega
  simp -implicitDefEqProofs [g1',g1,Mq]
 have g1':(path.length:Int)≤4:=by omega
 simp -implicitDefEqProofs [g1']
 refine Aa (hC path Rm [] (fun b=> !NJ b) hl E5 (fun j hj=>h1 path[j] (hb.2 j hj))) ?_
 have e:(path.any fun b=> !NJ b)= !path.all NJ:=by rw[List.all_eq_not_any_not];simp
 rw[e]
 generalize hq:path.all NJ=q
 simp -implicitDefEqProofs [Mq,g1,hq]
abbrev Gr (R:Rel):Prop:=∀xs:List Int,xs.length≤4194304→R [.sl 1 1 xs.length (ints xs)] [] (.agg (CP ⟨xs,[]⟩)) []
theorem Am7 (D:Dn):Gr (Body D Oh):=by
 intro xs h
 have h1:xs.length*8≤1099511627776:=by omega
 simp -implicitDefEqProofs [h1]
theorem Anl (D:Dn):Gr (Body D NT):=by
 intro xs h
 have h1:xs.length*8≤1099511627776:=by omega
 simp -implicitDefEqProofs [h1]
def isOpen (path:List Gu) (vs:List Int):Bool:=AU vs&&(Ba path ⟨vs.take 1,[]⟩).2
abbrev Hz (R:Rel):Prop:=∀(path:List Gu) (vs:List Int),lnS JI path→vs.length≤4194304→R [.sl 1 4 path.length (path.flatMap Dy),.sl 1 1 vs.length (ints vs)] [] (B (isOpen path vs)) []
theorem AnQ (D:Dn) (hA:BA (D Di)) (hH:Gr (D VF)) (hP:FV (D ML)):Hz (Body D Oa):=by
 intro path vs hb hv
 simp -implicitDefEqProofs
 refine Aa (hA vs (by unfold maxLen;omega)) ?_
 by_cases h1:AU vs=true
 rotate_left
 ·simp -implicitDefEqProofs [h1,isOpen]
 have hpos:=XM h1
 have h1l:(1:Int)≤vs.length:=by omega
 have h1n:1≤vs.length:=by omega
 have hlen:(vs.take 1).length=1:=by simp;omega
 have hmin:min 1 vs.length=1:=by omega
 simp -implicitDefEqProofs [h1,h1l,h1n]
 have hh:=hH (vs.take 1) (by omega)
 rw[hlen]at hh
 refine Aa (hh) ?_
 simp -implicitDefEqProofs [hmin]
 have hp:=hP path ⟨vs.take 1,[]⟩ hb ⟨by simp;omega,Ada⟩
 simp -implicitDefEqProofs [hmin]at hp
 refine Aa (hp) ?_
 simp -implicitDefEqProofs [isOpen,h1]
theorem Aod (D:Dn) (hA:BA (D FX)) (hH:Gr (D VY)) (hP:FV (D MF)):Hz (Body D NR):=by
 intro path vs hb hv
 simp -implicitDefEqProofs
 refine Aa (hA vs (by unfold maxLen;omega)) ?_
 by_cases h1:AU vs=true
 rotate_left
 ·simp -implicitDefEqProofs [h1,isOpen]
 have hpos:=XM h1
 have h1l:(1:Int)≤vs.length:=by omega
 have h1n:1≤vs.length:=by omega
 have hlen:(vs.take 1).length=1:=by simp;omega
 have hmin:min 1 vs.length=1:=by omega
 simp -implicitDefEqProofs [h1,h1l,h1n]
 have hh:=hH (vs.take 1) (by omega)
 rw[hlen]at hh
 refine Aa (hh) ?_
 simp -implicitDefEqProofs [hmin]
 have hp:=hP path ⟨vs.take 1,[]⟩ hb ⟨by simp;omega,Ada⟩
 simp -implicitDefEqProofs [hmin]at hp
 refine Aa (hp) ?_
 simp -implicitDefEqProofs [isOpen,h1]
def K4 (path:List Gu) (v:Int):Bool:= !(Ba path ⟨[v],[]⟩).2
def Bo (path:List Gu) (vs:List Int):List Int:=if AU vs=true then vs.filter (K4 path)else []
abbrev GD (R:Rel):Prop:=∀(path:List Gu) (vs:List Int),lnS JI path→vs.length≤4194304→R [.sl 1 4 path.length (path.flatMap Dy),.sl 1 1 vs.length (ints vs)] [] (.sl 0 1 (Bo path vs).length (ints (Bo path vs))) []
theorem Avq (path:List Gu) (v:Int):isOpen path [v]= !K4 path v:=by
 unfold isOpen K4
 by_cases h:AU [v]=true
 ·simp[h]
 ·have:Ba path ⟨[v],[]⟩=(AQ,false):=by
   unfold Ba CB
   have h':AU [v]=false:=by simpa using h
   simp[h']
  simp[h,this]
theorem Ah3 (D:Dn) (hA:BA (D Di)) (hO:Hz (D Vb)):GD (Body D LZ):=by
 intro path vs hb hv
 by_cases h1:AU vs=true
 rotate_left
 ·have e:Bo path vs=[]:=by unfold Bo;rw[if_neg h1]
  rw[e]
  simp -implicitDefEqProofs
  refine Ad (fun k s=>s=⟨[.sl 1 4 path.length (path.flatMap Dy),.sl 1 1 vs.length (ints vs),.undef,.arr 3,I 0,.undef,.undef],[.free,.free,.free,.arr 1 0 0 (ints [])]⟩) ?_ 0 _ (by simp)
  intro k s hs
  subst hs
  by_cases h0:0<vs.length
  ·simp -implicitDefEqProofs [h0]
   refine Aa (hA vs (by unfold maxLen;omega)) ?_
   simp -implicitDefEqProofs [h1]
  ·simp -implicitDefEqProofs [h0]
 have e:Bo path vs=vs.filter (K4 path):=by unfold Bo;rw[if_pos h1]
 rw[e]
 simp -implicitDefEqProofs
 refine Ad (fun k s=>∃j o1 o2,j+k=vs.length∧s=⟨[.sl 1 4 path.length (path.flatMap Dy),.sl 1 1 vs.length (ints vs),.undef,.arr 3,I j,.undef,.undef],[.free,o1,o2,.arr 1 0 ((vs.take j).filter (K4 path)).length (ints ((vs.take j).filter (K4 path)))]⟩) ?_ (vs.length) _ ⟨0,.free,.free,by simp,by simp⟩
 intro k s ⟨j,o1,o2,hj,hs⟩
 subst hs
 by_cases hjn:j<vs.length
 ·have hw:IntKind.i64.wrap ((j:Int)+1)=(j+1:Nat):=by rw[Ab (by omega) (by omega)];simp
  have hst:=Kk (p:=K4 path) hjn
  have hfl:=M5 (p:=K4 path) (xs:=vs) (j:=j)
  have hb1:(((vs.take j).filter (K4 path)).length+1)*8≤1099511627776:=by omega
  have hw1:IntKind.i64.wrap ((j:Int)+1)=(j:Int)+1:=Ab (by omega) (by omega)
  have hj1:j+1≤vs.length:=by omega
  have hj2:(j:Int)+1≤vs.length:=by omega
  have hdt:(vs.drop j).take 1=[vs[j]]:=by rw[List.drop_eq_getElem_cons hjn];rfl
  simp -implicitDefEqProofs [hjn]
  refine Aa (hA vs (by unfold maxLen;omega)) ?_
  have hjj:(j:Int)≤(j:Int)+1:=by omega
  have h11:j+1-j=1:=by omega
  simp -implicitDefEqProofs [h1,hw1,hj1,hj2,hdt,hjn,hjj,h11]
  refine Aa (hO path [vs[j]] hb (by simp)) ?_
  rw[Avq]
  by_cases h2:K4 path vs[j]=true
  ·rw[if_pos h2]at hst
   simp -implicitDefEqProofs [h2,hjn,hb1]
   exact⟨k-1,by omega,j+1,by omega,by simp[hw],by rw[hst];simp,by rw[hst]⟩
  ·rw[if_neg h2,List.append_nil]at hst
   simp -implicitDefEqProofs [h2]
   exact⟨k-1,by omega,j+1,by omega,by simp[hw],by rw[hst],by rw[hst]⟩
 ·have e2:=K7 (p:=K4 path) (xs:=vs) (j:=j) (by omega)
  simp -implicitDefEqProofs [hjn,e2]
theorem Aik (D:Dn) (hA:BA (D FX)) (hH:Gr (D VY)) (hP:FV (D MF)):GD (Body D LP):=by
 intro path vs hb hv
 simp -implicitDefEqProofs
 refine Aa (hA vs (by unfold maxLen;omega)) ?_
 by_cases h1:AU vs=true
 rotate_left
 ·have e:Bo path vs=[]:=by unfold Bo;rw[if_neg h1]
  rw[e]
  simp -implicitDefEqProofs [h1]
 have e:Bo path vs=vs.filter (K4 path):=by unfold Bo;rw[if_pos h1]
 rw[e]
 simp -implicitDefEqProofs [h1]
 refine Ad (fun k s=>∃j v4 o1 o2 o3 o4 o5 o6 o7 o8,j+k=vs.length∧s=⟨[.sl 1 4 path.length (path.flatMap Dy),.undef,.undef,.arr 9,v4,.undef,.undef,.sl 1 1 vs.length (ints vs),I vs.length,I j,.undef,.undef],[.free,o1,o2,o3,o4,o5,o6,o7,o8,.arr 1 0 ((vs.take j).filter (K4 path)).length (ints ((vs.take j).filter (K4 path)))]⟩) ?_ (vs.length) _ ⟨0,.undef,.free,.free,.free,.free,.free,.free,.free,.free,by simp,by simp⟩
 intro k s ⟨j,v4,o1,o2,o3,o4,o5,o6,o7,o8,hj,hs⟩
 subst hs
 by_cases hjn:j<vs.length
 ·have hw:IntKind.i64.wrap ((j:Int)+1)=(j+1:Nat):=by rw[Ab (by omega) (by omega)];simp
  have hst:=Kk (p:=K4 path) hjn
  have hfl:=M5 (p:=K4 path) (xs:=vs) (j:=j)
  have hb1:(((vs.take j).filter (K4 path)).length+1)*8≤1099511627776:=by omega
  simp -implicitDefEqProofs [hjn]
  refine Aa (hH [vs[j]] (by simp)) ?_
  simp -implicitDefEqProofs
  refine Aa (hP path ⟨[vs[j]],[]⟩ hb ⟨by simp,Ada⟩) ?_
  have hq:K4 path vs[j]= !(Ba path ⟨[vs[j]],[]⟩).2:=rfl
  generalize Ba path ⟨[vs[j]],[]⟩=r at hq
  by_cases h2:r.2=true
  ·have h3:¬K4 path vs[j]=true:=by rw[hq,h2];simp
   rw[if_neg h3,List.append_nil]at hst
   simp -implicitDefEqProofs [h2]
   exact⟨k-1,by omega,j+1,by omega,by simp[hw],by rw[hst],by rw[hst]⟩
  ·have h3:K4 path vs[j]=true:=by rw[hq];simpa using h2
   rw[if_pos h3]at hst
   simp -implicitDefEqProofs [h2,hb1]
   exact⟨k-1,by omega,j+1,by omega,by simp[hw],by rw[hst];simp,by rw[hst]⟩
 ·have e2:=K7 (p:=K4 path) (xs:=vs) (j:=j) (by omega)
  simp -implicitDefEqProofs [hjn,e2]
end Go.Eng.T
namespace Go.Eng.T
set_option maxRecDepth 20000
set_option maxHeartbeats 1000000
def XG (l:List Int):Int:=l.foldl (fun a v=>if v>a then v else a) 0
theorem Ayp {x:Int}:∀(l:List Int) (a:Int),(∀y,y∈l→y<x)→a<x→l.foldl (fun a v=>if v>a then v else a) a<x
 | [],a,_,h=>h
 | y::l,a,hl,h=>by
  simp only[List.foldl_cons]
  refine Ayp l _ (fun z hz=>hl z (by simp[hz])) ?_
  split
  ·exact hl y (by simp)
  ·exact h
theorem AmD {xs:List Int}:∀(n:Nat),KL xs n=true→∀i j,i<j→j<n→xs.getD i 0<xs.getD j 0
 | 0,_,i,j,_,h=>by omega
 | n+1,hr,i,j,hij,hj=>by
  rw[TS]at hr
  simp only[Bool.and_eq_true,Bool.or_eq_true,decide_eq_true_eq]at hr
  obtain⟨h1,_,h3⟩:=hr
  by_cases hjn:j<n
  ·exact AmD n h1 i j hij hjn
  ·obtain rfl:j=n:=by omega
   have h4:xs.getD (j-1) 0<xs.getD j 0:=by
    rcases h3 with h3 | h3
    ·omega
    ·exact h3
   by_cases he:i=j-1
   ·rw[he];exact h4
   ·have:=AmD j h1 i (j-1) (by omega) (by omega)
    omega
theorem ACk {xs:List Int} {n i:Nat} (h:KL xs n=true) (hi:i<n):InV (xs.getD i 0) 1 9:=by
 unfold KL at h
 have:=List.all_eq_true.1 h i (List.mem_range.2 hi)
 simp at this
 exact⟨this.1.1,this.1.2⟩
theorem Apy {xs:List Int} (h:AU xs=true):xs.Pairwise (· < ·):=by
 unfold AU at h
 simp only[Bool.and_eq_true,decide_eq_true_eq]at h
 rw[List.pairwise_iff_getElem]
 intro i j hi hj hij
 have:=AmD _ h.1 i j hij hj
 rwa [VH hi,VH hj]at this
theorem AxI {xs:List Int} (h:AU xs=true):∀x,x∈xs→InV x 1 9:=by
 unfold AU at h
 simp only[Bool.and_eq_true,decide_eq_true_eq]at h
 intro x hx
 obtain⟨i,hi,rfl⟩:=List.getElem_of_mem hx
 have:=ACk h.1 hi
 rwa [VH hi]at this
theorem AzM {l:List Int} (hp:l.Pairwise (· < ·)) (h0:∀x,x∈l→0<x) (hn:0<l.length):XG l=l[l.length-1]:=by
 obtain⟨l',x,rfl⟩:∃l' x,l=l'++ [x]:=by
  rcases List.eq_nil_or_concat l with h | ⟨l',x,h⟩
  ·rw[h]at hn;simp at hn
  ·exact⟨l',x,by simpa using h⟩
 rw[List.pairwise_append]at hp
 have h1:XG l' <x:=Ayp l' 0 (fun y hy=>hp.2.2 y hy x (by simp)) (h0 x (by simp))
 have h2:XG (l'++ [x])=if x>XG l' then x else XG l':=by unfold XG;rw[List.foldl_append];rfl
 rw[h2,if_pos h1]
 simp
def Be (a b:List Int):Int:=if AU a=true∧AU b=true then XG (common a b)else 0
abbrev DY (R:Rel):Prop:=∀a b:List Int,a.length≤4194304→b.length≤4194304→R [.sl 1 1 a.length (ints a),.sl 1 1 b.length (ints b)] [] (I (Be a b)) []
theorem ml {n:Nat} (h:n≤4194304):n≤maxLen:=by unfold maxLen;omega
theorem AnE (D:Dn) (hC:Mi (D AjV)) (hA:BA (D Di)):DY (Body D NU):=by
 intro a b ha hb
 have hcl:(common a b).length≤4194304:=Nat.le_trans (List.length_filter_le _ _) ha
 simp -implicitDefEqProofs
 refine Aa (hC a b ha (ml hb)) ?_
 simp -implicitDefEqProofs
 refine Aa (hA a (ml ha)) ?_
 by_cases h1:AU a=true
 rotate_left
 ·simp -implicitDefEqProofs [h1,Be]
 simp -implicitDefEqProofs [h1]
 refine Aa (hA b (ml hb)) ?_
 by_cases h2:AU b=true
 rotate_left
 ·simp -implicitDefEqProofs [h2,Be]
 have e:Be a b=XG (common a b):=by unfold Be;rw[if_pos ⟨h1,h2⟩]
 rw[e]
 by_cases h3:common a b=[]
 ·simp -implicitDefEqProofs [h2,h3,XG]
 have h4:0<(common a b).length:=List.length_pos_iff.2 h3
 have h5:=AzM (l:=common a b) ((Apy h1).filter _) (fun x hx=>by have:=AxI h1 x (List.mem_filter.1 hx).1;omega) h4
 rw[h5]
 generalize common a b=l at h3 h4 hcl
 have hw:IntKind.i64.wrap ((l.length:Int)-1)=((l.length-1:Nat):Int):=by rw[Ab (by omega) (by omega)];omega
 have h6:l.length-1<l.length:=by omega
 simp -implicitDefEqProofs [h2,h3,hw,h6,h4]
theorem Anh (D:Dn) (hC:Mi (D Alz)) (hA:BA (D FX)):DY (Body D O4):=by
 intro a b ha hb
 have hcl:(common a b).length≤4194304:=Nat.le_trans (List.length_filter_le _ _) ha
 simp -implicitDefEqProofs
 refine Aa (hA a (ml ha)) ?_
 by_cases h1:AU a=true
 rotate_left
 ·simp -implicitDefEqProofs [h1,Be]
 simp -implicitDefEqProofs [h1]
 refine Aa (hA b (ml hb)) ?_
 by_cases h2:AU b=true
 rotate_left
 ·simp -implicitDefEqProofs [h2,Be]
 have e:Be a b=XG (common a b):=by unfold Be;rw[if_pos ⟨h1,h2⟩]
 rw[e]
 simp -implicitDefEqProofs [h2]
 refine Aa (hC a b ha (ml hb)) ?_
 generalize common a b=l at hcl
 simp -implicitDefEqProofs
 refine Ad (fun k s=>∃j,j+k=l.length∧s=⟨[.undef,.undef,.undef,.sc (.int .i64 (XG (l.take j))),.undef,.undef,.arr 0,.sc (.int .i64 l.length),.sc (.int .i64 j),.undef],[.arr 1 0 l.length (ints l)]⟩) ?_ l.length _ ⟨0,by simp,by simp[XG]⟩
 intro k s ⟨j,hj,hs⟩
 subst hs
 by_cases hjn:j<l.length
 ·have hw:IntKind.i64.wrap ((j:Int)+1)=(j+1:Nat):=by rw[Ab (by omega) (by omega)];simp
  have hst:XG (l.take (j+1))=if l[j]>XG (l.take j)then l[j]else XG (l.take j):=by
   have e:l.take (j+1)=l.take j++ [l[j]]:=by simp
   unfold XG
   rw[e,List.foldl_append];rfl
  simp -implicitDefEqProofs [hjn]
  exact⟨k-1,by omega,j+1,by omega,by rw[hst],by simp[hw]⟩
 ·have hx:l.take j=l:=List.take_of_length_le (by omega)
  simp -implicitDefEqProofs [hjn,hx]
end Go.Eng.T
namespace Go.Eng.T
set_option maxRecDepth 20000
def Tt {α:Type} (p:α→Bool):List α→Nat→List Int
 | [],_=> []
 | x::r,i=>if p x then(i:Int)::Tt p r (i+1)else Tt p r (i+1)
theorem Agt {α:Type} {p:α→Bool} (b:List α):∀(a:List α) (i:Nat),Tt p (a++b) i=Tt p a i++Tt p b (i+a.length)
 | [],i=>by simp[Tt]
 | x::r,i=>by
  have:=Agt (p:=p) b r (i+1)
  simp only[List.cons_append,Tt,this,List.length_cons]
  rw[show i+1+r.length=i+(r.length+1)by omega]
  by_cases h:p x=true<;>simp[h]
theorem AAw {α:Type} {p:α→Bool} {xs:List α} {j:Nat} (h:j<xs.length):Tt p (xs.take (j+1)) 0=Tt p (xs.take j) 0++(if p xs[j]then [(j:Int)]else []):=by
 have e:xs.take (j+1)=xs.take j++ [xs[j]]:=by simp
 rw[e,Agt]
 have hl:(xs.take j).length=j:=by simp;omega
 by_cases hp:p xs[j]=true<;>simp[Tt,hp,hl]
theorem ABU {α:Type} {p:α→Bool} {xs:List α} {j:Nat} (h:xs.length≤j):Tt p (xs.take j) 0=Tt p xs 0:=by rw[List.take_of_length_le h]
theorem As2 {α:Type} {p:α→Bool}:∀(xs:List α) (i:Nat),(Tt p xs i).length≤xs.length
 | [],_=>by simp[Tt]
 | x::r,i=>by
  have:=As2 (p:=p) r (i+1)
  by_cases h:p x=true
  ·simp[Tt,h];omega
  ·simp[Tt,h];omega
theorem AwN {w:World} (h:Af w≤4194304) {j:Nat} (hj:j<w.ends.length):w.ends[j].versions.length≤maxLen:=by
 have:=size_at (f:=Ar) hj
 have e:Ar w.ends[j]=w.ends[j].versions.length+w.ends[j].tags.length+Cu JS w.ends[j].path:=rfl
 unfold Af at h
 unfold maxLen;omega
end Go.Eng.T
namespace Go.Eng.T
set_option maxRecDepth 20000
set_option maxHeartbeats 1000000
def JB (xs:List (List Int)):List V:=xs.map fun l=> .sl 0 1 l.length (ints l)
@[simp high] theorem AIk (xs:List (List Int)):(JB xs).length=xs.length:=by simp[JB]
@[simp] theorem AIa:JB []=[]:=rfl
@[simp] theorem AIt (xs:List (List Int)):(JB xs).map (AL 0)=JB xs:=by simp[JB,Function.comp_def,AL]
@[simp high] theorem AIM {xs:List (List Int)} {j:Nat} (h:j<xs.length):(JB xs)[j]? =some (V.sl 0 1 xs[j].length (ints xs[j])):=by simp[JB,h]
theorem Awp (xs:List (List Int)) (l:List Int) {n:Nat} (h:n=l.length):JB xs++ [.sl 0 1 n (ints l)]=JB (xs++ [l]):=by subst h;simp[JB]
def G5 (xs:List (List Int)):Nat:=Cu List.length xs
theorem TB {xs:List (List Int)} {j:Nat} (h:j<xs.length):xs[j].length≤G5 xs:=size_at (f:=List.length) h
theorem JM {xs:List (List Int)}:xs.length≤G5 xs:=K6
def EQ (w:World):List (List Int):=w.ends.map (·.versions)
abbrev K8 (R:Rel):Prop:=∀w:World,Af w≤4194304→R [arg (Bn w)] [] (.sl 0 1 (EQ w).length (JB (EQ w))) []
theorem Akx {xs:List Aq} {j:Nat} (h:j<xs.length):JB ((xs.map (·.versions)).take j)++ [.sl 0 1 xs[j].versions.length (ints xs[j].versions)]=JB ((xs.map (·.versions)).take (j+1)):=by
 have h':j<(xs.map (·.versions)).length:=by simpa using h
 have e:(xs.map (·.versions)).take (j+1)=(xs.map (·.versions)).take j++ [xs[j].versions]:=by
  have:=List.take_append_getElem h'
  rw[←this];simp
 rw[e,Awp _ _ rfl]
theorem AvC (D:Dn):K8 (Body D UQ):=by
 intro w h
 have hl:=ER h
 have hres:EQ w=w.ends.map (·.versions):=rfl
 rw[hres]
 simp -implicitDefEqProofs
 refine Ad (fun k s=>∃j o2 o3 o4 o5,j+k=w.ends.length∧s=⟨[.undef,.ptr 0 0,.undef,.arr 6,.sc (.int .i64 j),.undef],[.var ((Bn w).map (AL 1)),.free,o2,o3,o4,o5,.arr 1 0 j (JB ((w.ends.take j).map (·.versions)))]⟩) ?_ w.ends.length _ ⟨0,.free,.free,.free,.free,by simp,by simp⟩
 intro k s ⟨j,o2,o3,o4,o5,hj,hs⟩
 subst hs
 by_cases hjn:j<w.ends.length
 ·have hw:IntKind.i64.wrap ((j:Int)+1)=(j+1:Nat):=by rw[Ab (by omega) (by omega)];simp
  have hst:=Akx hjn
  have hvl:=AwN h hjn
  unfold maxLen at hvl
  have h2:w.ends[j].versions.length≤4194304:=by
   have:=size_at (f:=Ar) hjn
   have e:Ar w.ends[j]=w.ends[j].versions.length+w.ends[j].tags.length+Cu JS w.ends[j].path:=rfl
   unfold Af at h
   omega
  have hb:w.ends[j].versions.length*8≤1099511627776:=by omega
  have hb2:(j+1)*24≤1099511627776:=by omega
  have hjl:min j w.ends.length=j:=by omega
  simp -implicitDefEqProofs [hjn,hb,hb2,hjl]
  exact⟨k-1,by omega,j+1,by omega,by simp[hw],rfl,hst⟩
 ·obtain rfl:j=w.ends.length:=by omega
  simp -implicitDefEqProofs
theorem Axm (D:Dn):K8 (Body D UD):=by
 intro w h
 have hl:=ER h
 have hres:EQ w=w.ends.map (·.versions):=rfl
 rw[hres]
 simp -implicitDefEqProofs
 refine Ad (fun k s=>∃j o2 o3 o4 o5 o6,j+k=w.ends.length∧s=⟨[.undef,.undef,.undef,.arr 7,.undef,.sl 1 4 w.ends.length (w.ends.flatMap Ak),.sc (.int .i64 w.ends.length),.sc (.int .i64 j),.undef],[.var ((Bn w).map (AL 1)),.free,o2,o3,o4,o5,o6,.arr 1 0 j (JB ((w.ends.take j).map (·.versions)))]⟩) ?_ w.ends.length _ ⟨0,.free,.free,.free,.free,.free,by simp,by simp⟩
 intro k s ⟨j,o2,o3,o4,o5,o6,hj,hs⟩
 subst hs
 by_cases hjn:j<w.ends.length
 ·have hw:IntKind.i64.wrap ((j:Int)+1)=(j+1:Nat):=by rw[Ab (by omega) (by omega)];simp
  have hst:=Akx hjn
  have h2:w.ends[j].versions.length≤4194304:=by
   have:=size_at (f:=Ar) hjn
   have e:Ar w.ends[j]=w.ends[j].versions.length+w.ends[j].tags.length+Cu JS w.ends[j].path:=rfl
   unfold Af at h
   omega
  have hb:w.ends[j].versions.length*8≤1099511627776:=by omega
  have hb2:(j+1)*24≤1099511627776:=by omega
  have hjl:min j w.ends.length=j:=by omega
  simp -implicitDefEqProofs [hjn,hb,hb2,hjl]
  exact⟨k-1,by omega,j+1,by omega,by simp[hw],rfl,hst⟩
 ·obtain rfl:j=w.ends.length:=by omega
  simp -implicitDefEqProofs
abbrev H8 (ls:List (List Int)):V:= .sl 1 1 ls.length (JB ls)
def Alf (s:List Int) (v:Int) (l:List Int):Bool:=decide (Be s l=v)
def Aao (s:List Int) (ls:List (List Int)) (v:Int):Nat:=if 1≤v then cntF (Alf s v) ls else 0
abbrev ArE (R:Rel):Prop:=∀(s:List Int) (ls:List (List Int)) (v:Int),s.length≤4194304→G5 ls≤4194304→R [.sl 1 1 s.length (ints s),H8 ls,I v] [] (I (Aao s ls v)) []
theorem ABL (D:Dn) (hB:DY (D Iy)):ArE (Body D Yn):=by
 intro s ls v hs0 hl
 have hll:=JM (xs:=ls)
 by_cases hv:1≤v
 rotate_left
 ·have e:Aao s ls v=0:=by unfold Aao;rw[if_neg hv]
  simp -implicitDefEqProofs [e]
  refine Ad (fun k st=>st=⟨[.sl 1 1 s.length (ints s),H8 ls,I v,.undef,.sc (.int .i64 0),.sc (.int .i64 0),.undef,.undef],[]⟩) ?_ 0 _ (by simp)
  intro k st hs
  subst hs
  by_cases h0:0<ls.length
  ·have h0':(0:Int)<ls.length:=by omega
   simp -implicitDefEqProofs [hv,h0,h0']
  ·have h0':¬(0:Int)<ls.length:=by omega
   simp -implicitDefEqProofs [hv,h0,h0']
 have e:Aao s ls v=cntF (Alf s v) ls:=by unfold Aao;rw[if_pos hv]
 rw[e]
 simp -implicitDefEqProofs
 refine Ad (fun k st=>∃j,j+k=ls.length∧st=⟨[.sl 1 1 s.length (ints s),H8 ls,I v,.undef,.sc (.int .i64 (cntF (Alf s v) (ls.take j))),.sc (.int .i64 j),.undef,.undef],[]⟩) ?_ ls.length _ ⟨0,by simp,by simp[cntF]⟩
 intro k st ⟨j,hj,hs⟩
 subst hs
 by_cases hjn:j<ls.length
 ·have hw:IntKind.i64.wrap ((j:Int)+1)=(j+1:Nat):=by rw[Ab (by omega) (by omega)];simp
  have hc:=AcN (f:=Alf s v) hjn
  have hcl:=AjX (f:=Alf s v) (xs:=ls) (j:=j) (by omega)
  have hw2:IntKind.i64.wrap ((cntF (Alf s v) (ls.take j):Int)+1)=(cntF (Alf s v) (ls.take j)+1:Nat):=by rw[Ab (by omega) (by omega)];simp
  have hra:=TB hjn
  simp -implicitDefEqProofs [hjn,hv]
  refine Aa (hB s _ hs0 (by omega)) ?_
  by_cases he:Be s ls[j]=v
  ·simp -implicitDefEqProofs [he]
   exact⟨k-1,by omega,j+1,by omega,by rw[hc,hw2];simp[Alf,he],by simp[hw]⟩
  ·simp -implicitDefEqProofs [he]
   exact⟨k-1,by omega,j+1,by omega,by rw[hc];simp[Alf,he],by simp[hw]⟩
 ·have hx:=Ajj (f:=Alf s v) (xs:=ls) (j:=j) (by omega)
  simp -implicitDefEqProofs [hjn,hx]
def Ali (s:List Int) (v:Int) (l:List Int):Bool:=decide (0<Be s l)&&decide (Be (EJ s v) l=0)
def PU (s:List Int) (ls:List (List Int)) (v:Int):List Int:=Tt (Ali s v) ls 0
abbrev Zi (R:Rel):Prop:=∀(s:List Int) (ls:List (List Int)) (v:Int),s.length≤4194304→G5 ls≤4194304→R [.sl 1 1 s.length (ints s),H8 ls,I v] [] (.sl 0 1 (PU s ls v).length (ints (PU s ls v))) []
theorem Atd (D:Dn) (hB:DY (D Iy)) (hW:Md (D OJ)):Zi (Body D RV):=by
 intro s ls v hs0 hl
 have hll:=JM (xs:=ls)
 have hres:PU s ls v=Tt (Ali s v) ls 0:=rfl
 have hwl:=List.length_filter_le (fun x=> !decide (x=v)) s
 rw[hres]
 simp -implicitDefEqProofs
 refine Aa (hW s v hs0) ?_
 simp -implicitDefEqProofs
 refine Ad (fun k st=>∃j o2 o3,j+k=ls.length∧st=⟨[.sl 1 1 s.length (ints s),H8 ls,.undef,.undef,.arr 4,.arr 1,.sc (.int .i64 j),.undef,.undef],[.free,.arr 1 0 (EJ s v).length (ints (EJ s v)),o2,o3,.arr 1 0 (Tt (Ali s v) (ls.take j) 0).length (ints (Tt (Ali s v) (ls.take j) 0))]⟩) ?_ ls.length _ ⟨0,.free,.free,by simp,by simp[Tt]⟩
 intro k st ⟨j,o2,o3,hj,hs⟩
 subst hs
 by_cases hjn:j<ls.length
 ·have hw:IntKind.i64.wrap ((j:Int)+1)=(j+1:Nat):=by rw[Ab (by omega) (by omega)];simp
  have hst:=AAw (p:=Ali s v) hjn
  have hln:=As2 (p:=Ali s v) (ls.take j) 0
  have htl:(ls.take j).length≤j:=by simp;omega
  have hb:((Tt (Ali s v) (ls.take j) 0).length+1)*8≤1099511627776:=by omega
  have hra:=TB hjn
  simp -implicitDefEqProofs [hjn]
  refine Aa (hB s _ hs0 (by omega)) ?_
  by_cases h1:0<Be s ls[j]
  rotate_left
  ·rw[if_neg (by simp[Ali,h1]),List.append_nil]at hst
   simp -implicitDefEqProofs [h1]
   exact⟨k-1,by omega,j+1,by omega,by simp[hw],by rw[hst],by rw[hst]⟩
  simp -implicitDefEqProofs [h1,hjn]
  refine Aa (hB (EJ s v) ls[j] (by unfold EJ;omega) (by omega)) ?_
  by_cases h2:Be (EJ s v) ls[j]=0
  ·rw[if_pos (by simp[Ali,h1,h2])]at hst
   simp -implicitDefEqProofs [h2,hb]
   exact⟨k-1,by omega,j+1,by omega,by simp[hw],by rw[hst];simp,by rw[hst]⟩
  ·rw[if_neg (by simp[Ali,h1,h2]),List.append_nil]at hst
   simp -implicitDefEqProofs [h2]
   exact⟨k-1,by omega,j+1,by omega,by simp[hw],by rw[hst],by rw[hst]⟩
 ·have hx:=ABU (p:=Ali s v) (xs:=ls) (j:=j) (by omega)
  simp -implicitDefEqProofs [hjn,hx]
theorem ACr (s:List Int) (ls:List (List Int)) (v:Int):Aao s ls v≤ls.length:=by
 unfold Aao
 split
 ·have:=AjX (f:=Alf s v) (xs:=ls) (j:=ls.length) (by omega)
  rwa [List.take_length]at this
 ·omega
def Ku (s:List Int) (ls:List (List Int)) (v pm:Int):Bool:=AU s&&(decide (v∈s)&&(!decide (s.length=1)&&(decide (InV pm 0 1000)&&(decide (PU s ls v=[])&&decide (1000*(Aao s ls v:Int)≤pm*(ls.length:Int))))))
abbrev WY (R:Rel):Prop:=∀(s:List Int) (ls:List (List Int)) (v pm:Int),s.length≤4194304→G5 ls≤4194304→R [.sl 1 1 s.length (ints s),H8 ls,I v,I pm] [] (B (Ku s ls v pm)) []
theorem Aqd (D:Dn) (hA:BA (D Di)) (hH:PX (D GA)) (hI:Qo (D BF)) (hS:Zi (D Alm)) (hU:ArE (D Auj)):WY (Body D QL):=by
 intro s ls v pm hs0 hl
 have hll:=JM (xs:=ls)
 simp -implicitDefEqProofs
 refine Aa (hA s (by unfold maxLen;omega)) ?_
 by_cases h1:AU s=true
 rotate_left
 ·simp -implicitDefEqProofs [h1,Ku]
 simp -implicitDefEqProofs [h1]
 refine Aa (hH s v (by unfold maxLen;omega)) ?_
 by_cases h2:v∈s
 rotate_left
 ·simp -implicitDefEqProofs [h1,h2,Ku]
 by_cases h3:s.length=1
 ·have h3':(s.length:Int)=1:=by omega
  simp -implicitDefEqProofs [h1,h2,h3,h3',Ku]
 have h3':¬(s.length:Int)=1:=by omega
 simp -implicitDefEqProofs [h1,h2,h3,h3']
 refine Aa (hI _ _ _) ?_
 by_cases h4:InV pm 0 1000
 rotate_left
 ·simp -implicitDefEqProofs [h1,h2,h3,h3',h4,Ku]
 simp -implicitDefEqProofs [h3,h3',h4]
 refine Aa (hS s ls v hs0 hl) ?_
 by_cases h5:(PU s ls v).length=0
 rotate_left
 ·have h5':¬((PU s ls v).length:Int)=0:=by omega
  have h5'':¬PU s ls v=[]:=by intro h;rw[h]at h5;simp at h5
  simp -implicitDefEqProofs [h5,h5',h5'',h1,h2,h3,h4,Ku]
 have h5'':PU s ls v=[]:=List.eq_nil_of_length_eq_zero h5
 simp -implicitDefEqProofs [h5'']
 refine Aa (hU s ls v hs0 hl) ?_
 have hu:=ACr s ls v
 have w1:IntKind.i64.wrap (1000*(Aao s ls v:Int))=1000*(Aao s ls v:Int):=Ab (by omega) (by omega)
 have w2:IntKind.i64.wrap (pm*(ls.length:Int))=pm*(ls.length:Int):=by
  have a1:0≤pm*(ls.length:Int):=Int.mul_nonneg h4.1 (by omega)
  have a2:pm*(ls.length:Int)≤1000*4194304:=Int.mul_le_mul h4.2 (by omega) (by omega) (by omega)
  exact Ab (by omega) (by omega)
 simp -implicitDefEqProofs [h1,h2,h3,h3',h4,h5'',w1,w2,Ku]
def OP (s:List Int) (ls:List (List Int)) (v pm:Int):List Int×Bool:=if Ku s ls v pm=true then(EJ s v,true)else(s,false)
abbrev Nr (R:Rel):Prop:=∀(s:List Int) (ls:List (List Int)) (v pm:Int),s.length≤4194304→G5 ls≤4194304→R [.sl 1 1 s.length (ints s),H8 ls,I v,I pm] [] (.tup [.sl 0 1 (OP s ls v pm).1.length (ints (OP s ls v pm).1),B (OP s ls v pm).2]) []
theorem AfN (D:Dn) (hM:WY (D Ahv)) (hW:Md (D OJ)):Nr (Body D KN):=by
 intro s ls v pm hs0 hl
 have hll:=JM (xs:=ls)
 have hb:s.length*8≤1099511627776:=by omega
 simp -implicitDefEqProofs
 refine Aa (hM s ls v pm hs0 hl) ?_
 by_cases h1:Ku s ls v pm=true
 rotate_left
 ·have e:OP s ls v pm=(s,false):=by unfold OP;rw[if_neg h1]
  simp -implicitDefEqProofs [h1,e,hb]
 have e:OP s ls v pm=(EJ s v,true):=by unfold OP;rw[if_pos h1]
 simp -implicitDefEqProofs [h1,e]
 refine Aa (hW s v hs0) ?_
 simp -implicitDefEqProofs [h1,e]
theorem AtZ {w:World} (h:Af w≤4194304):w.server.length≤4194304:=by unfold Af at h;omega
theorem AHe (xs:List Aq):G5 (xs.map (·.versions))≤Cu Ar xs:=by
 induction xs with
 | nil=>simp[G5,Cu]
 | cons x r ih=>
  simp only[G5,Cu,List.map_cons,List.sum_cons,List.length_cons,Ar,List.length_map]at *
  omega
theorem Aee {w:World} (h:Af w≤4194304):G5 (EQ w)≤4194304:=by
 have:=AHe w.ends
 unfold Af at h
 unfold EQ
 omega
def CU (w:World) (v pm:Int):World×Bool:=if(OP w.server (EQ w) v pm).2=true∧¬v=w.rollout.version then({w with server:=(OP w.server (EQ w) v pm).1},true)else(w,false)
abbrev TA (R:Rel):Prop:=∀(w:World) (v pm:Int),Af w≤4194304→R [arg (Bn w),I v,I pm] [] (.tup [.agg (Bn (CU w v pm).1),B (CU w v pm).2]) []
theorem AnJ (D:Dn) (hC:Ga (D Db)) (hL:K8 (D Aat)) (hR:Nr (D ZQ)):TA (Body D Oo):=by
 intro w v pm h
 simp -implicitDefEqProofs
 refine Aa (hC w h) ?_
 simp -implicitDefEqProofs
 refine Aa (hL w h) ?_
 simp -implicitDefEqProofs
 refine Aa (hR w.server (EQ w) v pm (AtZ h) (Aee h)) ?_
 by_cases h1:(OP w.server (EQ w) v pm).2=true
 rotate_left
 ·have e:CU w v pm=(w,false):=by unfold CU;rw[if_neg (by simp[h1])]
  simp -implicitDefEqProofs [h1,e]
 by_cases h2:v=w.rollout.version
 ·subst h2
  have e:CU w w.rollout.version pm=(w,false):=by unfold CU;rw[if_neg (by simp)]
  simp -implicitDefEqProofs [h1,e]
 have e:CU w v pm=({w with server:=(OP w.server (EQ w) v pm).1},true):=by unfold CU;rw[if_pos ⟨h1,h2⟩]
 simp -implicitDefEqProofs [h1,h2,e]
end Go.Eng.T
namespace Go.Eng.T
set_option maxRecDepth 20000
set_option maxHeartbeats 1000000
def leftOf (a b:List Int):List Int:=a.filter fun v=> !decide (v∈b)
abbrev Xz (R:Rel):Prop:=∀a b:List Int,a.length≤4194304→b.length≤4194304→R [.sl 1 1 a.length (ints a),.sl 1 1 b.length (ints b)] [] (.sl 0 1 (leftOf a b).length (ints (leftOf a b))) []
theorem AzJ (D:Dn) (hH:PX (D GA)):Xz (Body D U5):=by
 intro a b ha hb
 have hres:leftOf a b=a.filter (fun v=> !decide (v∈b)):=rfl
 rw[hres]
 simp -implicitDefEqProofs
 refine Ad (fun k s=>∃j o1 o2,j+k=a.length∧s=⟨[.sl 1 1 a.length (ints a),.sl 1 1 b.length (ints b),.undef,.arr 3,I j,.undef,.undef],[.free,o1,o2,.arr 1 0 ((a.take j).filter (fun v=> !decide (v∈b))).length (ints ((a.take j).filter (fun v=> !decide (v∈b))))]⟩) ?_ (a.length) _ ⟨0,.free,.free,by simp,by simp⟩
 intro k s ⟨j,o1,o2,hj,hs⟩
 subst hs
 by_cases hjn:j<a.length
 ·have hw:IntKind.i64.wrap ((j:Int)+1)=(j+1:Nat):=by rw[Ab (by omega) (by omega)];simp
  have hst:=Kk (p:=fun v=> !decide (v∈b)) hjn
  have hln:=M5 (p:=fun v=> !decide (v∈b)) (xs:=a) (j:=j)
  have hbd:(((a.take j).filter (fun v=> !decide (v∈b))).length+1)*8≤1099511627776:=by omega
  simp -implicitDefEqProofs [hjn]
  refine Aa (hH b _ (by unfold maxLen;omega)) ?_
  by_cases h1:a[j]∈b
  ·rw[if_neg (by simp[h1]),List.append_nil]at hst
   simp -implicitDefEqProofs [h1,hjn,hbd]
   exact⟨k-1,by omega,j+1,by omega,by simp[hw],by rw[hst],by rw[hst]⟩
  ·rw[if_pos (by simp[h1])]at hst
   simp -implicitDefEqProofs [h1,hjn,hbd]
   exact⟨k-1,by omega,j+1,by omega,by simp[hw],by rw[hst];simp,by rw[hst]⟩
 ·have hx:=K7 (p:=fun v=> !decide (v∈b)) (xs:=a) (j:=j) (by omega)
  simp -implicitDefEqProofs [hjn,hx]
theorem AvO (D:Dn) (hH:PX (D Bq)):Xz (Body D UG):=by
 intro a b ha hb
 have hres:leftOf a b=a.filter (fun v=> !decide (v∈b)):=rfl
 rw[hres]
 simp -implicitDefEqProofs
 refine Ad (fun k s=>∃j v4 o1 o2,j+k=a.length∧s=⟨[.undef,.sl 1 1 b.length (ints b),.undef,.arr 3,v4,.sl 1 1 a.length (ints a),I a.length,I j,.undef,.undef],[.free,o1,o2,.arr 1 0 ((a.take j).filter (fun v=> !decide (v∈b))).length (ints ((a.take j).filter (fun v=> !decide (v∈b))))]⟩) ?_ (a.length) _ ⟨0,.undef,.free,.free,by simp,by simp⟩
 intro k s ⟨j,v4,o1,o2,hj,hs⟩
 subst hs
 by_cases hjn:j<a.length
 ·have hw:IntKind.i64.wrap ((j:Int)+1)=(j+1:Nat):=by rw[Ab (by omega) (by omega)];simp
  have hst:=Kk (p:=fun v=> !decide (v∈b)) hjn
  have hln:=M5 (p:=fun v=> !decide (v∈b)) (xs:=a) (j:=j)
  have hbd:(((a.take j).filter (fun v=> !decide (v∈b))).length+1)*8≤1099511627776:=by omega
  simp -implicitDefEqProofs [hjn]
  refine Aa (hH b _ (by unfold maxLen;omega)) ?_
  by_cases h1:a[j]∈b
  ·rw[if_neg (by simp[h1]),List.append_nil]at hst
   simp -implicitDefEqProofs [h1,hjn,hbd]
   exact⟨k-1,by omega,j+1,by omega,by simp[hw],by rw[hst],by rw[hst]⟩
  ·rw[if_pos (by simp[h1])]at hst
   simp -implicitDefEqProofs [h1,hjn,hbd]
   exact⟨k-1,by omega,j+1,by omega,by simp[hw],by rw[hst];simp,by rw[hst]⟩
 ·have hx:=K7 (p:=fun v=> !decide (v∈b)) (xs:=a) (j:=j) (by omega)
  simp -implicitDefEqProofs [hjn,hx]
def upTo (xs:List Int) (i:Nat):Bool:=decide (i=0)||decide (xs.getD (i-1) 0<xs.getD i 0)
def Gf (xs:List Int):Bool:=PY (upTo xs) xs.length&&allIn xs 0 255
abbrev M6 (R:Rel):Prop:=∀xs:List Int,xs.length≤maxLen→R [.sl 1 1 xs.length (ints xs)] [] (B (Gf xs)) []
theorem AgM {xs:List Int} {j:Nat} (h:j<xs.length) (hn:¬Pv xs[j] 0 255):Gf xs=false:=by unfold Gf;rw[AsW h hn];simp
theorem X3 {xs:List Int} {j:Nat} (h:j<xs.length) (hn:upTo xs j=false):Gf xs=false:=by unfold Gf;rw[AjP h hn];simp
theorem ZH (xs:List Int):upTo xs 0=true:=by simp[upTo]
theorem WQ {xs:List Int} {j:Nat} (h0:¬j=0) (h:j<xs.length) (h':j-1<xs.length):upTo xs j=decide (xs[j-1]<xs[j]):=by
 unfold upTo
 rw[VH h,VH h']
 simp[h0]
theorem Awt (D:Dn) (hI:Qo (D BF)):M6 (Body D UO):=by
 intro xs hl
 unfold maxLen at hl
 simp -implicitDefEqProofs
 refine Ad (fun k s=>∃j,j+k=xs.length∧allIn (xs.take j) 0 255=true∧PY (upTo xs) j=true∧s=⟨[.sl 1 1 xs.length (ints xs),.undef,I j,.undef,.undef],[]⟩) ?_ (xs.length) _ ⟨0,by simp,by simp[allIn],by simp,by simp⟩
 intro k s ⟨j,hj,hp,hr,hs⟩
 subst hs
 by_cases hjn:j<xs.length
 ·have hw:IntKind.i64.wrap ((j:Int)+1)=(j+1:Nat):=by rw[Ab (by omega) (by omega)];simp
  have hst:=JX (upTo xs) j
  rw[hr,Bool.true_and]at hst
  simp -implicitDefEqProofs [hjn]
  refine Aa (hI _ _ _) ?_
  by_cases h1:Pv xs[j] 0 255
  rotate_left
  ·simp -implicitDefEqProofs [h1,AgM hjn h1]
  by_cases h0:j=0
  ·subst h0
   simp -implicitDefEqProofs [h1]
   exact⟨k-1,by omega,1,by omega,by rw[R3 hjn,hp];simp[h1],by rw[hst,ZH],by simpa using hw⟩
  ·have hw2:IntKind.i64.wrap ((j:Int)-1)=((j-1:Nat):Int):=by rw[Ab (by omega) (by omega)];omega
   have h2:(0:Int)<j:=by omega
   have h2':0<j:=by omega
   have h3:j-1<xs.length:=by omega
   rw[WQ h0 hjn h3]at hst
   by_cases h4:xs[j-1]<xs[j]
   ·have h4':¬xs[j]≤xs[j-1]:=by omega
    simp -implicitDefEqProofs [h1,h2,h2',hw2,h3,hjn,h4']
    exact⟨k-1,by omega,j+1,by omega,by rw[R3 hjn,hp];simp[h1],by rw[hst];simp[h4],by simp[hw]⟩
   ·have e:=X3 hjn (by rw[WQ h0 hjn h3];simp[h4])
    have h4':xs[j]≤xs[j-1]:=by omega
    simp -implicitDefEqProofs [h1,h2,h2',hw2,h3,hjn,h4',e]
 ·obtain rfl:j=xs.length:=by omega
  have e:Gf xs=true:=by unfold Gf;rw[hr,Af1 (by omega) hp];rfl
  simp -implicitDefEqProofs [e]
theorem AwE (D:Dn) (hN:JN (D Ky)):M6 (Body D UF):=by
 intro xs hl
 have hl0:=hl
 unfold maxLen at hl
 simp -implicitDefEqProofs
 refine Ad (fun k s=>∃j,j+k=xs.length∧PY (upTo xs) j=true∧s=⟨[.sl 1 1 xs.length (ints xs),.undef,.undef,.undef,.sl 1 1 xs.length (ints xs),I xs.length,I j,.undef,.undef],[]⟩) ?_ (xs.length) _ ⟨0,by simp,by simp,by simp⟩
 intro k s ⟨j,hj,hr,hs⟩
 subst hs
 by_cases hjn:j<xs.length
 ·have hw:IntKind.i64.wrap ((j:Int)+1)=(j+1:Nat):=by rw[Ab (by omega) (by omega)];simp
  have hst:=JX (upTo xs) j
  rw[hr,Bool.true_and]at hst
  by_cases h0:j=0
  ·subst h0
   simp -implicitDefEqProofs [hjn]
   exact⟨k-1,by omega,1,by omega,by rw[hst,ZH],by simpa using hw⟩
  ·have hw2:IntKind.i64.wrap ((j:Int)-1)=((j-1:Nat):Int):=by rw[Ab (by omega) (by omega)];omega
   have h2:(0:Int)<j:=by omega
   have h2':0<j:=by omega
   have h3:j-1<xs.length:=by omega
   rw[WQ h0 hjn h3]at hst
   by_cases h4:xs[j-1]<xs[j]
   ·have h4':¬xs[j]≤xs[j-1]:=by omega
    simp -implicitDefEqProofs [h2,h2',hw2,h3,hjn,h4']
    exact⟨k-1,by omega,j+1,by omega,by rw[hst];simp[h4],by simp[hw]⟩
   ·have e:=X3 hjn (by rw[WQ h0 hjn h3];simp[h4])
    have h4':xs[j]≤xs[j-1]:=by omega
    simp -implicitDefEqProofs [h2,h2',hw2,h3,hjn,h4',e]
 ·obtain rfl:j=xs.length:=by omega
  have e:Gf xs=allIn xs 0 255:=by unfold Gf;rw[hr];rfl
  simp -implicitDefEqProofs
  refine Aa (hN xs _ _ hl0) ?_
  simp -implicitDefEqProofs [e]
def Ay (e:Aq):Bool:=AU e.versions&&(decide (e.tags.length≤5)&&(Gf e.tags&&(!e.tags.any Au&&(decide (e.path.length≤4)&&(e.path.all Hg&&decide (Pv e.cls 0 5))))))
abbrev Fb (R:Rel):Prop:=∀e:Aq,AkQ e→R [arg (Ak e)] [] (B (Ay e)) []
theorem Am6 (D:Dn) (hI:Qo (D BF)) (hR:FL (D Ou)) (hX:R6 (D Yr)) (hA:BA (D Di)):Fb (Body D OO):=by
 intro e hl
 obtain⟨hl1,hl2,hl3⟩:=hl
 have hl4:=hl3.1
 have hl2':=hl2
 unfold Uo at hl2
 unfold maxLen at hl2 hl4
 simp -implicitDefEqProofs
 refine Ad (fun k s=>∃j,j+k=e.tags.length∧allIn (e.tags.take j) 0 255=true∧PY (upTo e.tags) j=true∧(e.tags.take j).any Au=false∧s=⟨[.undef,.ptr 0 0,.undef,I j,.undef,.undef,.undef,.undef,.undef],[.var ((Ak e).map (AL 1))]⟩) ?_ (e.tags.length) _ ⟨0,by simp,by simp[allIn],by simp,by simp,by simp⟩
 intro k s ⟨j,hj,hp,hr,hq,hs⟩
 subst hs
 by_cases hjn:j<e.tags.length
 ·have hw:IntKind.i64.wrap ((j:Int)+1)=(j+1:Nat):=by rw[Ab (by omega) (by omega)];simp
  have hst:=JX (upTo e.tags) j
  rw[hr,Bool.true_and]at hst
  have hsq:=AkU (p:=Au) hjn
  rw[hq,Bool.false_or]at hsq
  simp -implicitDefEqProofs [hjn]
  refine Aa (hI _ _ _) ?_
  by_cases h1:Pv e.tags[j] 0 255
  rotate_left
  ·have e0:Ay e=false:=by unfold Ay;rw[AgM hjn h1];simp
   simp -implicitDefEqProofs [h1,e0]
  simp -implicitDefEqProofs [h1,hjn]
  refine Aa (hR _) ?_
  by_cases h5:Au e.tags[j]=true
  ·have e0:Ay e=false:=by unfold Ay;rw[YK hjn h5];simp
   simp -implicitDefEqProofs [h5,e0]
  have h5':Au e.tags[j]=false:=by simpa using h5
  by_cases h0:j=0
  ·subst h0
   simp -implicitDefEqProofs [h1,h5']
   exact⟨k-1,by omega,1,by omega,by rw[R3 hjn,hp];simp[h1],by rw[hst,ZH],by simpa using hsq.trans h5',by simpa using hw⟩
  ·have hw2:IntKind.i64.wrap ((j:Int)-1)=((j-1:Nat):Int):=by rw[Ab (by omega) (by omega)];omega
   have h2:(0:Int)<j:=by omega
   have h2':0<j:=by omega
   have h3:j-1<e.tags.length:=by omega
   rw[WQ h0 hjn h3]at hst
   by_cases h4:e.tags[j-1]<e.tags[j]
   ·have h4':¬e.tags[j]≤e.tags[j-1]:=by omega
    simp -implicitDefEqProofs [h1,h5',h2,h2',hw2,h3,hjn,h4']
    exact⟨k-1,by omega,j+1,by omega,by rw[R3 hjn,hp];simp[h1],by rw[hst];simp[h4],by simpa using hsq.trans h5',by simp[hw]⟩
   ·have e0:Ay e=false:=by unfold Ay;rw[X3 hjn (by rw[WQ h0 hjn h3];simp[h4])];simp
    have h4':e.tags[j]≤e.tags[j-1]:=by omega
    simp -implicitDefEqProofs [h1,h5',h2,h2',hw2,h3,hjn,h4',e0]
 obtain rfl:j=e.tags.length:=by omega
 have et:Gf e.tags=true:=by unfold Gf;rw[hr,Af1 (by omega) hp];rfl
 have er:e.tags.any Au=false:=any_none (by omega) hq
 simp -implicitDefEqProofs
 refine Ad (fun k s=>∃j,j+k=e.path.length∧(e.path.take j).all Hg=true∧s=⟨[.undef,.ptr 0 0,.undef,.undef,I j,.undef,.undef,.undef,.undef],[.var ((Ak e).map (AL 1))]⟩) ?_ (e.path.length) _ ⟨0,by simp,by simp,by simp⟩
 intro k s ⟨j,hj,hb,hs⟩
 subst hs
 by_cases hjn:j<e.path.length
 ·have hw:IntKind.i64.wrap ((j:Int)+1)=(j+1:Nat):=by rw[Ab (by omega) (by omega)];simp
  have hst:=Yw (p:=Hg) hjn
  rw[hb,Bool.true_and]at hst
  simp -implicitDefEqProofs [hjn]
  refine Aa (hX _ (hl3.2 j hjn)) ?_
  by_cases h1:Hg e.path[j]=true
  ·simp -implicitDefEqProofs [h1]
   exact⟨k-1,by omega,j+1,by omega,by simpa using hst.trans h1,by simp[hw]⟩
  ·have e0:Ay e=false:=by unfold Ay;rw[Vm hjn (by simpa using h1)];simp
   simp -implicitDefEqProofs [h1,e0]
 have eb:e.path.all Hg=true:=by rw[←Ack (j:=j) (by omega),hb]
 simp -implicitDefEqProofs [hjn]
 refine Aa (hA _ hl1) ?_
 by_cases g1:AU e.versions=true
 rotate_left
 ·simp -implicitDefEqProofs [g1,Ay]
 by_cases g2:e.tags.length≤5
 rotate_left
 ·have g2':¬(e.tags.length:Int)≤5:=by omega
  simp -implicitDefEqProofs [g1,g2,g2',Ay]
 have g2':(e.tags.length:Int)≤5:=by omega
 by_cases g3:e.path.length≤4
 rotate_left
 ·have g3':¬(e.path.length:Int)≤4:=by omega
  simp -implicitDefEqProofs [g1,g2,g2',g3,g3',Ay]
 have g3':(e.path.length:Int)≤4:=by omega
 simp -implicitDefEqProofs [g1,g2',g3']
 refine Aa (hI _ _ _) ?_
 have ee:Ay e=decide (Pv e.cls 0 5):=by unfold Ay;rw[et,er,eb];simp[g1,g2,g3]
 simp -implicitDefEqProofs [ee]
abbrev Ru (R:Rel):Prop:=∀b:Gu,JI b→R [arg (Dy b)] [] (B (!Hg b)) []
theorem AoE (D:Dn) (hX:R6 (D AgD)):Ru (Body D LM):=by
 intro b hb
 simp -implicitDefEqProofs
 refine Aa (hX b hb) ?_
 simp -implicitDefEqProofs
theorem Ajc {α:Type} (p:α→Bool) (xs:List α):(xs.any fun x=> !p x)= !xs.all p:=by rw[List.all_eq_not_any_not];simp
theorem Aof (D:Dn) (hA:BA (D FX)) (hT:M6 (D Aas)) (hH:Mt (D NS)) (h1:Ru (D R4)) (hC:IK D (D Ff)) (hI:Qo (D BB)):Fb (Body D OT):=by
 intro e hl
 obtain⟨hl1,hl2,hl3⟩:=hl
 simp -implicitDefEqProofs
 refine Aa (hA _ hl1) ?_
 by_cases g1:AU e.versions=true
 rotate_left
 ·simp -implicitDefEqProofs [g1,Ay]
 by_cases g2:e.tags.length≤5
 rotate_left
 ·have g2':¬(e.tags.length:Int)≤5:=by omega
  simp -implicitDefEqProofs [g1,g2,g2',Ay]
 have g2':(e.tags.length:Int)≤5:=by omega
 simp -implicitDefEqProofs [g1,g2']
 refine Aa (hT _ hl2) ?_
 by_cases g4:Gf e.tags=true
 rotate_left
 ·simp -implicitDefEqProofs [g4,Ay]
 simp -implicitDefEqProofs [g4]
 refine Aa (hH _ hl2) ?_
 by_cases g5:e.tags.any Au=true
 ·have e0:Ay e=false:=by unfold Ay;rw[g5];simp
  generalize e.tags.any Au=q at g5
  subst g5
  simp -implicitDefEqProofs [e0]
 have g5':e.tags.any Au=false:=by simpa using g5
 have ee:Ay e=(decide (e.path.length≤4)&&(e.path.all Hg&&decide (Pv e.cls 0 5))):=by unfold Ay;rw[g5',g1,g4];simp[g2]
 rw[ee]
 generalize e.tags.any Au=q at g5'
 subst g5'
 by_cases g3:e.path.length≤4
 rotate_left
 ·have g3':¬(e.path.length:Int)≤4:=by omega
  simp -implicitDefEqProofs [g3,g3']
 have g3':(e.path.length:Int)≤4:=by omega
 simp -implicitDefEqProofs [g3,g3']
 refine Aa (hC e.path R4 [] (fun b=> !Hg b) hl3.1 E5 (fun j hj=>h1 e.path[j] (hl3.2 j hj))) ?_
 rw[Ajc]
 generalize e.path.all Hg=q
 by_cases g6:q=true
 rotate_left
 ·simp -implicitDefEqProofs [g6]
 simp -implicitDefEqProofs [g6]
 refine Aa (hI _ _ _) ?_
 simp -implicitDefEqProofs
theorem AHC {b:Gu} (h:JS b≤4194304):JI b:=by
 unfold JS at h
 exact⟨by unfold Uo maxLen;omega,by unfold Uo maxLen;omega⟩
theorem AFB {p:List Gu} (h:Cu JS p≤4194304):lnS JI p:=
 ⟨by have:=K6 (f:=JS) (xs:=p);unfold maxLen;omega,fun j hj=>AHC (by have:=size_at (f:=JS) hj;omega)⟩
theorem Abs {e:Aq} (h:Ar e≤4194304):AkQ e:=by
 unfold Ar at h
 exact⟨by unfold Uo maxLen;omega,by unfold Uo maxLen;omega,AFB (by omega)⟩
theorem Vw {w:World} (h:Af w≤4194304) {n:Nat} (hn:n<w.ends.length):Ar w.ends[n]≤4194304:=by
 have:=size_at (f:=Ar) hn
 have:=(Ms h).2.2.1
 omega
theorem Zf {e:Aq} (h:Ar e≤4194304):e.versions.length≤4194304:=by unfold Ar at h;omega
theorem Auv (path:List Gu) (vs:List Int):(Bo path vs).length≤vs.length:=by
 unfold Bo
 split
 ·exact List.length_filter_le _ _
 ·simp
end Go.Eng.T
namespace Go.Eng.T
set_option maxRecDepth 20000
set_option maxHeartbeats 2000000
abbrev Np (D:Dn) (R:Rel):Prop:=∀(xs:List (List Int)) (g:Nat) (caps:List V) (p:List Int→Bool),xs.length≤maxLen→KD caps→(∀(j:Nat) (h:j<xs.length),D g (.sl 1 1 xs[j].length (ints xs[j])::caps) [] (B (p xs[j])) [])→R [H8 xs,.fn g caps] [] (I (GR p xs 0)) []
theorem AiV (D:Dn):Np D (Body D EM):=by
 intro xs g caps p hl hc hp
 unfold maxLen at hl
 simp -implicitDefEqProofs
 refine Ad (fun k s=>∃j,j+k=xs.length∧GR p xs 0=GR p (xs.drop j) j∧s=⟨[H8 xs,.fn g caps,.undef,.undef,I xs.length,I j,.undef,.undef],[]⟩) ?_ (xs.length) _ ⟨0,by simp,by simp,by simp⟩
 intro k s ⟨j,hj,hi,hs⟩
 subst hs
 by_cases hjn:j<xs.length
 ·have hw:IntKind.i64.wrap ((j:Int)+1)=(j+1:Nat):=by rw[Ab (by omega) (by omega)];simp
  rw[OM hjn]at hi
  simp -implicitDefEqProofs [hjn,hc.1,hc.2.1]
  refine Aa (hp j hjn) ?_
  by_cases he:p xs[j]=true
  ·rw[if_pos he]at hi
   simp -implicitDefEqProofs [he,hi]
  ·rw[if_neg he]at hi
   simp -implicitDefEqProofs [he]
   exact⟨k-1,by omega,j+1,by omega,by simpa using hi,by simp[hw]⟩
 ·rw[Ta (by omega)]at hi
  simp -implicitDefEqProofs [hjn,hi]
abbrev Ig (D:Dn) (R:Rel):Prop:=∀(xs:List (List Int)) (g:Nat) (caps:List V) (p:List Int→Bool),xs.length≤maxLen→KD caps→(∀(j:Nat) (h:j<xs.length),D g (.sl 1 1 xs[j].length (ints xs[j])::caps) [] (B (p xs[j])) [])→R [H8 xs,.fn g caps] [] (B (xs.any p)) []
theorem Aa8 (D:Dn) (hI:Np D (D NH)):Ig D (Body D Em):=by
 intro xs g caps p hl hc hp
 simp -implicitDefEqProofs [hc.2.2]
 refine Aa (hI xs g caps p hl hc hp) ?_
 have e:decide (0≤GR p xs 0)=xs.any p:=by rw[Bool.eq_iff_iff];simp only[decide_eq_true_eq];rw[RH (by omega)]
 simp -implicitDefEqProofs [e]
def reach (s l:List Int):Bool:= !decide (Be s l=0)
def F6 (s:List Int) (ls:List (List Int)):Bool:=AU s&&ls.all (reach s)
abbrev Kz (R:Rel):Prop:=∀(s:List Int) (ls:List (List Int)),s.length≤4194304→G5 ls≤4194304→R [.sl 1 1 s.length (ints s),H8 ls] [] (B (F6 s ls)) []
theorem AsN (D:Dn) (hB:DY (D Iy)) (hA:BA (D Di)):Kz (Body D Tc):=by
 intro sv ls hs hl
 have hll:=JM (xs:=ls)
 simp -implicitDefEqProofs
 refine Ad (fun k s=>∃j,j+k=ls.length∧(ls.take j).all (reach sv)=true∧s=⟨[.sl 1 1 sv.length (ints sv),H8 ls,.undef,I j,.undef,.undef],[]⟩) ?_ (ls.length) _ ⟨0,by simp,by simp,by simp⟩
 intro k s ⟨j,hj,hp,hs⟩
 subst hs
 by_cases hjn:j<ls.length
 ·have hw:IntKind.i64.wrap ((j:Int)+1)=(j+1:Nat):=by rw[Ab (by omega) (by omega)];simp
  have hst:=Yw (p:=reach sv) hjn
  rw[hp,Bool.true_and]at hst
  have hra:=TB hjn
  simp -implicitDefEqProofs [hjn]
  refine Aa (hB sv _ hs (by omega)) ?_
  by_cases h1:Be sv ls[j]=0
  ·have e:F6 sv ls=false:=by unfold F6;rw[Vm hjn (by simp[reach,h1])];simp
   simp -implicitDefEqProofs [h1,e,AdV]
  ·simp -implicitDefEqProofs [h1,AdV]
   exact⟨k-1,by omega,j+1,by omega,by simpa using hst.trans (show reach sv ls[j]=true by simp[reach,h1]),by simp[hw]⟩
 ·have e:F6 sv ls=AU sv:=by unfold F6;rw[←Ack (j:=j) (by omega),hp];simp
  simp -implicitDefEqProofs [hjn]
  refine Aa (hA sv (by unfold maxLen;omega)) ?_
  simp -implicitDefEqProofs [e]
abbrev Ws (R:Rel):Prop:=∀(s l:List Int),s.length≤4194304→l.length≤4194304→R [.sl 1 1 l.length (ints l),.rptr 1 [.sl 0 1 s.length (ints s)] 0] [] (B (!reach s l)) []
theorem AuF (D:Dn) (hB:DY (D Om)):Ws (Body D OH):=by
 intro s l hs hl
 simp -implicitDefEqProofs
 refine Aa (hB s l hs hl) ?_
 simp -implicitDefEqProofs [reach,AdV]
theorem Atg (D:Dn) (hA:BA (D FX)) (h1':Ws (D VT)) (hC:Ig D (D GI)):Kz (Body D R7):=by
 intro s ls hs hl
 have hll:=JM (xs:=ls)
 simp -implicitDefEqProofs
 refine Aa (hA s (by unfold maxLen;omega)) ?_
 by_cases h1:AU s=true
 rotate_left
 ·simp -implicitDefEqProofs [h1,F6]
 simp -implicitDefEqProofs [h1]
 refine Aa (hC ls VT _ (fun l=> !reach s l) (by unfold maxLen;omega) (Aba E5) (fun j hj=>h1' s ls[j] hs (by have:=TB hj;omega))) ?_
 rw[Ajc]
 generalize hq:ls.all (reach s)=q
 simp -implicitDefEqProofs [F6,h1,hq]
def Nc (k:Int):Bool:=decide (Pv k 1 2147483646)
abbrev Jm (R:Rel):Prop:=∀k:Int,R [I k] [] (B (Nc k)) []
theorem Atl (D:Dn) (hI:Qo (D BF)):Jm (Body D OD):=by
 intro k
 simp -implicitDefEqProofs
 refine Aa (hI _ _ _) ?_
 simp -implicitDefEqProofs [Nc]
theorem AuL (D:Dn) (hI:Qo (D BB)):Jm (Body D OG):=by
 intro k
 simp -implicitDefEqProofs
 refine Aa (hI _ _ _) ?_
 simp -implicitDefEqProofs [Nc]
def JZ (w:World):Bool:=F6 w.server (EQ w)&&(Gf w.tags&&Nc w.key)
def Jk (w:World):Bool:=A8 w.rollout&&(decide (w.rollout.version∈w.server)&&(decide (Pv w.least 1 100)&&decide (Pv w.percent 0 100)))
def Gb (w:World):Bool:=decide (w.stage.length≤60)&&(decide (w.log.length≤60)&&(decide (Pv w.now 0 10000)&&(decide (Pv w.hurt 0 w.log.length)&&decide (Pv w.reached 0 w.rollout.stages.length))))
def BH (w:World):Bool:=JZ w&&(decide (w.ends.length≤6)&&(w.ends.all Ay&&(Jk w&&Gb w)))
abbrev Nj (R:Rel):Prop:=∀w:World,Af w≤4194304→R [arg (Bn w)] [] (B (BH w)) []
abbrev ZE (R:Rel):Prop:=∀e:Aq,Ar e≤4194304→R [arg (Ak e)] [] (B (!Ay e)) []
theorem Axn (D:Dn) (hE:Fb (D OU)):ZE (Body D Q6):=by
 intro e h
 simp -implicitDefEqProofs
 refine Aa (hE e (Abs h)) ?_
 simp -implicitDefEqProofs
theorem AvA (D:Dn) (hL:K8 (D AaI)) (hA:Kz (D Yi)) (hT:M6 (D Aas)) (hK:Jm (D Vs)) (h1':ZE (D Xo)) (hC:G7 D (D GN)) (hR:EB (D QX)) (hH:PX (D Bq)) (hI:Qo (D BB)):Nj (Body D Uh):=by
 intro w hsz
 have hs:=Ms hsz
 have he:=ER hsz
 simp -implicitDefEqProofs
 refine Aa (hL w hsz) ?_
 simp -implicitDefEqProofs
 refine Aa (hA w.server (EQ w) hs.1 (Aee hsz)) ?_
 by_cases a1:F6 w.server (EQ w)=true
 rotate_left
 ·simp -implicitDefEqProofs [a1,BH,JZ]
 simp -implicitDefEqProofs [a1]
 refine Aa (hT w.tags (by unfold maxLen;omega)) ?_
 by_cases a2:Gf w.tags=true
 rotate_left
 ·simp -implicitDefEqProofs [a2,BH,JZ]
 simp -implicitDefEqProofs [a2]
 refine Aa (hK w.key) ?_
 by_cases a3:Nc w.key=true
 rotate_left
 ·simp -implicitDefEqProofs [a3,BH,JZ]
 by_cases e1:w.ends.length≤6
 rotate_left
 ·have e1':(6:Int)<w.ends.length:=by omega
  simp -implicitDefEqProofs [a3,e1',e1,BH]
 have e1':¬(6:Int)<w.ends.length:=by omega
 simp -implicitDefEqProofs [a3,e1']
 refine Aa (hC w.ends Xo [] (fun e=> !Ay e) (by unfold maxLen;omega) E5 (fun j hj=>h1' w.ends[j] (Vw hsz hj))) ?_
 rw[Ajc]
 generalize hq:w.ends.all Ay=q
 by_cases e2:q=true
 rotate_left
 ·have e:BH w=false:=by unfold BH;rw[hq];simp[e2]
  simp -implicitDefEqProofs [e2,e]
 have hq':=hq.trans e2
 simp -implicitDefEqProofs [e2]
 refine Aa (hR w.rollout (Og hsz)) ?_
 by_cases b1:A8 w.rollout=true
 rotate_left
 ·simp -implicitDefEqProofs [b1,BH,Jk]
 simp -implicitDefEqProofs [b1]
 refine Aa (hH w.server _ (by unfold maxLen;omega)) ?_
 by_cases b2:w.rollout.version∈w.server
 rotate_left
 ·simp -implicitDefEqProofs [b2,BH,Jk]
 simp -implicitDefEqProofs [b2]
 refine Aa (hI _ _ _) ?_
 by_cases b3:Pv w.least 1 100
 rotate_left
 ·simp -implicitDefEqProofs [b3,BH,Jk]
 simp -implicitDefEqProofs [b3]
 refine Aa (hI _ _ _) ?_
 by_cases b4:Pv w.percent 0 100
 rotate_left
 ·simp -implicitDefEqProofs [b4,BH,Jk]
 by_cases c1:w.stage.length≤60
 rotate_left
 ·have c1':¬(w.stage.length:Int)≤60:=by omega
  simp -implicitDefEqProofs [b4,c1',c1,BH,Gb]
 have c1':(w.stage.length:Int)≤60:=by omega
 by_cases c2:w.log.length≤60
 rotate_left
 ·have c2':¬(w.log.length:Int)≤60:=by omega
  simp -implicitDefEqProofs [b4,c1',c2',c2,BH,Gb]
 have c2':(w.log.length:Int)≤60:=by omega
 simp -implicitDefEqProofs [b4,c1',c2']
 refine Aa (hI _ _ _) ?_
 by_cases c3:Pv w.now 0 10000
 rotate_left
 ·simp -implicitDefEqProofs [b4,c1',c2',c3,BH,Gb]
 simp -implicitDefEqProofs [b4,c1',c2',c3]
 refine Aa (hI _ _ _) ?_
 by_cases c4:Pv w.hurt 0 w.log.length
 rotate_left
 ·simp -implicitDefEqProofs [b4,c1',c2',c3,c4,BH,Gb]
 simp -implicitDefEqProofs [b4,c1',c2',c3,c4]
 refine Aa (hI _ _ _) ?_
 have ec:Gb w=decide (Pv w.reached 0 w.rollout.stages.length):=by unfold Gb;simp[c1,c2,c3,c4]
 have ee:BH w=Gb w:=by unfold BH JZ Jk;rw[hq'];simp[a1,a2,a3,e1,b1,b2,b3,b4]
 simp -implicitDefEqProofs [ee,ec]
theorem Av1 (D:Dn) (hE:Fb (D OX)) (hV:BA (D Di)) (hT:M6 (D Aob)) (hK:Jm (D VS)) (hR:EB (D Hu)) (hH:PX (D GA)) (hL:K8 (D Aat)) (hA:Kz (D AmI)) (hI:Qo (D BF)):Nj (Body D U0):=by
 intro w hsz
 have hs:=Ms hsz
 have he:=ER hsz
 simp -implicitDefEqProofs
 refine Ad (fun k s=>∃j,j+k=w.ends.length∧(w.ends.take j).all Ay=true∧s=⟨[.undef,.ptr 0 0,.undef,I j,.undef,.undef,.undef],[.var ((Bn w).map (AL 1)),.free]⟩) ?_ (w.ends.length) _ ⟨0,by simp,by simp,by simp⟩
 intro k s ⟨j,hj,hp,hs⟩
 subst hs
 by_cases hjn:j<w.ends.length
 ·have hw:IntKind.i64.wrap ((j:Int)+1)=(j+1:Nat):=by rw[Ab (by omega) (by omega)];simp
  have hst:=Yw (p:=Ay) hjn
  rw[hp,Bool.true_and]at hst
  simp -implicitDefEqProofs [hjn]
  refine Aa (hE w.ends[j] (Abs (Vw hsz hjn))) ?_
  by_cases h1:Ay w.ends[j]=true
  ·simp -implicitDefEqProofs [h1]
   exact⟨k-1,by omega,j+1,by omega,by simpa using hst.trans h1,by simp[hw]⟩
  ·have e:BH w=false:=by unfold BH;rw[Vm hjn (by simpa using h1)];simp
   simp -implicitDefEqProofs [h1,e]
 have hq':w.ends.all Ay=true:=by rw[←Ack (j:=j) (by omega),hp]
 simp -implicitDefEqProofs [hjn]
 refine Aa (hV w.server (by unfold maxLen;omega)) ?_
 by_cases v1:AU w.server=true
 rotate_left
 ·simp -implicitDefEqProofs [v1,BH,JZ,F6]
 simp -implicitDefEqProofs [v1]
 refine Aa (hT w.tags (by unfold maxLen;omega)) ?_
 by_cases a2:Gf w.tags=true
 rotate_left
 ·simp -implicitDefEqProofs [a2,BH,JZ]
 simp -implicitDefEqProofs [a2]
 refine Aa (hK w.key) ?_
 by_cases a3:Nc w.key=true
 rotate_left
 ·simp -implicitDefEqProofs [a3,BH,JZ]
 by_cases e1:w.ends.length≤6
 rotate_left
 ·have e1':(6:Int)<w.ends.length:=by omega
  simp -implicitDefEqProofs [a3,e1',e1,BH]
 have e1':¬(6:Int)<w.ends.length:=by omega
 simp -implicitDefEqProofs [a3,e1']
 refine Aa (hR w.rollout (Og hsz)) ?_
 by_cases b1:A8 w.rollout=true
 rotate_left
 ·simp -implicitDefEqProofs [b1,BH,Jk]
 simp -implicitDefEqProofs [b1]
 refine Aa (hH w.server _ (by unfold maxLen;omega)) ?_
 by_cases b2:w.rollout.version∈w.server
 rotate_left
 ·simp -implicitDefEqProofs [b2,BH,Jk]
 simp -implicitDefEqProofs [b2]
 refine Aa (hL w hsz) ?_
 simp -implicitDefEqProofs [b2]
 refine Aa (hA w.server (EQ w) hs.1 (Aee hsz)) ?_
 by_cases a1:F6 w.server (EQ w)=true
 rotate_left
 ·simp -implicitDefEqProofs [a1,BH,JZ]
 simp -implicitDefEqProofs [a1]
 refine Aa (hI _ _ _) ?_
 by_cases b3:Pv w.least 1 100
 rotate_left
 ·simp -implicitDefEqProofs [b3,BH,Jk]
 simp -implicitDefEqProofs [b3]
 refine Aa (hI _ _ _) ?_
 by_cases b4:Pv w.percent 0 100
 rotate_left
 ·simp -implicitDefEqProofs [b4,BH,Jk]
 by_cases c1:w.stage.length≤60
 rotate_left
 ·have c1':¬(w.stage.length:Int)≤60:=by omega
  simp -implicitDefEqProofs [b4,c1',c1,BH,Gb]
 have c1':(w.stage.length:Int)≤60:=by omega
 by_cases c2:w.log.length≤60
 rotate_left
 ·have c2':¬(w.log.length:Int)≤60:=by omega
  simp -implicitDefEqProofs [b4,c1',c2',c2,BH,Gb]
 have c2':(w.log.length:Int)≤60:=by omega
 simp -implicitDefEqProofs [b4,c1',c2']
 refine Aa (hI _ _ _) ?_
 by_cases c3:Pv w.now 0 10000
 rotate_left
 ·simp -implicitDefEqProofs [b4,c1',c2',c3,BH,Gb]
 simp -implicitDefEqProofs [b4,c1',c2',c3]
 refine Aa (hI _ _ _) ?_
 by_cases c4:Pv w.hurt 0 w.log.length
 rotate_left
 ·simp -implicitDefEqProofs [b4,c1',c2',c3,c4,BH,Gb]
 simp -implicitDefEqProofs [b4,c1',c2',c3,c4]
 refine Aa (hI _ _ _) ?_
 have ec:Gb w=decide (Pv w.reached 0 w.rollout.stages.length):=by unfold Gb;simp[c1,c2,c3,c4]
 have ee:BH w=Gb w:=by unfold BH JZ Jk;rw[hq'];simp[a1,a2,a3,e1,b1,b2,b3,b4]
 simp -implicitDefEqProofs [ee,ec]
def AeX:World:=⟨[],[],0,[],⟨0,[],0,false⟩,0,0,[],[],0,0,0⟩
def Dq (s t:List Int) (es:List Aq) (r:BL):World:=⟨s,t,77,es,r,4,25,[],[],0,0,0⟩
def PV (s t:List Int) (es:List Aq) (r:BL):World×Bool:=if BH (Dq s t es r)=true then(Dq s t es r,true)else(AeX,false)
abbrev Zq (R:Rel):Prop:=∀(s t:List Int) (es:List Aq) (r:BL),Af (Dq s t es r)≤4194304→R [.sl 1 1 s.length (ints s),.sl 1 1 t.length (ints t),.sl 1 4 es.length (es.flatMap Ak),arg (F7 r)] [] (.tup [.agg (Bn (PV s t es r).1),B (PV s t es r).2]) []
theorem ACu (s t:List Int) (es:List Aq) (r:BL):Af (Dq s t es r)=s.length+t.length+Cu Ar es+BX r:=by
 simp[Af,Dq,Cu]
theorem Asz (D:Dn) (hC:Ga (D Db)) (hW:Nj (D Anc)):Zq (Body D Tj):=by
 intro s t es r hsz
 simp -implicitDefEqProofs
 refine Aa (hC (Dq s t es r) hsz) ?_
 simp -implicitDefEqProofs [Dq]
 refine Aa (hW (Dq s t es r) hsz) ?_
 generalize hq:BH (Dq s t es r)=q
 by_cases h1:q=true
 ·have e:PV s t es r=(Dq s t es r,true):=by unfold PV;rw[if_pos (hq.trans h1)]
  simp -implicitDefEqProofs [h1,e,Dq]
 ·have e:PV s t es r=(AeX,false):=by unfold PV;rw[if_neg (by rw[hq];exact h1)]
  simp -implicitDefEqProofs [h1,e,AeX]
end Go.Eng.T
