/- Own work: part 45 of the proof of FnEvents. -/
import Derived.Test.YtfdnolfnbmnafaaGreatP44
set_option linter.unusedSimpArgs false
set_option linter.unusedVariables false
namespace Go.Eng.T
abbrev I (a:Int):V:= .sc (.int .i64 a)
abbrev B (a:Bool):V:= .sc (.bool a)
abbrev S (a:ByteArray):V:= .sc (.string a)
abbrev Rel:=List V→List O→V→List O→Prop
def ints (xs:List Int):List V:=xs.map fun x=> .sc (.int .i64 x)
@[simp] theorem ANO (xs:List Int):(ints xs).length=xs.length:=by simp[ints]
@[simp] theorem AN2:ints []=[]:=rfl
@[simp] theorem ints_at {xs:List Int} {j:Nat} (h:j<xs.length):(ints xs)[j]? =some (V.sc (.int .i64 xs[j])):=by simp[ints,h]
@[simp] theorem ANx {xs:List Int} {j:Nat} (h:j<(ints xs).length):(ints xs)[j]=V.sc (.int .i64 (xs[j]'(by simpa using h))):=by simp[ints]
@[simp] theorem AOa (xs:List Int) (k:Nat):(ints xs).map (Be k)=ints xs:=by simp[ints,Function.comp_def,Be]
theorem Apa (xs ys:List Int):ints xs++ints ys=ints (xs++ys):=by simp[ints]
@[simp] theorem ANi (xs:List Int) (y:Int):ints xs++ [V.sc (.int .i64 y)]=ints (xs++ [y]):=by simp[ints]
@[simp] theorem ints_set (xs:List Int) (j:Nat) (y:Int):(ints xs).set j (V.sc (.int .i64 y))=ints (xs.set j y):=by simp[ints]
@[simp] theorem ANH (n:Nat):(List.replicate n [V.sc (.int .i64 0)]).flatten=ints (List.replicate n 0):=by
 induction n with
 | zero=>rfl
 | succ n ih=>simp[List.replicate_succ,ints]at *
@[simp] theorem AOi (xs:List Int):(ints xs).all Vl=true:=by simp[ints,Vl]
@[simp] theorem ANs (xs:List Int) (o n:Nat):part (ints xs) 1 o n=ints ((xs.drop o).take n):=by simp[part,ints]
@[simp] theorem ANk:∀xs:List Int,(∀x,x∈ints xs→Vl x=true)=True:=by simp[ints,Vl]
@[simp] theorem ANq (a:V) (cs:List V) (off n:Nat):Iy (a::cs) off n=if off+n≤cs.length+1 then some (((a::cs).drop off).take n)else none:=by simp[Iy]
structure Aeq where
 ok:Bool
 version:Int
 tags:List Int
 deriving DecidableEq
structure H9 where
 limit:Int
 drops:List Int
 strips:List Int
 lists:Bool
 deriving DecidableEq
structure Cu where
 deal:Aeq
 tries:Int
 up:List Int
 deriving DecidableEq
structure Cr where
 version:Int
 stages:List Int
 pos:Int
 off:Bool
 deriving DecidableEq
structure Az where
 versions:List Int
 tags:List Int
 path:List H9
 cls:Int
 deriving DecidableEq
structure CX where
 fin:Int
 tick:Int
 on:Bool
 dialed:Cu
 deriving DecidableEq
structure World where
 server:List Int
 tags:List Int
 key:Int
 ends:List Az
 rollout:Cr
 least:Int
 percent:Int
 stage:List Cu
 log:List CX
 now:Int
 hurt:Int
 reached:Int
 deriving DecidableEq
structure Event where
 kind:Int
 n:Int
 box:H9
 deriving DecidableEq
abbrev sl (fl e n:Nat) (cs:List V):V:= .sl fl e n cs
def AaE (d:Aeq):List V:=[.sc (.bool d.ok),.sc (.int .i64 d.version),.sl 0 1 d.tags.length (ints d.tags)]
def CW (d:H9):List V:=[.sc (.int .i64 d.limit),.sl 0 1 d.drops.length (ints d.drops),.sl 0 1 d.strips.length (ints d.strips),.sc (.bool d.lists)]
def Ap (d:Cu):List V:=[.sc (.bool d.deal.ok),.sc (.int .i64 d.deal.version),.sl 0 1 d.deal.tags.length (ints d.deal.tags),.sc (.int .i64 d.tries),.sl 0 1 d.up.length (ints d.up)]
def Gg (d:Cr):List V:=[.sc (.int .i64 d.version),.sl 0 1 d.stages.length (ints d.stages),.sc (.int .i64 d.pos),.sc (.bool d.off)]
def Ag (d:Az):List V:=[.sl 0 1 d.versions.length (ints d.versions),.sl 0 1 d.tags.length (ints d.tags),.sl 0 4 d.path.length (d.path.flatMap CW),.sc (.int .i64 d.cls)]
def Am (d:CX):List V:=[.sc (.int .i64 d.fin),.sc (.int .i64 d.tick),.sc (.bool d.on),.sc (.bool d.dialed.deal.ok),.sc (.int .i64 d.dialed.deal.version),.sl 0 1 d.dialed.deal.tags.length (ints d.dialed.deal.tags),.sc (.int .i64 d.dialed.tries),.sl 0 1 d.dialed.up.length (ints d.dialed.up)]
def Cc (d:World):List V:=[.sl 0 1 d.server.length (ints d.server),.sl 0 1 d.tags.length (ints d.tags),.sc (.int .i64 d.key),.sl 0 4 d.ends.length (d.ends.flatMap Ag),.sc (.int .i64 d.rollout.version),.sl 0 1 d.rollout.stages.length (ints d.rollout.stages),.sc (.int .i64 d.rollout.pos),.sc (.bool d.rollout.off),.sc (.int .i64 d.least),.sc (.int .i64 d.percent),.sl 0 5 d.stage.length (d.stage.flatMap Ap),.sl 0 8 d.log.length (d.log.flatMap Am),.sc (.int .i64 d.now),.sc (.int .i64 d.hurt),.sc (.int .i64 d.reached)]
def BB (d:Event):List V:=[.sc (.int .i64 d.kind),.sc (.int .i64 d.n),.sc (.int .i64 d.box.limit),.sl 0 1 d.box.drops.length (ints d.box.drops),.sl 0 1 d.box.strips.length (ints d.box.strips),.sc (.bool d.box.lists)]
abbrev arg (cs:List V):V:= .agg (cs.map (Be 1))
section
variable {α:Type} {f:α→List V} {e:Nat}
theorem AbM (hf:∀x,(f x).map (Be 0)=f x) (xs:List α):(xs.flatMap f).map (Be 0)=xs.flatMap f:=by
 induction xs with
 | nil=>rfl
 | cons x xs ih=>simp[hf,ih]
theorem AbD (cs ds:List V) (o:Nat):∀(azs:List V),o+azs.length≤ds.length→putAt (cs++ds) (cs.length+o) azs=cs++putAt ds o azs:=by
 intro azs
 induction azs generalizing ds o with
 | nil=>intro _;simp[putAt]
 | cons a azs ih=>
  intro h
  simp only[putAt,List.length_cons]at *
  rw[List.set_append_right _ _ (by omega),show cs.length+o-cs.length=o by omega,show cs.length+o+1=cs.length+(o+1)by omega]
  exact ih _ _ (by simp;omega)
theorem ABT:∀(ds azs:List V),azs.length≤ds.length→putAt ds 0 azs=azs++ds.drop azs.length:=by
 have key:∀(azs pre ds:List V),azs.length≤ds.length→putAt (pre++ds) pre.length azs=pre++azs++ds.drop azs.length:=by
  intro azs
  induction azs with
  | nil=>intro pre ds _;simp[putAt]
  | cons a azs ih=>
   intro pre ds h
   cases ds with
   | nil=>simp at h
   | cons d ds=>
    have:=ih (pre++ [a]) ds (by simpa using h)
    simp only[putAt]
    rw[List.set_append_right _ _ (Nat.le_refl _),Nat.sub_self,List.set_cons_zero]
    simpa using this
 intro ds azs h
 simpa using key azs [] ds h
theorem UR (hf:∀x,(f x).length=e) {xs:List α} {i:Nat} (hi:i<xs.length) (x:α):putAt (xs.flatMap f) (i*e) (f x)=(xs.set i x).flatMap f:=by
 induction xs generalizing i with
 | nil=>simp at hi
 | cons y ys ih=>
  cases i with
  | zero=>
   rw[Nat.zero_mul,ABT _ _ (by simp[hf])]
   simp[hf]
  | succ i=>
   simp only[List.flatMap_cons,List.set_cons_succ]
   rw[show(i+1)*e=(f y).length+i*e by rw[hf,Nat.add_mul];omega,AbD]
   ·rw[ih (by simpa using hi)]
   ·rw[O0 hf,hf]
    have:=Nat.mul_le_mul_right e (show i+1≤ys.length by simp at hi;omega)
    rw[Nat.add_mul]at this;omega
end
def fd (o:O):Prop:=o= .free∨o= .dead
@[simp] theorem Ae9:fd .free:= .inl rfl
@[simp] theorem AeY:fd .dead:= .inr rfl
def mix {α:Type} (z:α) (xs:List α) (j:Nat):List α:=xs.take j++List.replicate (xs.length-j) z
section
variable {α:Type} {z:α} {xs:List α} {j:Nat}
@[simp] theorem AOj (h:j≤xs.length):(mix z xs j).length=xs.length:=by simp[mix];omega
end
theorem Ab {n:Int} (h1:-9223372036854775808≤n) (h2:n≤9223372036854775807):IntKind.i64.wrap n=n:=by
 show(if(true&&decide (n % (2 ^ 64:Int)≥(2 ^ 63:Int)))=true then n % (2 ^ 64:Int)-(2 ^ 64:Int)else n % (2 ^ 64:Int))=n
 by_cases h:n % (2 ^ 64:Int)≥(2 ^ 63:Int)
 ·rw[if_pos (by simp only[h];rfl)];omega
 ·rw[if_neg (by simp only[h];simp)];omega
section
variable {α:Type} {xs ys:List α} {j:Nat}
theorem KL (hx:j<xs.length) (hy:j<ys.length) (h:xs.take j=ys.take j) (he:xs[j]=ys[j]):xs.take (j+1)=ys.take (j+1):=by
 rw[List.take_add_one,List.take_add_one,h,List.getElem?_eq_getElem hx,List.getElem?_eq_getElem hy,he]
theorem M4 (hx:xs.length≤j) (hl:xs.length=ys.length) (h:xs.take j=ys.take j):xs=ys:=by
 rwa [List.take_of_length_le hx,List.take_of_length_le (by omega)]at h
end
def AP {α:Type} (f:α→Nat) (xs:List α):Nat:=xs.length+(xs.map f).sum
def EN (d:Aeq):Nat:=d.tags.length
def BD (d:H9):Nat:=d.drops.length+d.strips.length
def Ak (d:Cu):Nat:=EN d.deal+d.up.length
def AU (d:Cr):Nat:=d.stages.length
def Ad (d:Az):Nat:=d.versions.length+d.tags.length+AP BD d.path
def Ay (d:CX):Nat:=Ak d.dialed
def Ai (d:World):Nat:=d.server.length+d.tags.length+AP Ad d.ends+AU d.rollout+AP Ak d.stage+AP Ay d.log
def Bf (d:Event):Nat:=BD d.box
def szl (n:Nat) (l:Int):Int:=if l<n then -1 else l-n
section
variable {α:Type} {f:α→Nat} {xs:List α} {j:Nat}
theorem Vt (h:j<xs.length):((xs.take (j+1)).map f).sum=((xs.take j).map f).sum+f xs[j]:=by
 rw[List.take_add_one,List.getElem?_eq_getElem h,List.map_append,List.sum_append,Option.toList_some,List.map_cons,List.map_nil,List.sum_cons,List.sum_nil,Nat.add_zero]
theorem Ls:((xs.take j).map f).sum≤(xs.map f).sum:=by
 conv=>rhs;rw[←List.take_append_drop j xs,List.map_append,List.sum_append]
 omega
theorem size_at (h:j<xs.length):f xs[j]≤AP f xs:=by
 have h1:=Vt (f:=f) h
 have h2:=Ls (f:=f) (xs:=xs) (j:=j+1)
 unfold AP;omega
theorem FL:xs.length≤AP f xs:=by unfold AP;omega
end
def KN (xs:List Int):Prop:=xs.length≤maxLen
def lnS {α:Type} (f:α→Prop) (xs:List α):Prop:=xs.length≤maxLen∧∀(j:Nat) (h:j<xs.length),f xs[j]
def AvO (d:Aeq):Prop:=KN d.tags
def JG (d:H9):Prop:=KN d.drops∧KN d.strips
def Ri (d:Cu):Prop:=AvO d.deal∧KN d.up
def AbV (d:Cr):Prop:=KN d.stages
def Ke (d:Az):Prop:=KN d.versions∧KN d.tags∧lnS JG d.path
def UQ (d:CX):Prop:=Ri d.dialed
def AfI (d:World):Prop:=KN d.server∧KN d.tags∧lnS Ke d.ends∧AbV d.rollout∧lnS Ri d.stage∧lnS UQ d.log
def VU (d:Event):Prop:=JG d.box
theorem Lm (x:H9):(CW x).length=4:=rfl
theorem ET (x:Cu):(Ap x).length=5:=rfl
theorem Fj (x:Az):(Ag x).length=4:=rfl
theorem Cx (x:CX):(Am x).length=8:=rfl
theorem EO (x:Event):(BB x).length=6:=rfl
@[simp] theorem AOd (xs:List H9):(xs.flatMap CW).map (Be 0)=xs.flatMap CW:=AbM (fun _=>rfl) xs
@[simp] theorem AL5 (xs:List Cu):(xs.flatMap Ap).map (Be 0)=xs.flatMap Ap:=AbM (fun _=>rfl) xs
@[simp] theorem AKK (xs:List Az):(xs.flatMap Ag).map (Be 0)=xs.flatMap Ag:=AbM (fun _=>rfl) xs
@[simp] theorem AMV (xs:List CX):(xs.flatMap Am).map (Be 0)=xs.flatMap Am:=AbM (fun _=>rfl) xs
@[simp] theorem ANy (xs:List Event):(xs.flatMap BB).map (Be 0)=xs.flatMap BB:=AbM (fun _=>rfl) xs
@[simp high] theorem AOh {xs:List H9} {j:Nat} (h:j<xs.length):Iy (xs.flatMap CW) (j*4) 4=some (CW xs[j]):=QD Lm h
@[simp high] theorem AMp {xs:List Cu} {j:Nat} (h:j<xs.length):Iy (xs.flatMap Ap) (j*5) 5=some (Ap xs[j]):=QD ET h
@[simp high] theorem AJV {xs:List Az} {j:Nat} (h:j<xs.length):Iy (xs.flatMap Ag) (j*4) 4=some (Ag xs[j]):=QD Fj h
@[simp high] theorem AMD {xs:List CX} {j:Nat} (h:j<xs.length):Iy (xs.flatMap Am) (j*8) 8=some (Am xs[j]):=QD Cx h
@[simp high] theorem ANg {xs:List Event} {j:Nat} (h:j<xs.length):Iy (xs.flatMap BB) (j*6) 6=some (BB xs[j]):=QD EO h
@[simp high] theorem ANb (xs:List H9):(xs.flatMap CW).length=xs.length*4:=O0 Lm xs
@[simp high] theorem ANI {xs:List H9} {j:Nat} (h:j<xs.length) (a:Int) (b c:List Int) (d:Bool) {nb:Nat} (hb:nb=b.length) {nc:Nat} (hc:nc=c.length):putAt (xs.flatMap CW) (j*4) [.sc (.int .i64 a),.sl 0 1 nb (ints b),.sl 0 1 nc (ints c),.sc (.bool d)]=(xs.set j ⟨a,b,c,d⟩).flatMap CW:=by subst hb;subst hc;exact UR Lm h ⟨a,b,c,d⟩
@[simp high] theorem AJU (xs:List Cu):(xs.flatMap Ap).length=xs.length*5:=O0 ET xs
@[simp high] theorem ALC {xs:List Cu} {j:Nat} (h:j<xs.length) (a:Bool) (b:Int) (c:List Int) (d:Int) (u:List Int) {nc:Nat} (hc:nc=c.length) {nu:Nat} (hu:nu=u.length):putAt (xs.flatMap Ap) (j*5) [.sc (.bool a),.sc (.int .i64 b),.sl 0 1 nc (ints c),.sc (.int .i64 d),.sl 0 1 nu (ints u)]=(xs.set j ⟨⟨a,b,c⟩,d,u⟩).flatMap Ap:=by subst hc;subst hu;exact UR ET h ⟨⟨a,b,c⟩,d,u⟩
@[simp high] theorem AIb (xs:List Az):(xs.flatMap Ag).length=xs.length*4:=O0 Fj xs
@[simp high] theorem AJi {xs:List Az} {j:Nat} (h:j<xs.length) (a b:List Int) (c:List H9) (d:Int) {na:Nat} (ha:na=a.length) {nb:Nat} (hb:nb=b.length) {nc:Nat} (hc:nc=c.length):putAt (xs.flatMap Ag) (j*4) [.sl 0 1 na (ints a),.sl 0 1 nb (ints b),.sl 0 4 nc (c.flatMap CW),.sc (.int .i64 d)]=(xs.set j ⟨a,b,c,d⟩).flatMap Ag:=by subst ha;subst hb;subst hc;exact UR Fj h ⟨a,b,c,d⟩
@[simp high] theorem ALc (xs:List CX):(xs.flatMap Am).length=xs.length*8:=O0 Cx xs
@[simp high] theorem ALO {xs:List CX} {j:Nat} (h:j<xs.length) (m n:Int) (o a:Bool) (b:Int) (c:List Int) (d:Int) (u:List Int) {nc:Nat} (hc:nc=c.length) {nu:Nat} (hu:nu=u.length):putAt (xs.flatMap Am) (j*8) [.sc (.int .i64 m),.sc (.int .i64 n),.sc (.bool o),.sc (.bool a),.sc (.int .i64 b),.sl 0 1 nc (ints c),.sc (.int .i64 d),.sl 0 1 nu (ints u)]=(xs.set j ⟨m,n,o,⟨⟨a,b,c⟩,d,u⟩⟩).flatMap Am:=by subst hc;subst hu;exact UR Cx h ⟨m,n,o,⟨⟨a,b,c⟩,d,u⟩⟩
@[simp high] theorem ALG (xs:List Event):(xs.flatMap BB).length=xs.length*6:=O0 EO xs
@[simp high] theorem AMM {xs:List Event} {j:Nat} (h:j<xs.length) (m n:Int) (a:Int) (b c:List Int) (d:Bool) {nb:Nat} (hb:nb=b.length) {nc:Nat} (hc:nc=c.length):putAt (xs.flatMap BB) (j*6) [.sc (.int .i64 m),.sc (.int .i64 n),.sc (.int .i64 a),.sl 0 1 nb (ints b),.sl 0 1 nc (ints c),.sc (.bool d)]=(xs.set j ⟨m,n,⟨a,b,c,d⟩⟩).flatMap BB:=by subst hb;subst hc;exact UR EO h ⟨m,n,⟨a,b,c,d⟩⟩
@[simp high] theorem AN9 {xs:List H9} {j:Nat} (h:j<xs.length):(xs.flatMap CW)[j*4]? =some (.sc (.int .i64 xs[j].limit)):=by
 have:=Bc (o:=0) Lm h (by omega)
 simpa[CW]using this
@[simp high] theorem AOn {xs:List H9} {j:Nat} (h:j<xs.length):(xs.flatMap CW)[j*4+1]? =some (.sl 0 1 xs[j].drops.length (ints xs[j].drops)):=by
 have:=Bc (o:=1) Lm h (by omega)
 simpa[CW]using this
@[simp high] theorem AN6 {xs:List H9} {j:Nat} (h:j<xs.length):(xs.flatMap CW)[j*4+2]? =some (.sl 0 1 xs[j].strips.length (ints xs[j].strips)):=by
 have:=Bc (o:=2) Lm h (by omega)
 simpa[CW]using this
@[simp high] theorem AN7 {xs:List H9} {j:Nat} (h:j<xs.length):(xs.flatMap CW)[j*4+3]? =some (.sc (.bool xs[j].lists)):=by
 have:=Bc (o:=3) Lm h (by omega)
 simpa[CW]using this
@[simp high] theorem AL7 {xs:List Cu} {j:Nat} (h:j<xs.length):(xs.flatMap Ap)[j*5]? =some (.sc (.bool xs[j].deal.ok)):=by
 have:=Bc (o:=0) ET h (by omega)
 simpa[Ap]using this
@[simp high] theorem AMk {xs:List Cu} {j:Nat} (h:j<xs.length):(xs.flatMap Ap)[j*5+1]? =some (.sc (.int .i64 xs[j].deal.version)):=by
 have:=Bc (o:=1) ET h (by omega)
 simpa[Ap]using this
@[simp high] theorem AL9 {xs:List Cu} {j:Nat} (h:j<xs.length):(xs.flatMap Ap)[j*5+2]? =some (.sl 0 1 xs[j].deal.tags.length (ints xs[j].deal.tags)):=by
 have:=Bc (o:=2) ET h (by omega)
 simpa[Ap]using this
@[simp high] theorem AMP {xs:List Cu} {j:Nat} (h:j<xs.length):(xs.flatMap Ap)[j*5+3]? =some (.sc (.int .i64 xs[j].tries)):=by
 have:=Bc (o:=3) ET h (by omega)
 simpa[Ap]using this
@[simp high] theorem AM3 {xs:List Cu} {j:Nat} (h:j<xs.length):(xs.flatMap Ap)[j*5+4]? =some (.sl 0 1 xs[j].up.length (ints xs[j].up)):=by
 have:=Bc (o:=4) ET h (by omega)
 simpa[Ap]using this
@[simp high] theorem AKq {xs:List Az} {j:Nat} (h:j<xs.length):(xs.flatMap Ag)[j*4]? =some (.sl 0 1 xs[j].versions.length (ints xs[j].versions)):=by
 have:=Bc (o:=0) Fj h (by omega)
 simpa[Ag]using this
@[simp high] theorem AJ1 {xs:List Az} {j:Nat} (h:j<xs.length):(xs.flatMap Ag)[j*4+1]? =some (.sl 0 1 xs[j].tags.length (ints xs[j].tags)):=by
 have:=Bc (o:=1) Fj h (by omega)
 simpa[Ag]using this
@[simp high] theorem ALs {xs:List Az} {j:Nat} (h:j<xs.length):(xs.flatMap Ag)[j*4+2]? =some (.sl 0 4 xs[j].path.length (xs[j].path.flatMap CW)):=by
 have:=Bc (o:=2) Fj h (by omega)
 simpa[Ag]using this
@[simp high] theorem ALi {xs:List Az} {j:Nat} (h:j<xs.length):(xs.flatMap Ag)[j*4+3]? =some (.sc (.int .i64 xs[j].cls)):=by
 have:=Bc (o:=3) Fj h (by omega)
 simpa[Ag]using this
@[simp high] theorem AMU {xs:List CX} {j:Nat} (h:j<xs.length):(xs.flatMap Am)[j*8]? =some (.sc (.int .i64 xs[j].fin)):=by
 have:=Bc (o:=0) Cx h (by omega)
 simpa[Am]using this
@[simp high] theorem AMg {xs:List CX} {j:Nat} (h:j<xs.length):(xs.flatMap Am)[j*8+1]? =some (.sc (.int .i64 xs[j].tick)):=by
 have:=Bc (o:=1) Cx h (by omega)
 simpa[Am]using this
@[simp high] theorem AL6 {xs:List CX} {j:Nat} (h:j<xs.length):(xs.flatMap Am)[j*8+2]? =some (.sc (.bool xs[j].on)):=by
 have:=Bc (o:=2) Cx h (by omega)
 simpa[Am]using this
@[simp high] theorem AMc {xs:List CX} {j:Nat} (h:j<xs.length):(xs.flatMap Am)[j*8+3]? =some (.sc (.bool xs[j].dialed.deal.ok)):=by
 have:=Bc (o:=3) Cx h (by omega)
 simpa[Am]using this
@[simp high] theorem AMH {xs:List CX} {j:Nat} (h:j<xs.length):(xs.flatMap Am)[j*8+4]? =some (.sc (.int .i64 xs[j].dialed.deal.version)):=by
 have:=Bc (o:=4) Cx h (by omega)
 simpa[Am]using this
@[simp high] theorem AMC {xs:List CX} {j:Nat} (h:j<xs.length):(xs.flatMap Am)[j*8+5]? =some (.sl 0 1 xs[j].dialed.deal.tags.length (ints xs[j].dialed.deal.tags)):=by
 have:=Bc (o:=5) Cx h (by omega)
 simpa[Am]using this
@[simp high] theorem AMa {xs:List CX} {j:Nat} (h:j<xs.length):(xs.flatMap Am)[j*8+6]? =some (.sc (.int .i64 xs[j].dialed.tries)):=by
 have:=Bc (o:=6) Cx h (by omega)
 simpa[Am]using this
@[simp high] theorem ALY {xs:List CX} {j:Nat} (h:j<xs.length):(xs.flatMap Am)[j*8+7]? =some (.sl 0 1 xs[j].dialed.up.length (ints xs[j].dialed.up)):=by
 have:=Bc (o:=7) Cx h (by omega)
 simpa[Am]using this
@[simp high] theorem ANB {xs:List Event} {j:Nat} (h:j<xs.length):(xs.flatMap BB)[j*6]? =some (.sc (.int .i64 xs[j].kind)):=by
 have:=Bc (o:=0) EO h (by omega)
 simpa[BB]using this
@[simp high] theorem ANl {xs:List Event} {j:Nat} (h:j<xs.length):(xs.flatMap BB)[j*6+1]? =some (.sc (.int .i64 xs[j].n)):=by
 have:=Bc (o:=1) EO h (by omega)
 simpa[BB]using this
@[simp high] theorem ANr {xs:List Event} {j:Nat} (h:j<xs.length):(xs.flatMap BB)[j*6+2]? =some (.sc (.int .i64 xs[j].box.limit)):=by
 have:=Bc (o:=2) EO h (by omega)
 simpa[BB]using this
@[simp high] theorem ANo {xs:List Event} {j:Nat} (h:j<xs.length):(xs.flatMap BB)[j*6+3]? =some (.sl 0 1 xs[j].box.drops.length (ints xs[j].box.drops)):=by
 have:=Bc (o:=3) EO h (by omega)
 simpa[BB]using this
@[simp high] theorem ANv {xs:List Event} {j:Nat} (h:j<xs.length):(xs.flatMap BB)[j*6+4]? =some (.sl 0 1 xs[j].box.strips.length (ints xs[j].box.strips)):=by
 have:=Bc (o:=4) EO h (by omega)
 simpa[BB]using this
@[simp high] theorem ANt {xs:List Event} {j:Nat} (h:j<xs.length):(xs.flatMap BB)[j*6+5]? =some (.sc (.bool xs[j].box.lists)):=by
 have:=Bc (o:=5) EO h (by omega)
 simpa[BB]using this
theorem TU {α:Type} {f:α→List V} {e:Nat} (hf:∀x,(f x).length=e) {xs:List α} {j o n:Nat} (h:j<xs.length) (ho:o+n≤e):Iy (xs.flatMap f) (j*e+o) n=some (((f xs[j]).drop o).take n):=by
 unfold Iy
 have hl:=O0 hf xs
 have h2:j*e+e≤xs.length*e:=by
  have:=Nat.mul_le_mul_right e (show j+1≤xs.length by omega)
  rw[Nat.add_mul]at this;omega
 rw[hl,if_pos (by omega),←List.drop_drop,AbW hf,List.drop_eq_getElem_cons h,List.flatMap_cons,List.drop_append,List.take_append]
 have h3:=hf xs[j]
 rw[List.length_drop,h3]
 have:n-(e-o)=0:=by omega
 rw[this,List.take_zero,List.append_nil]
@[simp high] theorem AL4 {xs:List CX} {j:Nat} (h:j<xs.length):Iy (xs.flatMap Am) (j*8+3) 5=some (Ap xs[j].dialed):=TU Cx h (by omega)
@[simp high] theorem AL0 {xs:List CX} {j:Nat} (h:j<xs.length):Iy (xs.flatMap Am) (j*8+3) 3=some (AaE xs[j].dialed.deal):=TU Cx h (by omega)
@[simp high] theorem AM1 {xs:List Cu} {j:Nat} (h:j<xs.length):Iy (xs.flatMap Ap) (j*5) 3=some (AaE xs[j].deal):=TU (o:=0) ET h (by omega)
@[simp high] theorem ANa {xs:List Event} {j:Nat} (h:j<xs.length):Iy (xs.flatMap BB) (j*6+2) 4=some (CW xs[j].box):=TU EO h (by omega)
attribute [simp] Nat.add_one_le_iff AaE CW Ap Gg Ag Am Cc BB
end Go.Eng.T
namespace Go.Eng.T
abbrev TF (R:Rel):Prop:=∀a b c:Int,R [I a,I b,I c] [] (B (decide (b≤a∧a≤c))) []
theorem AMd (D:Dn):TF (Body D AeF):=by
 intro a b c
 by_cases h1:b≤a<;>by_cases h2:a≤c<;>simp -implicitDefEqProofs [h1,h2]
theorem AFo (D:Dn):TF (Body D Xk):=by
 intro a b c
 by_cases h1:b≤a<;>by_cases h2:a≤c<;>simp -implicitDefEqProofs [h1,h2]
def AYm:List (List UInt8):=[[],[100,105,97,108],[115,116,97,114,116],[115,116,97,103,101],[114,101,116,105,114,101],[114,101,118,105,118,101],[98,111,120],[99,108,101,97,114],[116,105,99,107]]
def AXS (k:Int):ByteArray:=if 1≤k∧k≤8 then⟨(AYm.getD k.toNat []).toArray⟩else⟨#[]⟩
theorem AYl {k:Int} (h:1≤k∧k≤8):k=1∨k=2∨k=3∨k=4∨k=5∨k=6∨k=7∨k=8:=by omega
abbrev AWy (R:Rel):Prop:=∀k:Int,R [I k] [] (S (AXS k)) []
theorem AXO (D:Dn) (hIn:TF (D 114)):AWy (Body D AVP):=by
 intro k
 simp -implicitDefEqProofs
 refine Aa (hIn _ _ _) ?_
 by_cases h:1≤k∧k≤8
 ·rcases AYl h with rfl | rfl | rfl | rfl | rfl | rfl | rfl | rfl<;>simp -implicitDefEqProofs [AXS]<;>rfl
 ·simp -implicitDefEqProofs [h,AXS]
end Go.Eng.T
namespace Go.Eng.T
def nums:Nat→Int→List Int
 | 0,_=> []
 | n+1,k=>k::nums n (k+1)
@[simp] theorem Az4:∀(n:Nat) (k:Int),(nums n k).length=n
 | 0,_=>rfl
 | n+1,k=>by simp[nums,Az4 n]
theorem AxL:∀(n:Nat) (k:Int) (j:Nat) (h:j<(nums n k).length),(nums n k)[j]=k+j
 | 0,k,j,h=>by simp[nums]at h
 | n+1,k,0,h=>by simp[nums]
 | n+1,k,j+1,h=>by
  simp only[nums,List.getElem_cons_succ]
  rw[AxL n (k+1) j (by simpa[nums]using h)]
  simp;omega
def mkL {α:Type} (mc:α→Nat) (mk:α→Int→α):List α→Int→List α
 | [],_=> []
 | x::r,k=>mk x k::mkL mc mk r (k+mc x)
def H8 {α:Type} (mc:α→Nat) (xs:List α):Nat:=(xs.map mc).sum
section
variable {α:Type} {mc:α→Nat} {mk:α→Int→α}
@[simp] theorem AKf:∀(xs:List α) (k:Int),(mkL mc mk xs k).length=xs.length
 | [],_=>rfl
 | x::r,k=>by simp[mkL,AKf r]
theorem Agv:∀(xs:List α) (k:Int) (j:Nat) (h:j<xs.length),(mkL mc mk xs k)[j]'(by simpa using h)=mk xs[j] (k+(H8 mc (xs.take j):Nat))
 | [],k,j,h=>by simp at h
 | x::r,k,0,h=>by simp[mkL,H8]
 | x::r,k,j+1,h=>by
  simp only[mkL,List.getElem_cons_succ]
  rw[Agv r (k+mc x) j (by simpa using h)]
  simp[H8];congr 1;omega
theorem ApP (ys:List α):∀(xs:List α) (k:Int),mkL mc mk (xs++ys) k=mkL mc mk xs k++mkL mc mk ys (k+(H8 mc xs:Nat))
 | [],k=>by simp[mkL,H8]
 | x::r,k=>by
  simp only[List.cons_append,mkL,ApP ys r]
  simp[H8];congr 1;omega
def mkJ (mc:α→Nat) (mk:α→Int→α) (xs:List α) (k:Int) (j:Nat):List α:=mkL mc mk (xs.take j) k++xs.drop j
@[simp] theorem AKt {xs:List α} {k:Int} {j:Nat} (h:j≤xs.length):(mkJ mc mk xs k j).length=xs.length:=by simp[mkJ];omega
end
theorem Dm {α:Type} {f:α→List V} {e:Nat} (hf:∀x,(f x).length=e) {o:Nat} (ho:o<e) {v:V} {y:α}:∀ {xs:List α} {j:Nat} (h:j<xs.length),f y=(f xs[j]).set o v→(xs.flatMap f).set (j*e+o) v=(xs.set j y).flatMap f
 | [],j,h,_=>by simp at h
 | x::xs,0,_,hy=>by
  simp only[List.flatMap_cons,List.set_cons_zero,Nat.zero_mul,Nat.zero_add]
  rw[List.set_append_left _ _ (by rw[hf];exact ho),hy]
  rfl
 | x::xs,j+1,h,hy=>by
  simp only[List.flatMap_cons,List.set_cons_succ]
  have e1:(j+1)*e+o=(f x).length+(j*e+o):=by rw[hf,Nat.add_mul];omega
  rw[e1,List.set_append_right _ _ (by omega),Nat.add_sub_cancel_left,Dm hf ho (by simpa using h) (by simpa using hy)]
@[simp high] theorem AOf {xs:List H9} {j:Nat} (h:j<xs.length) (a:Int):(xs.flatMap CW).set (j*4) (.sc (.int .i64 a))=(xs.set j ⟨a,xs[j].drops,xs[j].strips,xs[j].lists⟩).flatMap CW:=Dm (o:=0) Lm (by omega) h rfl
@[simp high] theorem AOr {xs:List H9} {j:Nat} (h:j<xs.length) {n:Nat} (a:List Int) (hn:n=a.length):(xs.flatMap CW).set (j*4+1) (.sl 0 1 n (ints a))=(xs.set j ⟨xs[j].limit,a,xs[j].strips,xs[j].lists⟩).flatMap CW:=by subst hn;exact Dm (o:=1) Lm (by omega) h rfl
@[simp high] theorem AOo {xs:List H9} {j:Nat} (h:j<xs.length) {n:Nat} (a:List Int) (hn:n=a.length):(xs.flatMap CW).set (j*4+2) (.sl 0 1 n (ints a))=(xs.set j ⟨xs[j].limit,xs[j].drops,a,xs[j].lists⟩).flatMap CW:=by subst hn;exact Dm (o:=2) Lm (by omega) h rfl
@[simp high] theorem AN8 {xs:List H9} {j:Nat} (h:j<xs.length) (a:Bool):(xs.flatMap CW).set (j*4+3) (.sc (.bool a))=(xs.set j ⟨xs[j].limit,xs[j].drops,xs[j].strips,a⟩).flatMap CW:=Dm (o:=3) Lm (by omega) h rfl
@[simp high] theorem AL2 {xs:List Cu} {j:Nat} (h:j<xs.length) (a:Bool):(xs.flatMap Ap).set (j*5) (.sc (.bool a))=(xs.set j ⟨⟨a,xs[j].deal.version,xs[j].deal.tags⟩,xs[j].tries,xs[j].up⟩).flatMap Ap:=Dm (o:=0) ET (by omega) h rfl
@[simp high] theorem AMW {xs:List Cu} {j:Nat} (h:j<xs.length) (a:Int):(xs.flatMap Ap).set (j*5+1) (.sc (.int .i64 a))=(xs.set j ⟨⟨xs[j].deal.ok,a,xs[j].deal.tags⟩,xs[j].tries,xs[j].up⟩).flatMap Ap:=Dm (o:=1) ET (by omega) h rfl
@[simp high] theorem AMR {xs:List Cu} {j:Nat} (h:j<xs.length) {n:Nat} (a:List Int) (hn:n=a.length):(xs.flatMap Ap).set (j*5+2) (.sl 0 1 n (ints a))=(xs.set j ⟨⟨xs[j].deal.ok,xs[j].deal.version,a⟩,xs[j].tries,xs[j].up⟩).flatMap Ap:=by subst hn;exact Dm (o:=2) ET (by omega) h rfl
@[simp high] theorem AMK {xs:List Cu} {j:Nat} (h:j<xs.length) (a:Int):(xs.flatMap Ap).set (j*5+3) (.sc (.int .i64 a))=(xs.set j ⟨⟨xs[j].deal.ok,xs[j].deal.version,xs[j].deal.tags⟩,a,xs[j].up⟩).flatMap Ap:=Dm (o:=3) ET (by omega) h rfl
@[simp high] theorem AMu {xs:List Cu} {j:Nat} (h:j<xs.length) {n:Nat} (a:List Int) (hn:n=a.length):(xs.flatMap Ap).set (j*5+4) (.sl 0 1 n (ints a))=(xs.set j ⟨⟨xs[j].deal.ok,xs[j].deal.version,xs[j].deal.tags⟩,xs[j].tries,a⟩).flatMap Ap:=by subst hn;exact Dm (o:=4) ET (by omega) h rfl
@[simp high] theorem ALl {xs:List Az} {j:Nat} (h:j<xs.length) {n:Nat} (a:List Int) (hn:n=a.length):(xs.flatMap Ag).set (j*4) (.sl 0 1 n (ints a))=(xs.set j ⟨a,xs[j].tags,xs[j].path,xs[j].cls⟩).flatMap Ag:=by subst hn;exact Dm (o:=0) Fj (by omega) h rfl
@[simp high] theorem AKi {xs:List Az} {j:Nat} (h:j<xs.length) {n:Nat} (a:List Int) (hn:n=a.length):(xs.flatMap Ag).set (j*4+1) (.sl 0 1 n (ints a))=(xs.set j ⟨xs[j].versions,a,xs[j].path,xs[j].cls⟩).flatMap Ag:=by subst hn;exact Dm (o:=1) Fj (by omega) h rfl
@[simp high] theorem Uc {xs:List Az} {j:Nat} (h:j<xs.length) {n:Nat} (a:List H9) (hn:n=a.length):(xs.flatMap Ag).set (j*4+2) (.sl 0 4 n (a.flatMap CW))=(xs.set j ⟨xs[j].versions,xs[j].tags,a,xs[j].cls⟩).flatMap Ag:=by subst hn;exact Dm (o:=2) Fj (by omega) h rfl
@[simp high] theorem AKQ {xs:List Az} {j:Nat} (h:j<xs.length) (a:Int):(xs.flatMap Ag).set (j*4+3) (.sc (.int .i64 a))=(xs.set j ⟨xs[j].versions,xs[j].tags,xs[j].path,a⟩).flatMap Ag:=Dm (o:=3) Fj (by omega) h rfl
@[simp high] theorem AMx {xs:List CX} {j:Nat} (h:j<xs.length) (a:Int):(xs.flatMap Am).set (j*8) (.sc (.int .i64 a))=(xs.set j ⟨a,xs[j].tick,xs[j].on,⟨⟨xs[j].dialed.deal.ok,xs[j].dialed.deal.version,xs[j].dialed.deal.tags⟩,xs[j].dialed.tries,xs[j].dialed.up⟩⟩).flatMap Am:=Dm (o:=0) Cx (by omega) h rfl
@[simp high] theorem AM0 {xs:List CX} {j:Nat} (h:j<xs.length) (a:Int):(xs.flatMap Am).set (j*8+1) (.sc (.int .i64 a))=(xs.set j ⟨xs[j].fin,a,xs[j].on,⟨⟨xs[j].dialed.deal.ok,xs[j].dialed.deal.version,xs[j].dialed.deal.tags⟩,xs[j].dialed.tries,xs[j].dialed.up⟩⟩).flatMap Am:=Dm (o:=1) Cx (by omega) h rfl
@[simp high] theorem ALX {xs:List CX} {j:Nat} (h:j<xs.length) (a:Bool):(xs.flatMap Am).set (j*8+2) (.sc (.bool a))=(xs.set j ⟨xs[j].fin,xs[j].tick,a,⟨⟨xs[j].dialed.deal.ok,xs[j].dialed.deal.version,xs[j].dialed.deal.tags⟩,xs[j].dialed.tries,xs[j].dialed.up⟩⟩).flatMap Am:=Dm (o:=2) Cx (by omega) h rfl
@[simp high] theorem AMo {xs:List CX} {j:Nat} (h:j<xs.length) (a:Bool):(xs.flatMap Am).set (j*8+3) (.sc (.bool a))=(xs.set j ⟨xs[j].fin,xs[j].tick,xs[j].on,⟨⟨a,xs[j].dialed.deal.version,xs[j].dialed.deal.tags⟩,xs[j].dialed.tries,xs[j].dialed.up⟩⟩).flatMap Am:=Dm (o:=3) Cx (by omega) h rfl
@[simp high] theorem AML {xs:List CX} {j:Nat} (h:j<xs.length) (a:Int):(xs.flatMap Am).set (j*8+4) (.sc (.int .i64 a))=(xs.set j ⟨xs[j].fin,xs[j].tick,xs[j].on,⟨⟨xs[j].dialed.deal.ok,a,xs[j].dialed.deal.tags⟩,xs[j].dialed.tries,xs[j].dialed.up⟩⟩).flatMap Am:=Dm (o:=4) Cx (by omega) h rfl
@[simp high] theorem AMJ {xs:List CX} {j:Nat} (h:j<xs.length) {n:Nat} (a:List Int) (hn:n=a.length):(xs.flatMap Am).set (j*8+5) (.sl 0 1 n (ints a))=(xs.set j ⟨xs[j].fin,xs[j].tick,xs[j].on,⟨⟨xs[j].dialed.deal.ok,xs[j].dialed.deal.version,a⟩,xs[j].dialed.tries,xs[j].dialed.up⟩⟩).flatMap Am:=by subst hn;exact Dm (o:=5) Cx (by omega) h rfl
@[simp high] theorem AMh {xs:List CX} {j:Nat} (h:j<xs.length) (a:Int):(xs.flatMap Am).set (j*8+6) (.sc (.int .i64 a))=(xs.set j ⟨xs[j].fin,xs[j].tick,xs[j].on,⟨⟨xs[j].dialed.deal.ok,xs[j].dialed.deal.version,xs[j].dialed.deal.tags⟩,a,xs[j].dialed.up⟩⟩).flatMap Am:=Dm (o:=6) Cx (by omega) h rfl
@[simp high] theorem AMi {xs:List CX} {j:Nat} (h:j<xs.length) {n:Nat} (a:List Int) (hn:n=a.length):(xs.flatMap Am).set (j*8+7) (.sl 0 1 n (ints a))=(xs.set j ⟨xs[j].fin,xs[j].tick,xs[j].on,⟨⟨xs[j].dialed.deal.ok,xs[j].dialed.deal.version,xs[j].dialed.deal.tags⟩,xs[j].dialed.tries,a⟩⟩).flatMap Am:=by subst hn;exact Dm (o:=7) Cx (by omega) h rfl
@[simp high] theorem ANp {xs:List Event} {j:Nat} (h:j<xs.length) (a:Int):(xs.flatMap BB).set (j*6) (.sc (.int .i64 a))=(xs.set j ⟨a,xs[j].n,⟨xs[j].box.limit,xs[j].box.drops,xs[j].box.strips,xs[j].box.lists⟩⟩).flatMap BB:=Dm (o:=0) EO (by omega) h rfl
@[simp high] theorem ANj {xs:List Event} {j:Nat} (h:j<xs.length) (a:Int):(xs.flatMap BB).set (j*6+1) (.sc (.int .i64 a))=(xs.set j ⟨xs[j].kind,a,⟨xs[j].box.limit,xs[j].box.drops,xs[j].box.strips,xs[j].box.lists⟩⟩).flatMap BB:=Dm (o:=1) EO (by omega) h rfl
@[simp high] theorem AM7 {xs:List Event} {j:Nat} (h:j<xs.length) (a:Int):(xs.flatMap BB).set (j*6+2) (.sc (.int .i64 a))=(xs.set j ⟨xs[j].kind,xs[j].n,⟨a,xs[j].box.drops,xs[j].box.strips,xs[j].box.lists⟩⟩).flatMap BB:=Dm (o:=2) EO (by omega) h rfl
@[simp high] theorem AM9 {xs:List Event} {j:Nat} (h:j<xs.length) {n:Nat} (a:List Int) (hn:n=a.length):(xs.flatMap BB).set (j*6+3) (.sl 0 1 n (ints a))=(xs.set j ⟨xs[j].kind,xs[j].n,⟨xs[j].box.limit,a,xs[j].box.strips,xs[j].box.lists⟩⟩).flatMap BB:=by subst hn;exact Dm (o:=3) EO (by omega) h rfl
@[simp high] theorem ANz {xs:List Event} {j:Nat} (h:j<xs.length) {n:Nat} (a:List Int) (hn:n=a.length):(xs.flatMap BB).set (j*6+4) (.sl 0 1 n (ints a))=(xs.set j ⟨xs[j].kind,xs[j].n,⟨xs[j].box.limit,xs[j].box.drops,a,xs[j].box.lists⟩⟩).flatMap BB:=by subst hn;exact Dm (o:=4) EO (by omega) h rfl
@[simp high] theorem ANA {xs:List Event} {j:Nat} (h:j<xs.length) (a:Bool):(xs.flatMap BB).set (j*6+5) (.sc (.bool a))=(xs.set j ⟨xs[j].kind,xs[j].n,⟨xs[j].box.limit,xs[j].box.drops,xs[j].box.strips,a⟩⟩).flatMap BB:=Dm (o:=5) EO (by omega) h rfl
end Go.Eng.T
namespace Go.Eng.T
theorem Apg {α:Type} {f:α→List V} {p:α→Prop}:∀ {xs:List (List V)},(∀x,x∈xs→∃d,x=f d∧p d)→∃ds:List α,xs=ds.map f∧∀d,d∈ds→p d
 | [],_=>⟨[],rfl,by simp⟩
 | x::xs,h=>by
  obtain⟨d,rfl,hd⟩:=h x (by simp)
  obtain⟨ds,rfl,hds⟩:=Apg (xs:=xs) fun y hy=>h y (by simp[hy])
  exact⟨d::ds,rfl,by intro y hy;rcases List.mem_cons.1 hy with rfl | hy;exact hd;exact hds y hy⟩
theorem Ah0 {α:Type} {y:Ty} {f:α→List V} {p:α→Prop} (hf:∀cs,Dat y cs→∃d,cs=f d∧p d) {cs:List V} (h:Dat (.sl y) cs):
 ∃ds:List α,cs=[.sl 0 y.cells ds.length (ds.flatMap f)]∧ds.length≤maxLen∧∀d,d∈ds→p d:=by
 simp only[Dat]at h
 obtain⟨xs,h1,h2,rfl⟩:=h
 obtain⟨ds,rfl,h3⟩:=Apg (f:=f) (p:=p) (xs:=xs) fun x hx=>hf x (h2 x hx)
 exact⟨ds,by simp[List.flatMap_def],by simpa using h1,h3⟩
end Go.Eng.T
namespace Go.Eng.T
theorem Auu {w:World} (h:Ai w≤4194304):w.log.length≤4194304:=by have:=FL (f:=Ay) (xs:=w.log);unfold Ai at h;omega
theorem DU {w:World} (h:Ai w≤4194304):w.ends.length≤4194304:=by have:=FL (f:=Ad) (xs:=w.ends);unfold Ai at h;omega
theorem VF {w:World} (h:Ai w≤4194304):w.stage.length≤4194304:=by have:=FL (f:=Ak) (xs:=w.stage);unfold Ai at h;omega
theorem AEL (a b:Int):(a==b)=decide (a=b):=by by_cases h:a=b<;>simp[h]
end Go.Eng.T
namespace Go.Eng.T
abbrev Ih (R:Rel):Prop:=∀(xs ys:List Int),xs.length≤maxLen→ys.length≤maxLen→R [.sl 1 1 xs.length (ints xs),.sl 1 1 ys.length (ints ys)] [] (B (decide (xs=ys))) []
end Go.Eng.T
namespace Go.Eng.T
theorem AfX {xs:List Int} {v:Int} {j:Nat} (h:j<xs.length) (hp:v∉xs.take j) (hv:¬xs[j]=v):v∉xs.take (j+1):=by
 rw[List.take_add_one,List.getElem?_eq_getElem h]
 intro hm
 rcases List.mem_append.1 hm with hm | hm
 ·exact hp hm
 ·simp at hm;exact hv hm.symm
theorem AkJ {xs:List Int} {v:Int} {j:Nat} (h:xs.length≤j) (hp:v∉xs.take j):v∉xs:=by rwa [List.take_of_length_le h]at hp
theorem AyT {xs:List Int} {v:Int} {j:Nat} (h:j<xs.length) (hv:xs[j]=v):v∈xs:=by rw[←hv];exact List.getElem_mem h
def AB1 (xs:List Int) (v:Int):Int:=if v∈xs then(xs.idxOf v:Nat)else -1
theorem AIx {xs:List Int} {v:Int} {j:Nat} (h:j<xs.length) (hp:v∉xs.take j) (hv:xs[j]=v):AB1 xs v=j:=by
 unfold AB1
 rw[if_pos (AyT h hv)]
 congr 1
 have e:xs=xs.take j++v::xs.drop (j+1):=by
  conv=>lhs;rw[←List.take_append_drop j xs,List.drop_eq_getElem_cons h,hv]
 rw[e,List.idxOf_append,if_neg hp]
 simp
 omega
theorem AKk {xs:List Int} {v:Int}:(0≤AB1 xs v)=(v∈xs):=by
 unfold AB1
 by_cases h:v∈xs<;>simp[h]
abbrev AwX (R:Rel):Prop:=∀(xs:List Int) (v:Int),xs.length≤maxLen→R [.sl 1 1 xs.length (ints xs),I v] [] (I (AB1 xs v)) []
theorem AKo (D:Dn):AwX (Body D Jr):=by
 intro xs v hl
 unfold maxLen at hl
 simp -implicitDefEqProofs
 refine Af (fun k s=>∃j,j+k=xs.length∧v∉xs.take j∧s=⟨[.sl 1 1 xs.length (ints xs),.sc (.int .i64 v),.undef,.undef,.sc (.int .i64 xs.length),.sc (.int .i64 j),.undef,.undef],[]⟩) ?_ xs.length _ ⟨0,by simp,by simp,by simp⟩
 intro k s ⟨j,hj,hp,hs⟩
 subst hs
 by_cases hjn:j<xs.length
 ·have hw:IntKind.i64.wrap ((j:Int)+1)=(j+1:Nat):=by rw[Ab (by omega) (by omega)];simp
  by_cases he:v=xs[j]
  ·have hx:=AIx hjn hp he.symm
   simp -implicitDefEqProofs [hjn,←he,hx]
  ·simp -implicitDefEqProofs [hjn,he]
   exact⟨k-1,by omega,j+1,by omega,AfX hjn hp (fun h=>he h.symm),by simp[hw]⟩
 ·have hx:AB1 xs v= -1:=by unfold AB1;rw[if_neg (AkJ (by omega) hp)]
  simp -implicitDefEqProofs [hjn,hx]
abbrev PN (R:Rel):Prop:=∀(xs:List Int) (v:Int),xs.length≤maxLen→R [.sl 1 1 xs.length (ints xs),I v] [] (B (decide (v∈xs))) []
theorem AAZ (D:Dn) (hI:AwX (D 389)):PN (Body D Ib):=by
 intro xs v hl
 simp -implicitDefEqProofs
 refine Aa (hI xs v hl) ?_
 simp -implicitDefEqProofs [AKk]
theorem AKp (D:Dn):PN (Body D AaK):=by
 intro xs v hl
 unfold maxLen at hl
 simp -implicitDefEqProofs
 refine Af (fun k s=>∃j,j+k=xs.length∧v∉xs.take j∧s=⟨[.sl 1 1 xs.length (ints xs),.sc (.int .i64 v),.undef,.sc (.int .i64 j),.undef,.undef],[]⟩) ?_ xs.length _ ⟨0,by simp,by simp,by simp⟩
 intro k s ⟨j,hj,hp,hs⟩
 subst hs
 by_cases hjn:j<xs.length
 ·have hw:IntKind.i64.wrap ((j:Int)+1)=(j+1:Nat):=by rw[Ab (by omega) (by omega)];simp
  by_cases he:xs[j]=v
  ·have hx:=AyT hjn he
   simp -implicitDefEqProofs [hjn,he,hx]
  ·simp -implicitDefEqProofs [hjn,he]
   exact⟨k-1,by omega,j+1,by omega,AfX hjn hp he,by simp[hw]⟩
 ·have hx:=AkJ (by omega) hp
  simp -implicitDefEqProofs [hjn,hx]
def K7 (v:Int) (d:Cu):Bool:= !d.deal.ok||(decide (d.deal.version<v)&&decide (v∈d.up))
def goodD (v:Int) (d:Cu):Bool:= !K7 v d&&decide (v≤d.deal.version)
def cntF {α:Type} (f:α→Bool) (xs:List α):Nat:=(xs.filter f).length
theorem XF {α:Type} {f:α→Bool} {xs:List α} {j:Nat} (h:j<xs.length):cntF f (xs.take (j+1))=cntF f (xs.take j)+(if f xs[j]then 1 else 0):=by
 unfold cntF
 rw[List.take_add_one,List.getElem?_eq_getElem h,List.filter_append,List.length_append]
 congr 1
 by_cases hf:f xs[j]<;>simp[hf]
theorem Adh {α:Type} {f:α→Bool} {xs:List α} {j:Nat} (h:j≤xs.length):cntF f (xs.take j)≤j:=by
 unfold cntF
 have:=List.length_filter_le f (xs.take j)
 simp at this
 omega
theorem AbE {α:Type} {f:α→Bool} {xs:List α} {j:Nat} (h:xs.length≤j):cntF f (xs.take j)=cntF f xs:=by rw[List.take_of_length_le h]
abbrev AWB (R:Rel):Prop:=∀(xs:List Event) (v:Int),xs.length≤maxLen→R [.sl 1 6 xs.length (xs.flatMap BB),I v] [] (I (cntF (fun e=>decide (e.kind=v)) xs)) []
theorem AXQ (D:Dn):AWB (Body D AVG):=by
 intro xs v hl
 unfold maxLen at hl
 simp -implicitDefEqProofs
 refine Af (fun k s=>∃j o0,j+k=xs.length∧s=⟨[.undef,.sc (.int .i64 v),.undef,.sc (.int .i64 (cntF (fun e=>decide (e.kind=v)) (xs.take j))),.undef,.sl 1 6 xs.length (xs.flatMap BB),.sc (.int .i64 xs.length),.sc (.int .i64 j),.undef,.undef],[o0]⟩) ?_ xs.length _ ⟨0,.free,by simp,by simp[cntF]⟩
 intro k s ⟨j,o0,hj,hs⟩
 subst hs
 by_cases hjn:j<xs.length
 ·have hw:IntKind.i64.wrap ((j:Int)+1)=(j+1:Nat):=by rw[Ab (by omega) (by omega)];simp
  have hc:=XF (f:=fun e:Event=>decide (e.kind=v)) hjn
  have hcl:=Adh (f:=fun e:Event=>decide (e.kind=v)) (xs:=xs) (j:=j) (by omega)
  have hw2:IntKind.i64.wrap ((cntF (fun e=>decide (e.kind=v)) (xs.take j):Int)+1)=(cntF (fun e=>decide (e.kind=v)) (xs.take j)+1:Nat):=by rw[Ab (by omega) (by omega)];simp
  by_cases he:xs[j].kind=v
  ·simp -implicitDefEqProofs [hjn,he]
   exact⟨k-1,by omega,j+1,by omega,by rw[hc,hw2];simp[he],by simp[hw]⟩
  ·simp -implicitDefEqProofs [hjn,he]
   exact⟨k-1,by omega,j+1,by omega,by rw[hc];simp[he],by simp[hw]⟩
 ·have hx:=AbE (f:=fun e:Event=>decide (e.kind=v)) (xs:=xs) (j:=j) (by omega)
  simp -implicitDefEqProofs [hjn,hx]
end Go.Eng.T
namespace Go.Eng.T
abbrev Mh (R:Rel):Prop:=∀(xs:List Cu) (v:Int),xs.length≤maxLen→(∀(j:Nat) (h:j<xs.length),xs[j].up.length≤maxLen)→
 R [.sl 1 5 xs.length (xs.flatMap Ap),I v] [] (.tup [I (cntF (goodD v) xs),I (cntF (K7 v) xs)]) []
theorem Ayt (D:Dn) (hH:PN (D 166)):Mh (Body D Uv):=by
 intro xs v hl hu
 unfold maxLen at hl
 simp -implicitDefEqProofs
 refine Af (fun k s=>∃j o0,j+k=xs.length∧s=⟨[.sl 1 5 xs.length (xs.flatMap Ap),.sc (.int .i64 v),.undef,.undef,.sc (.int .i64 (cntF (goodD v) (xs.take j))),.sc (.int .i64 (cntF (K7 v) (xs.take j))),.sc (.int .i64 j),.undef,.undef,.undef,.undef],[o0]⟩) ?_ xs.length _ ⟨0,.free,by simp,by simp[cntF]⟩
 intro k s ⟨j,o0,hj,hs⟩
 subst hs
 by_cases hjn:j<xs.length
 ·have hw:IntKind.i64.wrap ((j:Int)+1)=(j+1:Nat):=by rw[Ab (by omega) (by omega)];simp
  have hc:=XF (f:=goodD v) hjn
  have hb:=XF (f:=K7 v) hjn
  have hcl:=Adh (f:=goodD v) (xs:=xs) (j:=j) (by omega)
  have hbl:=Adh (f:=K7 v) (xs:=xs) (j:=j) (by omega)
  have hw2:IntKind.i64.wrap ((cntF (goodD v) (xs.take j):Int)+1)=(cntF (goodD v) (xs.take j)+1:Nat):=by rw[Ab (by omega) (by omega)];simp
  have hw3:IntKind.i64.wrap ((cntF (K7 v) (xs.take j):Int)+1)=(cntF (K7 v) (xs.take j)+1:Nat):=by rw[Ab (by omega) (by omega)];simp
  have fin:∀(a b:Bool),goodD v xs[j]=a→K7 v xs[j]=b→∀x y:Int,x=((cntF (goodD v) (xs.take j)+(if a then 1 else 0):Nat):Int)→y=((cntF (K7 v) (xs.take j)+(if b then 1 else 0):Nat):Int)→
   x=cntF (goodD v) (xs.take (j+1))∧y=cntF (K7 v) (xs.take (j+1)):=by
   intro a b ha hb' x y hx hy
   rw[hc,hb,ha,hb']
   exact⟨hx,hy⟩
  by_cases h1:xs[j].deal.ok=true
  ·by_cases h2:xs[j].deal.version<v
   ·simp -implicitDefEqProofs [hjn,h1,h2]
    refine Aa (hH xs[j].up v (hu j hjn)) ?_
    by_cases h3:v∈xs[j].up
    ·have g:=fin false true (by simp[goodD,K7,h1,h2,h3]) (by simp[K7,h1,h2,h3]) _ _ rfl rfl
     simp -implicitDefEqProofs [h3]
     exact⟨k-1,by omega,j+1,by omega,by simpa using g.1,by rw[hw3];simpa using g.2,by simp[hw]⟩
    ·have h4:¬v≤xs[j].deal.version:=by omega
     have g:=fin false false (by simp[goodD,K7,h1,h2,h3,h4]) (by simp[K7,h1,h2,h3]) _ _ rfl rfl
     simp -implicitDefEqProofs [h3,h4]
     exact⟨k-1,by omega,j+1,by omega,by simpa using g.1,by simpa using g.2,by simp[hw]⟩
   ·have h4:v≤xs[j].deal.version:=by omega
    have g:=fin true false (by simp[goodD,K7,h1,h2,h4]) (by simp[K7,h1,h2]) _ _ rfl rfl
    simp -implicitDefEqProofs [hjn,h1,h2,h4]
    exact⟨k-1,by omega,j+1,by omega,by rw[hw2];simpa using g.1,by simpa using g.2,by simp[hw]⟩
  ·have g:=fin false true (by simp[goodD,K7,h1]) (by simp[K7,h1]) _ _ rfl rfl
   simp -implicitDefEqProofs [hjn,h1]
   exact⟨k-1,by omega,j+1,by omega,by simpa using g.1,by rw[hw3];simpa using g.2,by simp[hw]⟩
 ·have hx:=AbE (f:=goodD v) (xs:=xs) (j:=j) (by omega)
  have hy:=AbE (f:=K7 v) (xs:=xs) (j:=j) (by omega)
  simp -implicitDefEqProofs [hjn,hx,hy]
abbrev GD (R:Rel):Prop:=∀(d:Cu) (v:Int),d.up.length≤maxLen→R [arg (Ap d),I v] [] (B (K7 v d)) []
theorem AwF (D:Dn) (hM:Mh (D 155)):GD (Body D Tt):=by
 intro d v hu
 simp -implicitDefEqProofs
 refine Aa (hM [d] v (by unfold maxLen;simp) (fun j h=>by have e:j=0:=(by simpa using h);subst e;exact hu)) ?_
 by_cases h:K7 v d<;>simp -implicitDefEqProofs [cntF,h]
theorem AKa (D:Dn) (hH:PN (D 188)):GD (Body D Abf):=by
 intro d v hu
 by_cases h1:d.deal.ok=true
 ·by_cases h2:d.deal.version<v
  ·simp -implicitDefEqProofs [h1,h2]
   refine Aa (hH d.up v hu) ?_
   simp -implicitDefEqProofs [K7,h1,h2]
  ·simp -implicitDefEqProofs [h1,h2,K7]
 ·simp -implicitDefEqProofs [h1,K7]
theorem Av4 (D:Dn) (hB:GD (D 229)):GD (Body D SH):=by
 intro d v hu
 simp -implicitDefEqProofs
 refine Aa (hB d v hu) ?_
 simp -implicitDefEqProofs
end Go.Eng.T
namespace Go.Eng.T
set_option maxRecDepth 20000
abbrev WO (a b c:Int):Prop:=b≤a∧a≤c
def IV (g b l p:Int):Int:=
 if¬WO g 0 10000∨¬WO b 0 10000∨¬WO l 1 10000∨¬WO p 0 100 then 0
 else if 100*b>p*l∧100*b>p*(g+b)then 2
 else if g+b<l then 0
 else if 100*b≤p*(g+b)then 1
 else 2
abbrev Ob (R:Rel):Prop:=∀g b l p:Int,R [I g,I b,I l,I p] [] (I (IV g b l p)) []
theorem Aby {p x:Int} (h1:0≤p) (h2:p≤100) (h3:0≤x) (h4:x≤20000):IntKind.i64.wrap (p*x)=p*x:=by
 have a1:0≤p*x:=Int.mul_nonneg h1 h3
 have a2:p*x≤100*20000:=Int.mul_le_mul h2 h4 h3 (by omega)
 exact Ab (by omega) (by omega)
theorem AyJ (D:Dn) (hI:TF (D Cw)):Ob (Body D Uy):=by
 intro g b l p
 simp -implicitDefEqProofs
 refine Aa (hI _ _ _) ?_
 by_cases h1:WO g 0 10000
 rotate_left
 ·simp -implicitDefEqProofs [h1,IV]
 simp -implicitDefEqProofs [h1]
 refine Aa (hI _ _ _) ?_
 by_cases h2:WO b 0 10000
 rotate_left
 ·simp -implicitDefEqProofs [h2,IV]
 simp -implicitDefEqProofs [h2]
 refine Aa (hI _ _ _) ?_
 by_cases h3:WO l 1 10000
 rotate_left
 ·simp -implicitDefEqProofs [h3,IV]
 simp -implicitDefEqProofs [h3]
 refine Aa (hI _ _ _) ?_
 by_cases h4:WO p 0 100
 rotate_left
 ·simp -implicitDefEqProofs [h4,IV]
 have w1:IntKind.i64.wrap (100*b)=100*b:=Ab (by omega) (by omega)
 have w2:=Aby h4.1 h4.2 (x:=l) (by omega) (by omega)
 have w3:=Aby h4.1 h4.2 (x:=g+b) (by omega) (by omega)
 have w4:IntKind.i64.wrap (g+b)=g+b:=Ab (by omega) (by omega)
 have e:IV g b l p=if 100*b>p*l∧100*b>p*(g+b)then 2 else if g+b<l then 0 else if 100*b≤p*(g+b)then 1 else 2:=by unfold IV;rw[if_neg (by simp[h1,h2,h3,h4])]
 rw[e]
 clear e
 by_cases c1:p*l<100*b
 ·by_cases c2:p*(g+b)<100*b
  ·simp -implicitDefEqProofs [h4,w1,w2,w3,w4,c1,c2]
  ·have c3:100*b≤p*(g+b):=by omega
   by_cases c4:g+b<l
   ·simp -implicitDefEqProofs [h4,w1,w2,w3,w4,c1,c2,c3,c4]
   ·simp -implicitDefEqProofs [h4,w1,w2,w3,w4,c1,c2,c3,c4]
 ·by_cases c4:g+b<l
  ·simp -implicitDefEqProofs [h4,w1,w2,w3,w4,c1,c4]
  ·by_cases c3:100*b≤p*(g+b)
   ·simp -implicitDefEqProofs [h4,w1,w2,w3,w4,c1,c3,c4]
   ·simp -implicitDefEqProofs [h4,w1,w2,w3,w4,c1,c3,c4]
end Go.Eng.T
namespace Go.Eng.T
set_option maxRecDepth 20000
def JS {α:Type} (p:α→Bool):List α→Int→Int
 | [],_=> -1
 | x::r,i=>if p x then i else JS p r (i+1)
theorem XL {α:Type} {p:α→Bool} {xs:List α} {j:Nat} (h:j<xs.length):JS p (xs.drop j) j=if p xs[j]then(j:Int)else JS p (xs.drop (j+1)) ((j:Int)+1):=by
 rw[List.drop_eq_getElem_cons h];rfl
theorem Aau {α:Type} {p:α→Bool} {xs:List α} {j:Nat} (h:xs.length≤j):JS p (xs.drop j) j= -1:=by rw[List.drop_eq_nil_of_le h];rfl
theorem Zt {α:Type} {p:α→Bool}:∀ {xs:List α} {i:Int},0≤i→(0≤JS p xs i)=(xs.any p=true)
 | [],i,_=>by simp[JS]
 | x::r,i,h=>by
  by_cases hp:p x=true
  ·simp[JS,hp,h]
  ·have:=Zt (p:=p) (xs:=r) (i:=i+1) (by omega)
   simp[JS,hp]at *
   exact this
def PU (caps:List V):Prop:=(∀(H:Hp) (n:Nat),Kc H n (caps.map fun v=>(false,v))=some [])∧(∀(H Hr:Hp) (n:Nat),Jp H Hr n (caps.map fun v=>(false,v))=some caps)∧∀H:Hp,ABV H caps=some caps
theorem I7:PU []:=⟨fun _ _=>rfl,fun _ _ _=>rfl,fun _=>rfl⟩
theorem AdL {v:V} {r:List V} (hv:∀H,ro H v=some v) (hv2:∀H,ro2 H v=some v) (h:PU r):PU (v::r):=
 ⟨fun H n=>h.1 H n,fun H Hr n=>by simp only[List.map_cons,Jp,hv,h.2.1],fun H=>by simp only[ABV,hv2,h.2.2]⟩
theorem Aj6 {a:Int} {r:List V} (h:PU r):PU (.rptr 1 [.sc (.int .i64 a)] 0::r):=AdL (fun H=>by simp) (fun H=>by simp) h
abbrev Zf (D:Dn) (R:Rel):Prop:=∀(xs:List Int) (g:Nat) (caps:List V) (p:Int→Bool),xs.length≤maxLen→PU caps→(∀x:Int,D g (I x::caps) [] (B (p x)) [])→
 R [.sl 1 1 xs.length (ints xs),.fn g caps] [] (I (JS p xs 0)) []
theorem AyK (D:Dn):Zf D (Body D HZ):=by
 intro xs g caps p hl hc hp
 unfold maxLen at hl
 simp -implicitDefEqProofs
 refine Af (fun k s=>∃j,j+k=xs.length∧JS p xs 0=JS p (xs.drop j) j∧s=⟨[.sl 1 1 xs.length (ints xs),.fn g caps,.undef,.undef,.sc (.int .i64 xs.length),.sc (.int .i64 j),.undef,.undef],[]⟩) ?_ xs.length _ ⟨0,by simp,by simp,by simp⟩
 intro k s ⟨j,hj,hi,hs⟩
 subst hs
 by_cases hjn:j<xs.length
 ·have hw:IntKind.i64.wrap ((j:Int)+1)=(j+1:Nat):=by rw[Ab (by omega) (by omega)];simp
  rw[XL hjn]at hi
  simp -implicitDefEqProofs [hjn,hc.1,hc.2.1]
  refine Aa (hp xs[j]) ?_
  by_cases he:p xs[j]=true
  ·rw[if_pos he]at hi
   simp -implicitDefEqProofs [he,hi]
  ·rw[if_neg he]at hi
   simp -implicitDefEqProofs [he]
   exact⟨k-1,by omega,j+1,by omega,by simpa using hi,by simp[hw]⟩
 ·rw[Aau (by omega)]at hi
  simp -implicitDefEqProofs [hjn,hi]
abbrev M7 (D:Dn) (R:Rel):Prop:=∀(xs:List Int) (g:Nat) (caps:List V) (p:Int→Bool),xs.length≤maxLen→PU caps→(∀x:Int,D g (I x::caps) [] (B (p x)) [])→
 R [.sl 1 1 xs.length (ints xs),.fn g caps] [] (B (xs.any p)) []
theorem An9 (D:Dn) (hI:Zf D (D SE)):M7 D (Body D Gv):=by
 intro xs g caps p hl hc hp
 simp -implicitDefEqProofs [hc.2.2]
 refine Aa (hI xs g caps p hl hc hp) ?_
 have e:decide (0≤JS p xs 0)=xs.any p:=by rw[Bool.eq_iff_iff];simp only[decide_eq_true_eq];rw[Zt (by omega)]
 simp -implicitDefEqProofs [e]
def allIn (xs:List Int) (lo hi:Int):Bool:=xs.all fun x=>decide (WO x lo hi)
abbrev J2 (R:Rel):Prop:=∀(xs:List Int) (lo hi:Int),xs.length≤maxLen→R [.sl 1 1 xs.length (ints xs),I lo,I hi] [] (B (allIn xs lo hi)) []
abbrev Ue (R:Rel):Prop:=∀(x lo hi:Int),R [I x,.rptr 1 [I lo] 0,.rptr 1 [I hi] 0] [] (B (!decide (WO x lo hi))) []
theorem Aty (D:Dn) (hI:TF (D BP)):Ue (Body D Nk):=by
 intro x lo hi
 simp -implicitDefEqProofs
 refine Aa (hI _ _ _) ?_
 simp -implicitDefEqProofs
theorem AvL (D:Dn) (h1:Ue (D Adt)) (hC:M7 D (D Jy)):J2 (Body D QO):=by
 intro xs lo hi hl
 simp -implicitDefEqProofs
 refine Aa (hC xs 266 _ (fun x=> !decide (WO x lo hi)) hl (Aj6 (Aj6 I7)) (fun x=>h1 x lo hi)) ?_
 have e:(xs.any fun x=> !decide (WO x lo hi))= !allIn xs lo hi:=by unfold allIn;rw[List.all_eq_not_any_not];simp
 generalize(xs.any fun x=> !decide (WO x lo hi))=b at e⊢
 subst e
 simp -implicitDefEqProofs
end Go.Eng.T
namespace Go.Eng.T
structure Ext where
 tag:Int
 body:List Int
 deriving DecidableEq
structure Hello where
 versions:List Int
 exts:List Ext
 deriving DecidableEq
structure Vu where
 version:Int
 exts:List Ext
 deriving DecidableEq
def Ce (x:Ext):List V:=[.sc (.int .i64 x.tag),.sl 0 1 x.body.length (ints x.body)]
def DJ (h:Hello):List V:=[.sl 0 1 h.versions.length (ints h.versions),.sl 0 2 h.exts.length (h.exts.flatMap Ce)]
def AbF (a:Vu):List V:=[.sc (.int .i64 a.version),.sl 0 2 a.exts.length (a.exts.flatMap Ce)]
theorem Aa1 (x:Ext):(Ce x).length=2:=rfl
@[simp] theorem AOl (xs:List Ext):(xs.flatMap Ce).map (Be 0)=xs.flatMap Ce:=AbM (fun _=>rfl) xs
@[simp high] theorem AOk {xs:List Ext} {j:Nat} (h:j<xs.length):Iy (xs.flatMap Ce) (j*2) 2=some (Ce xs[j]):=QD Aa1 h
@[simp high] theorem Uq (xs:List Ext):(xs.flatMap Ce).length=xs.length*2:=O0 Aa1 xs
@[simp high] theorem AOp {xs:List Ext} {j:Nat} (h:j<xs.length):(xs.flatMap Ce)[j*2]? =some (.sc (.int .i64 xs[j].tag)):=by
 have:=Bc (o:=0) Aa1 h (by omega)
 simpa[Ce]using this
@[simp high] theorem AOc {xs:List Ext} {j:Nat} (h:j<xs.length):(xs.flatMap Ce)[j*2+1]? =some (.sl 0 1 xs[j].body.length (ints xs[j].body)):=by
 have:=Bc (o:=1) Aa1 h (by omega)
 simpa[Ce]using this
theorem AFv {α:Type} {f:α→List V} {e:Nat} (hf:∀x,(f x).length=e) (xs:List α) (i:Nat):(xs.flatMap f).take (i*e)=(xs.take i).flatMap f:=by
 induction xs generalizing i with
 | nil=>simp
 | cons x xs ih=>
  cases i with
  | zero=>simp
  | succ i=>
   simp only[List.flatMap_cons,List.take_succ_cons]
   rw[←ih i,show(i+1)*e=(f x).length+i*e by rw[hf,Nat.add_mul];omega,List.take_length_add_append]
theorem AEX {α:Type} {f:α→List V} {e:Nat} (hf:∀x,(f x).length=e) (xs:List α) (o n:Nat):part (xs.flatMap f) e o n=((xs.drop o).take n).flatMap f:=by
 unfold part
 rw[AbW hf,AFv hf]
@[simp high] theorem ANm (xs:List Ext) (o n:Nat):part (xs.flatMap Ce) 2 o n=((xs.drop o).take n).flatMap Ce:=AEX Aa1 xs o n
attribute [simp] Ce DJ AbF
def WQ (l:List Ext):Prop:=l.length≤4194304∧∀x,x∈l→x.body.length≤4194304
theorem OV {l:List Ext} (h:WQ l) {j:Nat} (hj:j<l.length):l[j].body.length≤4194304:=h.2 _ (List.getElem_mem hj)
theorem Agb:WQ []:=⟨by simp,by simp⟩
theorem ACQ {l:List Ext} (h:WQ l) (p:Ext→Bool):WQ (l.filter p):=
 ⟨Nat.le_trans (List.length_filter_le p l) h.1,fun x hx=>h.2 x (List.mem_filter.1 hx).1⟩
def VJ (q:Nat→Bool) (j:Nat):Bool:=(List.range j).all q
@[simp] theorem AM6 (q:Nat→Bool):VJ q 0=true:=rfl
theorem Qi (q:Nat→Bool) (j:Nat):VJ q (j+1)=(VJ q j&&q j):=by
 unfold VJ
 rw[List.range_succ,List.all_append]
 simp
theorem AxM {q:Nat→Bool} {j n:Nat} (h:j<n) (hn:q j=false):VJ q n=false:=by
 have:∀m,VJ q (j+1+m)=false:=by
  intro m
  induction m with
  | zero=>rw[Nat.add_zero,Qi,hn];simp
  | succ m ih=>rw[show j+1+(m+1)=(j+1+m)+1 by omega,Qi,ih];rfl
 have:=this (n-(j+1))
 rwa [show j+1+(n-(j+1))=n by omega]at this
theorem AF3 {q:Nat→Bool} {n:Nat}:VJ q n=true↔∀i,i<n→q i=true:=by
 unfold VJ
 rw[List.all_eq_true]
 simp
theorem Ars {α:Type} {p:α→Bool} {xs:List α} {j:Nat} (h:j<xs.length):(xs.take (j+1)).filter p=(xs.take j).filter p++(if p xs[j]then [xs[j]]else []):=by
 have e:xs.take (j+1)=xs.take j++ [xs[j]]:=by simp
 rw[e,List.filter_append]
 by_cases hp:p xs[j]=true<;>simp[hp]
theorem AhR {α:Type} {p:α→Bool} {xs:List α} {j:Nat} (h:xs.length≤j):(xs.take j).filter p=xs.filter p:=by rw[List.take_of_length_le h]
theorem AuF {α:Type} {p:α→Bool} {xs:List α} {j:Nat}:((xs.take j).filter p).length≤j:=by
 have:=List.length_filter_le p (xs.take j)
 have h2:(xs.take j).length≤j:=by simp;omega
 omega
end Go.Eng.T
namespace Go.Eng.T
set_option maxRecDepth 20000
abbrev H6 (R:Rel):Prop:=∀r:Cr,AU r≤4194304→R [arg (Gg r)] [] (.agg (Gg r)) []
theorem AFA (D:Dn):H6 (Body D Ww):=by
 intro r h
 have hb:r.stages.length*8≤1099511627776:=by unfold AU at h;omega
 simp -implicitDefEqProofs [hb]
theorem AsC (D:Dn):H6 (Body D OQ):=by
 intro r h
 have hb:r.stages.length*8≤1099511627776:=by unfold AU at h;omega
 simp -implicitDefEqProofs [hb]
abbrev KJ (R:Rel):Prop:=∀d:Cu,Ak d≤4194304→R [arg (Ap d)] [] (.agg (Ap d)) []
theorem AAk (D:Dn):KJ (Body D RV):=by
 intro d h
 unfold Ak EN at h
 have h1:d.deal.tags.length*8≤1099511627776:=by omega
 have h2:d.up.length*8≤1099511627776:=by omega
 simp -implicitDefEqProofs [h1,h2]
theorem Avx (D:Dn):KJ (Body D QF):=by
 intro d h
 unfold Ak EN at h
 have h1:d.deal.tags.length*8≤1099511627776:=by omega
 have h2:d.up.length*8≤1099511627776:=by omega
 simp -implicitDefEqProofs [h1,h2]
theorem Od {α:Type} {f:α→List V} {xs:List α} {j:Nat} (h:j<xs.length):(xs.take j).flatMap f++f xs[j]=(xs.take (j+1)).flatMap f:=by
 have e:xs.take (j+1)=xs.take j++ [xs[j]]:=by simp
 rw[e,List.flatMap_append];simp
abbrev Af6 (R:Rel):Prop:=∀xs:List H9,AP BD xs≤4194304→R [.sl 1 4 xs.length (xs.flatMap CW)] [] (.sl 0 4 xs.length (xs.flatMap CW)) []
theorem ABL (D:Dn):Af6 (Body D Ux):=by
 intro xs h
 have hlen:=FL (f:=BD) (xs:=xs)
 simp -implicitDefEqProofs
 refine Af (fun k s=>∃j o1 o2 o3 o4 o5 o6 o7,j+k=xs.length∧s=⟨[.undef,.undef,.arr 8,.undef,.sl 1 4 xs.length (xs.flatMap CW),.sc (.int .i64 xs.length),.sc (.int .i64 j),.undef],[.free,o1,o2,o3,o4,o5,o6,o7,.arr 4 0 j ((xs.take j).flatMap CW)]⟩) ?_ xs.length _ ⟨0,.free,.free,.free,.free,.free,.free,.free,by simp,by simp⟩
 intro k s ⟨j,o1,o2,o3,o4,o5,o6,o7,hj,hs⟩
 subst hs
 by_cases hjn:j<xs.length
 ·have hw:IntKind.i64.wrap ((j:Int)+1)=(j+1:Nat):=by rw[Ab (by omega) (by omega)];simp
  have hsz:=size_at (f:=BD) hjn
  have e:BD xs[j]=xs[j].drops.length+xs[j].strips.length:=rfl
  have h1:xs[j].drops.length*8≤1099511627776:=by omega
  have h2:xs[j].strips.length*8≤1099511627776:=by omega
  have h3:(j+1)*64≤1099511627776:=by omega
  have hst:=Od (f:=CW) hjn
  simp -implicitDefEqProofs [hjn,h1,h2,h3]
  exact⟨k-1,by omega,j+1,by omega,by simp[hw],rfl,by rw[←hst];rfl⟩
 ·obtain rfl:j=xs.length:=by omega
  simp -implicitDefEqProofs
abbrev JV (R:Rel):Prop:=∀x:Az,Ad x≤4194304→R [arg (Ag x)] [] (.agg (Ag x)) []
theorem ApJ (D:Dn) (hP:Af6 (D AaR)):JV (Body D NH):=by
 intro x h
 unfold Ad at h
 have h1:x.versions.length*8≤1099511627776:=by omega
 have h2:x.tags.length*8≤1099511627776:=by omega
 simp -implicitDefEqProofs [h1,h2]
 refine Aa (hP x.path (by omega)) ?_
 simp -implicitDefEqProofs
theorem AIB (D:Dn):JV (Body D Y8):=by
 intro x h
 unfold Ad at h
 have h1:x.versions.length*8≤1099511627776:=by omega
 have h2:x.tags.length*8≤1099511627776:=by omega
 have hlen:=FL (f:=BD) (xs:=x.path)
 simp -implicitDefEqProofs [h1,h2]
 refine Af (fun k s=>∃j o7 o8 o9 o10 o11 o12 o13,j+k=x.path.length∧s=⟨[.undef,.ptr 0 0,.ptr 1 0,.ptr 6 0,.sc (.int .i64 j),.undef,.undef],[.var ((Ag x).map (Be 1)),.var [.nil 1,.nil 1,.nil 4,.sc (.int .i64 0)],.dead,.arr 1 0 x.versions.length (ints x.versions),.dead,.arr 1 0 x.tags.length (ints x.tags),.var [.arr 3,.arr 5,.arr 14,.sc (.int .i64 x.cls)],o7,o8,o9,o10,o11,o12,o13,.arr 4 0 j ((x.path.take j).flatMap CW)]⟩) ?_ x.path.length _ ⟨0,.free,.free,.free,.free,.free,.free,.free,by simp,by simp⟩
 intro k s ⟨j,o7,o8,o9,o10,o11,o12,o13,hj,hs⟩
 subst hs
 by_cases hjn:j<x.path.length
 ·have hw:IntKind.i64.wrap ((j:Int)+1)=(j+1:Nat):=by rw[Ab (by omega) (by omega)];simp
  have hsz:=size_at (f:=BD) hjn
  have e:BD x.path[j]=x.path[j].drops.length+x.path[j].strips.length:=rfl
  have h1:x.path[j].drops.length*8≤1099511627776:=by omega
  have h2:x.path[j].strips.length*8≤1099511627776:=by omega
  have h3:(j+1)*64≤1099511627776:=by omega
  have hst:=Od (f:=CW) hjn
  simp -implicitDefEqProofs [hjn,h1,h2,h3]
  exact⟨k-1,by omega,j+1,by omega,by simp[hw],rfl,by rw[←hst];rfl⟩
 ·obtain rfl:j=x.path.length:=by omega
  simp -implicitDefEqProofs
end Go.Eng.T
namespace Go.Eng.T
set_option maxRecDepth 20000
theorem VH {w:World} (h:Ai w≤4194304):AU w.rollout≤4194304:=by unfold Ai at h;omega
theorem QS {w:World} (h:Ai w≤4194304):w.server.length≤4194304∧w.tags.length≤4194304∧AP Ad w.ends≤4194304∧AP Ak w.stage≤4194304∧AP Ay w.log≤4194304:=by unfold Ai at h;omega
abbrev CV (R:Rel):Prop:=∀w:World,Ai w≤4194304→R [arg (Cc w)] [] (.agg (Cc w)) []
theorem AEs (D:Dn) (hE:JV (D Avc)) (hR:H6 (D Xj)) (hD:KJ (D ZE)):CV (Body D WV):=by
 intro w h
 have hl:=Auu h
 have he:=DU h
 have hs:=VF h
 have hr:=VH h
 have z:=QS h
 have b1:w.server.length*8≤1099511627776:=by omega
 have b2:w.tags.length*8≤1099511627776:=by omega
 simp -implicitDefEqProofs [b1,b2]
 refine Af (fun k s=>∃j o8 o9 o10 o11 o12,j+k=w.ends.length∧s=⟨[.undef,.ptr 0 0,.ptr 1 0,.ptr 2 0,.sc (.int .i64 j),.undef,.undef,.undef,.undef,.undef],[.var ((Cc w).map (Be 1)),.var [.nil 1,.nil 1,.sc (.int .i64 0),.nil 4,.sc (.int .i64 0),.nil 1,.sc (.int .i64 0),.sc (.bool false),.sc (.int .i64 0),.sc (.int .i64 0),.nil 5,.nil 8,.sc (.int .i64 0),.sc (.int .i64 0),.sc (.int .i64 0)],.var [.arr 4,.arr 6,.sc (.int .i64 w.key),.arr 24,.sc (.int .i64 w.rollout.version),.sl 1 1 w.rollout.stages.length (ints w.rollout.stages),.sc (.int .i64 w.rollout.pos),.sc (.bool w.rollout.off),.sc (.int .i64 w.least),.sc (.int .i64 w.percent),.sl 1 5 w.stage.length (w.stage.flatMap Ap),.sl 1 8 w.log.length (w.log.flatMap Am),.sc (.int .i64 w.now),.sc (.int .i64 w.hurt),.sc (.int .i64 w.reached)],.dead,.arr 1 0 w.server.length (ints w.server),.dead,.arr 1 0 w.tags.length (ints w.tags),.free,o8,o9,o10,o11,o12,.free,.free,.free,.free,.free,.free,.free,.free,.free,.free,.free,.arr 4 0 j ((w.ends.take j).flatMap Ag),.free,.free]⟩) ?_ w.ends.length _ ⟨0,by simp⟩
 intro k s ⟨j,o8,o9,o10,o11,o12,hj,hs'⟩
 subst hs'
 by_cases hjn:j<w.ends.length
 ·have hw:IntKind.i64.wrap ((j:Int)+1)=(j+1:Nat):=by rw[Ab (by omega) (by omega)];simp
  have hsz:=size_at (f:=Ad) hjn
  have h3:(j+1)*80≤1099511627776:=by omega
  have hst:=Od (f:=Ag) hjn
  simp -implicitDefEqProofs [hjn]
  refine Aa (hE w.ends[j] (by first | omega | (simp only[Ay]at hsz;omega))) ?_
  simp -implicitDefEqProofs [hjn,h3]
  exact⟨k-1,by omega,j+1,by omega,by simp[hw],rfl,by rw[←hst];rfl⟩
 obtain rfl:j=w.ends.length:=by omega
 simp -implicitDefEqProofs
 refine Aa (hR w.rollout hr) ?_
 simp -implicitDefEqProofs
 refine Af (fun k s=>∃j o8 o9 o10 o11 o12 o15 o16 o17 o18,j+k=w.stage.length∧s=⟨[.undef,.ptr 0 0,.ptr 1 0,.ptr 2 0,.undef,.sc (.int .i64 j),.undef,.undef,.undef,.undef],[.var ((Cc w).map (Be 1)),.var [.nil 1,.nil 1,.sc (.int .i64 0),.nil 4,.sc (.int .i64 0),.nil 1,.sc (.int .i64 0),.sc (.bool false),.sc (.int .i64 0),.sc (.int .i64 0),.nil 5,.nil 8,.sc (.int .i64 0),.sc (.int .i64 0),.sc (.int .i64 0)],.var [.arr 4,.arr 6,.sc (.int .i64 w.key),.arr 24,.sc (.int .i64 w.rollout.version),.arr 13,.sc (.int .i64 w.rollout.pos),.sc (.bool w.rollout.off),.sc (.int .i64 w.least),.sc (.int .i64 w.percent),.arr 25,.sl 1 8 w.log.length (w.log.flatMap Am),.sc (.int .i64 w.now),.sc (.int .i64 w.hurt),.sc (.int .i64 w.reached)],.dead,.arr 1 0 w.server.length (ints w.server),.dead,.arr 1 0 w.tags.length (ints w.tags),.free,o8,o9,o10,o11,o12,.arr 1 0 w.rollout.stages.length (ints w.rollout.stages),.free,o15,o16,o17,o18,.free,.free,.free,.free,.free,.arr 4 0 w.ends.length (w.ends.flatMap Ag),.arr 5 0 j ((w.stage.take j).flatMap Ap),.free]⟩) ?_ w.stage.length _ ⟨0,by simp⟩
 intro k s ⟨j,o8,o9,o10,o11,o12,o15,o16,o17,o18,hj,hs'⟩
 subst hs'
 by_cases hjn:j<w.stage.length
 ·have hw:IntKind.i64.wrap ((j:Int)+1)=(j+1:Nat):=by rw[Ab (by omega) (by omega)];simp
  have hsz:=size_at (f:=Ak) hjn
  have h3:(j+1)*72≤1099511627776:=by omega
  have hst:=Od (f:=Ap) hjn
  simp -implicitDefEqProofs [hjn]
  refine Aa (hD w.stage[j] (by first | omega | (simp only[Ay]at hsz;omega))) ?_
  simp -implicitDefEqProofs [hjn,h3]
  exact⟨k-1,by omega,j+1,by omega,by simp[hw],rfl,by rw[←hst];rfl⟩
 obtain rfl:j=w.stage.length:=by omega
 simp -implicitDefEqProofs
 refine Af (fun k s=>∃j o8 o9 o10 o11 o12 o15 o16 o17 o18 o20 o21 o22 o23,j+k=w.log.length∧s=⟨[.undef,.ptr 0 0,.ptr 1 0,.ptr 2 0,.undef,.undef,.sc (.int .i64 j),.undef,.undef,.undef],[.var ((Cc w).map (Be 1)),.var [.nil 1,.nil 1,.sc (.int .i64 0),.nil 4,.sc (.int .i64 0),.nil 1,.sc (.int .i64 0),.sc (.bool false),.sc (.int .i64 0),.sc (.int .i64 0),.nil 5,.nil 8,.sc (.int .i64 0),.sc (.int .i64 0),.sc (.int .i64 0)],.var [.arr 4,.arr 6,.sc (.int .i64 w.key),.arr 24,.sc (.int .i64 w.rollout.version),.arr 13,.sc (.int .i64 w.rollout.pos),.sc (.bool w.rollout.off),.sc (.int .i64 w.least),.sc (.int .i64 w.percent),.arr 25,.arr 26,.sc (.int .i64 w.now),.sc (.int .i64 w.hurt),.sc (.int .i64 w.reached)],.dead,.arr 1 0 w.server.length (ints w.server),.dead,.arr 1 0 w.tags.length (ints w.tags),.free,o8,o9,o10,o11,o12,.arr 1 0 w.rollout.stages.length (ints w.rollout.stages),.free,o15,o16,o17,o18,.free,o20,o21,o22,o23,.arr 4 0 w.ends.length (w.ends.flatMap Ag),.arr 5 0 w.stage.length (w.stage.flatMap Ap),.arr 8 0 j ((w.log.take j).flatMap Am)]⟩) ?_ w.log.length _ ⟨0,by simp⟩
 intro k s ⟨j,o8,o9,o10,o11,o12,o15,o16,o17,o18,o20,o21,o22,o23,hj,hs'⟩
 subst hs'
 by_cases hjn:j<w.log.length
 ·have hw:IntKind.i64.wrap ((j:Int)+1)=(j+1:Nat):=by rw[Ab (by omega) (by omega)];simp
  have hsz:=size_at (f:=Ay) hjn
  have h3:(j+1)*96≤1099511627776:=by omega
  have hst:=Od (f:=Am) hjn
  simp -implicitDefEqProofs [hjn]
  refine Aa (hD w.log[j].dialed (by first | omega | (simp only[Ay]at hsz;omega))) ?_
  simp -implicitDefEqProofs [hjn,h3]
  exact⟨k-1,by omega,j+1,by omega,by simp[hw],rfl,by rw[←hst];rfl⟩
 obtain rfl:j=w.log.length:=by omega
 simp -implicitDefEqProofs
theorem AzH (D:Dn) (hE:JV (D AdJ)) (hR:H6 (D OG)) (hD:KJ (D X9)):CV (Body D Sb):=by
 intro w h
 have hl:=Auu h
 have he:=DU h
 have hs:=VF h
 have hr:=VH h
 have z:=QS h
 have b1:w.server.length*8≤1099511627776:=by omega
 have b2:w.tags.length*8≤1099511627776:=by omega
 simp -implicitDefEqProofs [b1,b2]
 refine Aa (hR w.rollout hr) ?_
 simp -implicitDefEqProofs
 refine Af (fun k s=>∃j o8 o9 o10 o11 o12 o13,j+k=w.ends.length∧s=⟨[.undef,.ptr 0 0,.ptr 1 0,.ptr 2 0,.undef,.undef,.undef,.sl 1 4 w.ends.length (w.ends.flatMap Ag),.sc (.int .i64 w.ends.length),.sc (.int .i64 j),.undef,.undef,.undef,.undef,.undef,.undef,.undef,.undef,.undef],[.var ((Cc w).map (Be 1)),.var [.nil 1,.nil 1,.sc (.int .i64 0),.nil 4,.sc (.int .i64 0),.nil 1,.sc (.int .i64 0),.sc (.bool false),.sc (.int .i64 0),.sc (.int .i64 0),.nil 5,.nil 8,.sc (.int .i64 0),.sc (.int .i64 0),.sc (.int .i64 0)],.var [.arr 4,.arr 6,.sc (.int .i64 w.key),.arr 24,.sc (.int .i64 w.rollout.version),.arr 7,.sc (.int .i64 w.rollout.pos),.sc (.bool w.rollout.off),.sc (.int .i64 w.least),.sc (.int .i64 w.percent),.arr 25,.arr 26,.sc (.int .i64 w.now),.sc (.int .i64 w.hurt),.sc (.int .i64 w.reached)],.dead,.arr 1 0 w.server.length (ints w.server),.dead,.arr 1 0 w.tags.length (ints w.tags),.arr 1 0 w.rollout.stages.length (ints w.rollout.stages),o8,o9,o10,o11,o12,o13,.free,.free,.free,.free,.free,.free,.free,.free,.free,.free,.arr 4 0 j ((w.ends.take j).flatMap Ag),.arr 5 0 0 [],.arr 8 0 0 []]⟩) ?_ w.ends.length _ ⟨0,by simp⟩
 intro k s ⟨j,o8,o9,o10,o11,o12,o13,hj,hs'⟩
 subst hs'
 by_cases hjn:j<w.ends.length
 ·have hw:IntKind.i64.wrap ((j:Int)+1)=(j+1:Nat):=by rw[Ab (by omega) (by omega)];simp
  have hsz:=size_at (f:=Ad) hjn
  have h3:(j+1)*80≤1099511627776:=by omega
  have hst:=Od (f:=Ag) hjn
  simp -implicitDefEqProofs [hjn]
  refine Aa (hE w.ends[j] (by first | omega | (simp only[Ay]at hsz;omega))) ?_
  simp -implicitDefEqProofs [hjn,h3]
  exact⟨k-1,by omega,j+1,by omega,by simp[hw],rfl,by rw[←hst];rfl⟩
 obtain rfl:j=w.ends.length:=by omega
 simp -implicitDefEqProofs
 refine Af (fun k s=>∃j o8 o9 o10 o11 o12 o13 o14 o15 o16 o17 o18,j+k=w.stage.length∧s=⟨[.undef,.ptr 0 0,.ptr 1 0,.ptr 2 0,.undef,.undef,.undef,.undef,.undef,.undef,.undef,.sl 1 5 w.stage.length (w.stage.flatMap Ap),.sc (.int .i64 w.stage.length),.sc (.int .i64 j),.undef,.undef,.undef,.undef,.undef],[.var ((Cc w).map (Be 1)),.var [.nil 1,.nil 1,.sc (.int .i64 0),.nil 4,.sc (.int .i64 0),.nil 1,.sc (.int .i64 0),.sc (.bool false),.sc (.int .i64 0),.sc (.int .i64 0),.nil 5,.nil 8,.sc (.int .i64 0),.sc (.int .i64 0),.sc (.int .i64 0)],.var [.arr 4,.arr 6,.sc (.int .i64 w.key),.arr 24,.sc (.int .i64 w.rollout.version),.arr 7,.sc (.int .i64 w.rollout.pos),.sc (.bool w.rollout.off),.sc (.int .i64 w.least),.sc (.int .i64 w.percent),.arr 25,.arr 26,.sc (.int .i64 w.now),.sc (.int .i64 w.hurt),.sc (.int .i64 w.reached)],.dead,.arr 1 0 w.server.length (ints w.server),.dead,.arr 1 0 w.tags.length (ints w.tags),.arr 1 0 w.rollout.stages.length (ints w.rollout.stages),o8,o9,o10,o11,o12,o13,o14,o15,o16,o17,o18,.free,.free,.free,.free,.free,.arr 4 0 w.ends.length (w.ends.flatMap Ag),.arr 5 0 j ((w.stage.take j).flatMap Ap),.arr 8 0 0 []]⟩) ?_ w.stage.length _ ⟨0,by simp⟩
 intro k s ⟨j,o8,o9,o10,o11,o12,o13,o14,o15,o16,o17,o18,hj,hs'⟩
 subst hs'
 by_cases hjn:j<w.stage.length
 ·have hw:IntKind.i64.wrap ((j:Int)+1)=(j+1:Nat):=by rw[Ab (by omega) (by omega)];simp
  have hsz:=size_at (f:=Ak) hjn
  have h3:(j+1)*72≤1099511627776:=by omega
  have hst:=Od (f:=Ap) hjn
  simp -implicitDefEqProofs [hjn]
  refine Aa (hD w.stage[j] (by first | omega | (simp only[Ay]at hsz;omega))) ?_
  simp -implicitDefEqProofs [hjn,h3]
  exact⟨k-1,by omega,j+1,by omega,by simp[hw],rfl,by rw[←hst];rfl⟩
 obtain rfl:j=w.stage.length:=by omega
 simp -implicitDefEqProofs
 refine Af (fun k s=>∃j o8 o9 o10 o11 o12 o13 o14 o15 o16 o17 o18 o19 o20 o21 o22 o23,j+k=w.log.length∧s=⟨[.undef,.undef,.ptr 1 0,.ptr 2 0,.undef,.undef,.undef,.undef,.undef,.undef,.undef,.undef,.undef,.undef,.undef,.sl 1 8 w.log.length (w.log.flatMap Am),.sc (.int .i64 w.log.length),.sc (.int .i64 j),.undef],[.var ((Cc w).map (Be 1)),.var [.nil 1,.nil 1,.sc (.int .i64 0),.nil 4,.sc (.int .i64 0),.nil 1,.sc (.int .i64 0),.sc (.bool false),.sc (.int .i64 0),.sc (.int .i64 0),.nil 5,.nil 8,.sc (.int .i64 0),.sc (.int .i64 0),.sc (.int .i64 0)],.var [.arr 4,.arr 6,.sc (.int .i64 w.key),.arr 24,.sc (.int .i64 w.rollout.version),.arr 7,.sc (.int .i64 w.rollout.pos),.sc (.bool w.rollout.off),.sc (.int .i64 w.least),.sc (.int .i64 w.percent),.arr 25,.arr 26,.sc (.int .i64 w.now),.sc (.int .i64 w.hurt),.sc (.int .i64 w.reached)],.dead,.arr 1 0 w.server.length (ints w.server),.dead,.arr 1 0 w.tags.length (ints w.tags),.arr 1 0 w.rollout.stages.length (ints w.rollout.stages),o8,o9,o10,o11,o12,o13,o14,o15,o16,o17,o18,o19,o20,o21,o22,o23,.arr 4 0 w.ends.length (w.ends.flatMap Ag),.arr 5 0 w.stage.length (w.stage.flatMap Ap),.arr 8 0 j ((w.log.take j).flatMap Am)]⟩) ?_ w.log.length _ ⟨0,by simp⟩
 intro k s ⟨j,o8,o9,o10,o11,o12,o13,o14,o15,o16,o17,o18,o19,o20,o21,o22,o23,hj,hs'⟩
 subst hs'
 by_cases hjn:j<w.log.length
 ·have hw:IntKind.i64.wrap ((j:Int)+1)=(j+1:Nat):=by rw[Ab (by omega) (by omega)];simp
  have hsz:=size_at (f:=Ay) hjn
  have h3:(j+1)*96≤1099511627776:=by omega
  have hst:=Od (f:=Am) hjn
  simp -implicitDefEqProofs [hjn]
  refine Aa (hD w.log[j].dialed (by first | omega | (simp only[Ay]at hsz;omega))) ?_
  simp -implicitDefEqProofs [hjn,h3]
  exact⟨k-1,by omega,j+1,by omega,by simp[hw],rfl,by rw[←hst];rfl⟩
 obtain rfl:j=w.log.length:=by omega
 simp -implicitDefEqProofs
end Go.Eng.T
namespace Go.Eng.T
set_option maxRecDepth 20000
abbrev PL (a b c:Int):Prop:=b≤a∧a≤c
def QE (xs:List Int) (j:Nat):Bool:=(List.range j).all fun i=>decide (PL (xs.getD i 0) 1 100)&&(decide (i=0)||decide (xs.getD (i-1) 0<xs.getD i 0))
theorem Z8 (xs:List Int) (j:Nat):QE xs (j+1)=(QE xs j&&(decide (PL (xs.getD j 0) 1 100)&&(decide (j=0)||decide (xs.getD (j-1) 0<xs.getD j 0)))):=by
 unfold QE
 rw[List.range_succ,List.all_append]
 simp
theorem AfU {xs:List Int} {j:Nat} (h:j<xs.length) (hn:QE xs (j+1)=false):QE xs xs.length=false:=by
 have:∀n,QE xs (j+1+n)=false:=by
  intro n
  induction n with
  | zero=>exact hn
  | succ n ih=>rw[show j+1+(n+1)=(j+1+n)+1 by omega,Z8,ih];rfl
 have:=this (xs.length-(j+1))
 rwa [show j+1+(xs.length-(j+1))=xs.length by omega]at this
def BF (r:Cr):Bool:=
 QE r.stages r.stages.length&&(decide (PL r.version 1 9)&&decide (PL r.stages.length 1 5)&&decide (r.stages.getD (r.stages.length-1) 0=100)&&decide (PL r.pos 0 (r.stages.length-1)))
abbrev EP (R:Rel):Prop:=∀r:Cr,r.stages.length≤4194304→R [arg (Gg r)] [] (B (BF r)) []
theorem getD_at {xs:List Int} {j:Nat} (h:j<xs.length):xs.getD j 0=xs[j]:=by simp[h]
theorem Avs (D:Dn) (hI:TF (D Cw)):EP (Body D Sd):=by
 intro r hl
 simp -implicitDefEqProofs
 refine Af (fun k s=>∃j,j+k=r.stages.length∧QE r.stages j=true∧s=⟨[.undef,.ptr 0 0,.undef,.sc (.int .i64 j),.undef,.undef],[.var ((Gg r).map (Be 1))]⟩) ?_ r.stages.length _ ⟨0,by simp,by simp[QE],by simp⟩
 intro k s ⟨j,hj,hr,hs⟩
 subst hs
 by_cases hjn:j<r.stages.length
 ·have hw:IntKind.i64.wrap ((j:Int)+1)=(j+1:Nat):=by rw[Ab (by omega) (by omega)];simp
  have hst:=Z8 r.stages j
  rw[hr,Bool.true_and,getD_at hjn]at hst
  simp -implicitDefEqProofs [hjn]
  refine Aa (hI _ _ _) ?_
  by_cases h1:PL r.stages[j] 1 100
  rotate_left
  ·have e:BF r=false:=by unfold BF;rw[AfU hjn (by rw[hst];simp[h1])];rfl
   simp -implicitDefEqProofs [h1,e]
  by_cases h0:j=0
  ·subst h0
   simp -implicitDefEqProofs [h1]
   exact⟨k-1,by omega,1,by omega,by rw[hst];simp[h1],by simpa using hw⟩
  ·have hp:((j-1:Nat):Int)=(j:Int)-1:=by omega
   have hw2:IntKind.i64.wrap ((j:Int)-1)=((j-1:Nat):Int):=by rw[Ab (by omega) (by omega)];omega
   have h2:(0:Int)<j:=by omega
   have h2':0<j:=by omega
   have h3:j-1<r.stages.length:=by omega
   rw[getD_at h3]at hst
   by_cases h4:r.stages[j-1]<r.stages[j]
   ·have h4':¬r.stages[j]≤r.stages[j-1]:=by omega
    simp -implicitDefEqProofs [h1,h2,h2',hw2,h3,hjn,h4']
    exact⟨k-1,by omega,j+1,by omega,by rw[hst];simp[h1,h0,h4],by simp[hw]⟩
   ·have e:BF r=false:=by unfold BF;rw[AfU hjn (by rw[hst];simp[h1,h0,h4])];rfl
    have h4':r.stages[j]≤r.stages[j-1]:=by omega
    simp -implicitDefEqProofs [h1,h2,h2',hw2,h3,hjn,h4',e]
 ·obtain rfl:j=r.stages.length:=by omega
  simp -implicitDefEqProofs
  refine Aa (hI _ _ _) ?_
  by_cases h1:PL r.version 1 9
  rotate_left
  ·simp -implicitDefEqProofs [h1,BF]
  simp -implicitDefEqProofs [h1]
  refine Aa (hI _ _ _) ?_
  by_cases h2:PL r.stages.length 1 5
  rotate_left
  ·simp -implicitDefEqProofs [h2,BF]
  have hw2:IntKind.i64.wrap ((r.stages.length:Int)-1)=((r.stages.length-1:Nat):Int):=by rw[Ab (by omega) (by omega)];omega
  have h3:r.stages.length-1<r.stages.length:=by omega
  have h5:0<r.stages.length:=by omega
  by_cases h4:r.stages[r.stages.length-1]=100
  rotate_left
  ·simp -implicitDefEqProofs [h2,hw2,h3,h4,h5,BF]
  simp -implicitDefEqProofs [h2,hw2,h3,h4,h5]
  refine Aa (hI _ _ _) ?_
  have hc:((r.stages.length-1:Nat):Int)=(r.stages.length:Int)-1:=by omega
  have e:BF r=decide (PL r.pos 0 ((r.stages.length-1:Nat):Int)):=by unfold BF;rw[hr,getD_at h3,h4,hc];simp[h1,h2]
  simp -implicitDefEqProofs [e]
theorem Au5 (D:Dn) (hI:TF (D BP)):EP (Body D SL):=by
 intro r hl
 simp -implicitDefEqProofs
 refine Af (fun k s=>∃j v3 v4,j+k=r.stages.length∧QE r.stages j=true∧s=⟨[.undef,.ptr 0 0,.undef,v3,v4,.sl 1 1 r.stages.length (ints r.stages),.sc (.int .i64 r.stages.length),.sc (.int .i64 j),.undef,.undef],[.var ((Gg r).map (Be 1))]⟩) ?_ r.stages.length _ ⟨0,.undef,.undef,by simp,by simp[QE],by simp⟩
 intro k s ⟨j,v3,v4,hj,hr,hs⟩
 subst hs
 by_cases hjn:j<r.stages.length
 ·have hw:IntKind.i64.wrap ((j:Int)+1)=(j+1:Nat):=by rw[Ab (by omega) (by omega)];simp
  have hst:=Z8 r.stages j
  rw[hr,Bool.true_and,getD_at hjn]at hst
  simp -implicitDefEqProofs [hjn]
  refine Aa (hI _ _ _) ?_
  by_cases h1:PL r.stages[j] 1 100
  rotate_left
  ·have e:BF r=false:=by unfold BF;rw[AfU hjn (by rw[hst];simp[h1])];rfl
   simp -implicitDefEqProofs [h1,e]
  by_cases h0:j=0
  ·subst h0
   simp -implicitDefEqProofs [h1]
   exact⟨k-1,by omega,1,by omega,by rw[hst];simp[h1],by simpa using hw⟩
  ·have hp:((j-1:Nat):Int)=(j:Int)-1:=by omega
   have hw2:IntKind.i64.wrap ((j:Int)-1)=((j-1:Nat):Int):=by rw[Ab (by omega) (by omega)];omega
   have h2:(0:Int)<j:=by omega
   have h2':0<j:=by omega
   have h3:j-1<r.stages.length:=by omega
   rw[getD_at h3]at hst
   by_cases h4:r.stages[j-1]<r.stages[j]
   ·have h4':¬r.stages[j]≤r.stages[j-1]:=by omega
    simp -implicitDefEqProofs [h1,h2,h2',hw2,h3,hjn,h4']
    exact⟨k-1,by omega,j+1,by omega,by rw[hst];simp[h1,h0,h4],by simp[hw]⟩
   ·have e:BF r=false:=by unfold BF;rw[AfU hjn (by rw[hst];simp[h1,h0,h4])];rfl
    have h4':r.stages[j]≤r.stages[j-1]:=by omega
    simp -implicitDefEqProofs [h1,h2,h2',hw2,h3,hjn,h4',e]
 ·obtain rfl:j=r.stages.length:=by omega
  simp -implicitDefEqProofs
  refine Aa (hI _ _ _) ?_
  by_cases h1:PL r.version 1 9
  rotate_left
  ·simp -implicitDefEqProofs [h1,BF]
  simp -implicitDefEqProofs [h1]
  refine Aa (hI _ _ _) ?_
  by_cases h2:PL r.stages.length 1 5
  rotate_left
  ·simp -implicitDefEqProofs [h2,BF]
  have hw2:IntKind.i64.wrap ((r.stages.length:Int)-1)=((r.stages.length-1:Nat):Int):=by rw[Ab (by omega) (by omega)];omega
  have h3:r.stages.length-1<r.stages.length:=by omega
  have h5:0<r.stages.length:=by omega
  by_cases h4:r.stages[r.stages.length-1]=100
  rotate_left
  ·simp -implicitDefEqProofs [h2,hw2,h3,h4,h5,BF]
  simp -implicitDefEqProofs [h2,hw2,h3,h4,h5]
  refine Aa (hI _ _ _) ?_
  have hc:((r.stages.length-1:Nat):Int)=(r.stages.length:Int)-1:=by omega
  have e:BF r=decide (PL r.pos 0 ((r.stages.length-1:Nat):Int)):=by unfold BF;rw[hr,getD_at h3,h4,hc];simp[h1,h2]
  simp -implicitDefEqProofs [e]
def Na (a b:Int):Int:=if PL a 0 1000000000000∧PL b 1 1000000000000 then(a+b-1).tdiv b else 0
abbrev Rm (R:Rel):Prop:=∀a b:Int,R [I a,I b] [] (I (Na a b)) []
theorem Azl {a b:Int} (h1:0≤a) (h2:a≤4000000000000) (h3:1≤b):IntKind.i64.wrap (a.tdiv b)=a.tdiv b:=by
 have a1:0≤a.tdiv b:=Int.tdiv_nonneg h1 (by omega)
 have a2:a.tdiv b≤a:=Int.tdiv_le_self _ h1
 exact Ab (by omega) (by omega)
theorem ACF (D:Dn) (hI:TF (D Cw)):Rm (Body D Wh):=by
 intro a b
 simp -implicitDefEqProofs
 refine Aa (hI _ _ _) ?_
 by_cases h1:PL a 0 1000000000000
 rotate_left
 ·simp -implicitDefEqProofs [h1,Na]
 simp -implicitDefEqProofs [h1]
 refine Aa (hI _ _ _) ?_
 by_cases h2:PL b 1 1000000000000
 rotate_left
 ·simp -implicitDefEqProofs [h2,Na]
 have w1:IntKind.i64.wrap (a+b)=a+b:=Ab (by omega) (by omega)
 have w2:IntKind.i64.wrap (a+b-1)=a+b-1:=Ab (by omega) (by omega)
 have w3:=Azl (a:=a+b-1) (b:=b) (by omega) (by omega) (by omega)
 have h0:¬b=0:=by omega
 have e:Na a b=(a+b-1).tdiv b:=by unfold Na;rw[if_pos ⟨h1,h2⟩]
 simp -implicitDefEqProofs [h2,w1,w2,w3,h0,e]
theorem ACt (D:Dn) (hI:TF (D BP)):Rm (Body D Wo):=by
 intro a b
 simp -implicitDefEqProofs
 refine Aa (hI _ _ _) ?_
 by_cases h1:PL a 0 1000000000000
 rotate_left
 ·simp -implicitDefEqProofs [h1,Na]
 simp -implicitDefEqProofs [h1]
 refine Aa (hI _ _ _) ?_
 by_cases h2:PL b 1 1000000000000
 rotate_left
 ·simp -implicitDefEqProofs [h2,Na]
 have w1:IntKind.i64.wrap (a+b)=a+b:=Ab (by omega) (by omega)
 have w2:IntKind.i64.wrap (a+b-1)=a+b-1:=Ab (by omega) (by omega)
 have w3:=Azl (a:=a+b-1) (b:=b) (by omega) (by omega) (by omega)
 have h0:¬b=0:=by omega
 have e:Na a b=(a+b-1).tdiv b:=by unfold Na;rw[if_pos ⟨h1,h2⟩]
 simp -implicitDefEqProofs [h2,w1,w2,w3,h0,e]
end Go.Eng.T
namespace Go.Eng.T
set_option maxRecDepth 20000
theorem AI4 {xs:List Int} {n:Nat} (h:QE xs n=true) {i:Nat} (hi:i<n):PL (xs.getD i 0) 1 100:=by
 unfold QE at h
 have:=List.all_eq_true.1 h i (List.mem_range.2 hi)
 simp at this
 exact⟨this.1.1,this.1.2⟩
theorem Xq {r:Cr} (h:BF r=true):0≤r.pos∧r.pos<r.stages.length∧r.stages.length≤5∧PL (r.stages.getD r.pos.toNat 0) 1 100:=by
 unfold BF at h
 simp only[Bool.and_eq_true,decide_eq_true_eq]at h
 obtain⟨h1,⟨⟨h2,h3⟩,h4⟩,h5⟩:=h
 refine⟨h5.1,by omega,by omega,AI4 h1 (by omega)⟩
def countIn (r:Cr) (n:Int):Int:=if BF r=true∧r.off=false∧PL n 0 10000 then Na (n*r.stages.getD r.pos.toNat 0) 100 else 0
abbrev Rb (R:Rel):Prop:=∀(r:Cr) (n:Int),r.stages.length≤4194304→R [arg (Gg r),I n] [] (I (countIn r n)) []
theorem AD2 {n x:Int} (h1:PL n 0 10000) (h2:PL x 1 100):IntKind.i64.wrap (n*x)=n*x:=by
 have a1:0≤n*x:=Int.mul_nonneg h1.1 (by omega)
 have a2:n*x≤10000*100:=Int.mul_le_mul h1.2 h2.2 (by omega) (by omega)
 exact Ab (by omega) (by omega)
theorem ACo (D:Dn) (hR:EP (D Kr)) (hI:TF (D Cw)) (hC:Rm (D AsA)):Rb (Body D WZ):=by
 intro r n hl
 simp -implicitDefEqProofs
 refine Aa (hR r hl) ?_
 by_cases h1:BF r=true
 rotate_left
 ·simp -implicitDefEqProofs [h1,countIn]
 by_cases h2:r.off=true
 ·simp -implicitDefEqProofs [h1,h2,countIn]
 simp -implicitDefEqProofs [h1,h2]
 refine Aa (hI _ _ _) ?_
 by_cases h3:PL n 0 10000
 rotate_left
 ·simp -implicitDefEqProofs [h3,countIn]
 obtain⟨p1,p2,p3,p4⟩:=Xq h1
 obtain⟨q,hq⟩:∃q:Nat,r.pos=q:=⟨r.pos.toNat,by omega⟩
 have hq2:q<r.stages.length:=by omega
 have e:countIn r n=Na (n*r.stages[q]) 100:=by unfold countIn;rw[if_pos ⟨h1,by simpa using h2,h3⟩,hq];simp[hq2]
 have p4':PL r.stages[q] 1 100:=by rw[hq]at p4;simpa[hq2]using p4
 have hw:=AD2 h3 p4'
 simp -implicitDefEqProofs [h3,hq,hq2,hw]
 refine Aa (hC _ _) ?_
 simp -implicitDefEqProofs [e]
theorem ABO (D:Dn) (hR:EP (D Ky)) (hI:TF (D BP)) (hC:Rm (D AsV)):Rb (Body D WH):=by
 intro r n hl
 simp -implicitDefEqProofs
 refine Aa (hR r hl) ?_
 by_cases h1:BF r=true
 rotate_left
 ·simp -implicitDefEqProofs [h1,countIn]
 by_cases h2:r.off=true
 ·simp -implicitDefEqProofs [h1,h2,countIn]
 simp -implicitDefEqProofs [h1,h2]
 refine Aa (hI _ _ _) ?_
 by_cases h3:PL n 0 10000
 rotate_left
 ·simp -implicitDefEqProofs [h3,countIn]
 obtain⟨p1,p2,p3,p4⟩:=Xq h1
 obtain⟨q,hq⟩:∃q:Nat,r.pos=q:=⟨r.pos.toNat,by omega⟩
 have hq2:q<r.stages.length:=by omega
 have e:countIn r n=Na (n*r.stages[q]) 100:=by unfold countIn;rw[if_pos ⟨h1,by simpa using h2,h3⟩,hq];simp[hq2]
 have p4':PL r.stages[q] 1 100:=by rw[hq]at p4;simpa[hq2]using p4
 have hw:=AD2 h3 p4'
 simp -implicitDefEqProofs [h3,hq,hq2,hw]
 refine Aa (hC _ _) ?_
 simp -implicitDefEqProofs [e]
def isIn (r:Cr) (i n:Int):Bool:=decide (0≤i)&&decide (i<n)&&decide (i<countIn r n)
abbrev Ac3 (R:Rel):Prop:=∀(r:Cr) (i n:Int),r.stages.length≤4194304→R [arg (Gg r),I i,I n] [] (B (isIn r i n)) []
theorem ALu (D:Dn) (hC:Rb (D ArR)):Ac3 (Body D AdH):=by
 intro r i n hl
 by_cases h1:0≤i
 ·by_cases h2:i<n
  ·simp -implicitDefEqProofs [h1,h2]
   refine Aa (hC r n hl) ?_
   simp -implicitDefEqProofs [isIn,h1,h2]
  ·simp -implicitDefEqProofs [h1,h2,isIn]
 ·simp -implicitDefEqProofs [h1,isIn]
theorem AK2 (D:Dn) (hC:Rb (D Atq)):Ac3 (Body D Aer):=by
 intro r i n hl
 by_cases h1:0≤i
 ·by_cases h2:i<n
  ·simp -implicitDefEqProofs [h1,h2]
   refine Aa (hC r n hl) ?_
   simp -implicitDefEqProofs [isIn,h1,h2]
  ·simp -implicitDefEqProofs [h1,h2,isIn]
 ·simp -implicitDefEqProofs [h1,isIn]
abbrev VT (R:Rel):Prop:=∀(w:World) (i:Int),w.ends.length≤4194304→R [arg (Cc w),I i] [] (B (decide (PL i 0 ((w.ends.length:Int)-1)))) []
theorem AH6 (D:Dn) (hI:TF (D BP)):VT (Body D YP):=by
 intro w i hl
 have hw:IntKind.i64.wrap ((w.ends.length:Int)-1)=(w.ends.length:Int)-1:=Ab (by omega) (by omega)
 simp -implicitDefEqProofs [hw]
 refine Aa (hI _ _ _) ?_
 simp -implicitDefEqProofs
def Nc (w:World) (i:Int):Bool:=decide (PL i 0 ((w.ends.length:Int)-1))&&isIn w.rollout i w.ends.length&&(match w.ends[i.toNat]? with | some e=>decide (w.rollout.version∈e.versions) | none=>false)
theorem Akf {w:World} (h:Ai w≤4194304) {j:Nat} (hj:j<w.ends.length):w.ends[j].versions.length≤maxLen:=by
 have:=size_at (f:=Ad) hj
 have e:Ad w.ends[j]=w.ends[j].versions.length+w.ends[j].tags.length+AP BD w.ends[j].path:=rfl
 unfold Ai at h
 unfold maxLen;omega
theorem P5 {w:World} (h:Ai w≤4194304):w.rollout.stages.length≤4194304:=by unfold Ai AU at h;omega
abbrev Rj (R:Rel):Prop:=∀(w:World) (i:Int),Ai w≤4194304→R [arg (Cc w),I i] [] (B (Nc w i)) []
theorem ACx (D:Dn) (hI:TF (D Cw)) (hN:Ac3 (D AqY)) (hH:PN (D Jj)):Rj (Body D WJ):=by
 intro w i hsz
 have hl:=DU hsz
 have hw:IntKind.i64.wrap ((w.ends.length:Int)-1)=(w.ends.length:Int)-1:=Ab (by omega) (by omega)
 simp -implicitDefEqProofs [hw]
 refine Aa (hI _ _ _) ?_
 by_cases h1:PL i 0 ((w.ends.length:Int)-1)
 rotate_left
 ·simp -implicitDefEqProofs [h1,Nc]
 simp -implicitDefEqProofs [h1]
 refine Aa (hN w.rollout _ _ (P5 hsz)) ?_
 by_cases h2:isIn w.rollout i w.ends.length=true
 rotate_left
 ·simp -implicitDefEqProofs [h2,Nc]
 obtain⟨j,rfl⟩:∃j:Nat,i=j:=⟨i.toNat,by omega⟩
 have hj:j<w.ends.length:=by omega
 simp -implicitDefEqProofs [h2,hj]
 refine Aa (hH _ _ (Akf hsz hj)) ?_
 simp -implicitDefEqProofs [Nc,h1,h2,hj]
theorem ABE (D:Dn) (hE:VT (D Py)) (hN:Ac3 (D Aoh)) (hH:PN (D Bb)):Rj (Body D WY):=by
 intro w i hsz
 have hl:=DU hsz
 simp -implicitDefEqProofs
 refine Aa (hE w i hl) ?_
 by_cases h1:PL i 0 ((w.ends.length:Int)-1)
 rotate_left
 ·simp -implicitDefEqProofs [h1,Nc]
 simp -implicitDefEqProofs [h1]
 refine Aa (hN w.rollout _ _ (P5 hsz)) ?_
 by_cases h2:isIn w.rollout i w.ends.length=true
 rotate_left
 ·simp -implicitDefEqProofs [h2,Nc]
 obtain⟨j,rfl⟩:∃j:Nat,i=j:=⟨i.toNat,by omega⟩
 have hj:j<w.ends.length:=by omega
 simp -implicitDefEqProofs [h2,hj]
 refine Aa (hH _ _ (Akf hsz hj)) ?_
 simp -implicitDefEqProofs [Nc,h1,h2,hj]
end Go.Eng.T
namespace Go.Eng.T
set_option maxRecDepth 20000
def EM (w:World) (n:Int):World×Bool:=if PL n 1 100∧PL w.now 0 (10000-n)then({w with now:=w.now+n},true)else(w,false)
abbrev NZ (R:Rel):Prop:=∀(w:World) (n:Int),Ai w≤4194304→R [arg (Cc w),I n] [] (.tup [.agg (Cc (EM w n).1),B (EM w n).2]) []
theorem Ayy (D:Dn) (hC:CV (D EB)) (hI:TF (D Cw)):NZ (Body D UJ):=by
 intro w n h
 simp -implicitDefEqProofs
 refine Aa (hC w h) ?_
 simp -implicitDefEqProofs
 refine Aa (hI _ _ _) ?_
 by_cases h1:PL n 1 100
 rotate_left
 ·have e:EM w n=(w,false):=by unfold EM;rw[if_neg (by omega)]
  simp -implicitDefEqProofs [h1,e]
 have hw:IntKind.i64.wrap (10000-n)=10000-n:=Ab (by omega) (by omega)
 simp -implicitDefEqProofs [h1,hw]
 refine Aa (hI _ _ _) ?_
 by_cases h2:PL w.now 0 (10000-n)
 rotate_left
 ·have e:EM w n=(w,false):=by unfold EM;rw[if_neg (by omega)]
  simp -implicitDefEqProofs [h2,e]
 have hw2:IntKind.i64.wrap (w.now+n)=w.now+n:=Ab (by omega) (by omega)
 have e:EM w n=({w with now:=w.now+n},true):=by unfold EM;rw[if_pos (by omega)]
 simp -implicitDefEqProofs [h2,e,hw2]
theorem AyO (D:Dn) (hC:CV (D Dt)) (hI:TF (D BP)):NZ (Body D UH):=by
 intro w n h
 simp -implicitDefEqProofs
 refine Aa (hC w h) ?_
 simp -implicitDefEqProofs
 refine Aa (hI _ _ _) ?_
 by_cases h1:PL n 1 100
 rotate_left
 ·have e:EM w n=(w,false):=by unfold EM;rw[if_neg (by omega)]
  simp -implicitDefEqProofs [h1,e]
 have hw:IntKind.i64.wrap (10000-n)=10000-n:=Ab (by omega) (by omega)
 by_cases h3:w.now<0
 ·have e:EM w n=(w,false):=by unfold EM;rw[if_neg (by omega)]
  simp -implicitDefEqProofs [h1,hw,h3,e]
 by_cases h2:10000-n<w.now
 ·have e:EM w n=(w,false):=by unfold EM;rw[if_neg (by omega)]
  simp -implicitDefEqProofs [h1,hw,h3,h2,e]
 have hw2:IntKind.i64.wrap (w.now+n)=w.now+n:=Ab (by omega) (by omega)
 have e:EM w n=({w with now:=w.now+n},true):=by unfold EM;rw[if_pos (by omega)]
 simp -implicitDefEqProofs [h1,hw,h3,h2,e,hw2]
def AgF (w:World) (i:Nat):World:=match w.ends[i]? with
 | some x=> {w with ends:=w.ends.set i ⟨x.versions,x.tags,[],x.cls⟩}
 | none=>w
def E9 (w:World) (i:Int):World×Bool:=
 if 0≤i then(match w.ends[i.toNat]? with
  | some x=>if x.path=[]then(w,false)else(AgF w i.toNat,true)
  | none=>(w,false))else(w,false)
abbrev Lc (R:Rel):Prop:=∀(w:World) (i:Int),Ai w≤4194304→R [arg (Cc w),I i] [] (.tup [.agg (Cc (E9 w i).1),B (E9 w i).2]) []
theorem AcO {w:World} {i:Int} (h:¬PL i 0 ((w.ends.length:Int)-1)):E9 w i=(w,false):=by
 unfold E9
 by_cases h0:0≤i
 ·rw[if_pos h0,List.getElem?_eq_none (by omega)]
 ·rw[if_neg h0]
theorem AvB (D:Dn) (hC:CV (D Dt)) (hE:VT (D Py)):Lc (Body D Tn):=by
 intro w i h
 have hl:=DU h
 simp -implicitDefEqProofs
 refine Aa (hC w h) ?_
 simp -implicitDefEqProofs
 refine Aa (hE w i hl) ?_
 by_cases h1:PL i 0 ((w.ends.length:Int)-1)
 rotate_left
 ·simp -implicitDefEqProofs [h1,AcO h1]
 obtain⟨j,rfl⟩:∃j:Nat,i=j:=⟨i.toNat,by omega⟩
 have hj:j<w.ends.length:=by omega
 by_cases h2:w.ends[j].path=[]
 ·have e:E9 w j=(w,false):=by unfold E9;rw[if_pos (by omega)];simp[hj,h2]
  simp -implicitDefEqProofs [h1,h2,hj,e]
 ·have e:E9 w j=({w with ends:=w.ends.set j ⟨w.ends[j].versions,w.ends[j].tags,[],w.ends[j].cls⟩},true):=by unfold E9;rw[if_pos (by omega)];simp[hj,h2,AgF]
  have hf:j*4+2<w.ends.length*4:=by omega
  have hs:(w.ends.flatMap Ag).set (j*4+2) (.sl 0 4 0 [])=(w.ends.set j ⟨w.ends[j].versions,w.ends[j].tags,[],w.ends[j].cls⟩).flatMap Ag:=Uc hj [] rfl
  simp -implicitDefEqProofs [h1,h2,hj,e,hf,hs]
theorem ADJ {α:Type} {f:α→Nat}:∀ {xs:List α} {j:Nat} (h:j<xs.length) (y:α),((xs.set j y).map f).sum+f xs[j]=(xs.map f).sum+f y
 | [],j,h,_=>by simp at h
 | x::r,0,h,y=>by simp;omega
 | x::r,j+1,h,y=>by
  have:=ADJ (f:=f) (xs:=r) (j:=j) (by simpa using h) y
  simp at *
  omega
theorem size_set {α:Type} {f:α→Nat} {xs:List α} {j:Nat} (h:j<xs.length) (y:α):AP f (xs.set j y)+f xs[j]=AP f xs+f y:=by
 have:=ADJ (f:=f) h y
 unfold AP;simp only[List.length_set];omega
end Go.Eng.T
namespace Go.Eng.T
set_option maxRecDepth 20000
theorem AdG {xs:List Int} {lo hi:Int} {j:Nat} (h:j<xs.length):allIn (xs.take (j+1)) lo hi=(allIn (xs.take j) lo hi&&decide (WO xs[j] lo hi)):=by
 have e:xs.take (j+1)=xs.take j++ [xs[j]]:=by simp
 unfold allIn
 rw[e,List.all_append];simp
theorem Azs {xs:List Int} {lo hi:Int} {j:Nat} (h:j<xs.length) (hn:¬WO xs[j] lo hi):allIn xs lo hi=false:=by
 unfold allIn
 rw[List.all_eq_false]
 exact⟨xs[j],List.getElem_mem h,by simp[hn]⟩
theorem AuN {xs:List Int} {lo hi:Int} {j:Nat} (h:xs.length≤j) (ha:allIn (xs.take j) lo hi=true):allIn xs lo hi=true:=by rwa [List.take_of_length_le h]at ha
abbrev AbL (R:Rel):Prop:=∀xs:List Int,xs.length≤maxLen→R [.sl 1 1 xs.length (ints xs)] [] (B (allIn xs 0 255)) []
theorem AIQ (D:Dn) (hI:TF (D Cw)):AbL (Body D Zn):=by
 intro xs hl
 unfold maxLen at hl
 simp -implicitDefEqProofs
 refine Af (fun k s=>∃j,j+k=xs.length∧allIn (xs.take j) 0 255=true∧s=⟨[.sl 1 1 xs.length (ints xs),.undef,.sc (.int .i64 j),.undef,.undef],[]⟩) ?_ xs.length _ ⟨0,by simp,by simp[allIn],by simp⟩
 intro k s ⟨j,hj,hp,hs⟩
 subst hs
 by_cases hjn:j<xs.length
 ·have hw:IntKind.i64.wrap ((j:Int)+1)=(j+1:Nat):=by rw[Ab (by omega) (by omega)];simp
  simp -implicitDefEqProofs [hjn]
  refine Aa (hI _ _ _) ?_
  by_cases h1:WO xs[j] 0 255
  ·simp -implicitDefEqProofs [h1]
   exact⟨k-1,by omega,j+1,by omega,by rw[AdG hjn,hp];simp[h1],by simp[hw]⟩
  ·simp -implicitDefEqProofs [h1,Azs hjn h1]
 ·simp -implicitDefEqProofs [hjn,AuN (by omega) hp]
def Ji (b:H9):Bool:=decide (WO b.limit 0 9)&&decide (b.drops.length≤6)&&decide (b.strips.length≤6)&&allIn b.drops 0 255&&allIn b.strips 0 255
abbrev Tx (R:Rel):Prop:=∀b:H9,JG b→R [arg (CW b)] [] (B (Ji b)) []
theorem AHR (D:Dn) (hI:TF (D Cw)) (hB:AbL (D YH)):Tx (Body D AaJ):=by
 intro b hl
 simp -implicitDefEqProofs
 refine Aa (hI _ _ _) ?_
 by_cases h1:WO b.limit 0 9
 rotate_left
 ·simp -implicitDefEqProofs [h1,Ji]
 by_cases h2:b.drops.length≤6
 rotate_left
 ·have h2':¬(b.drops.length:Int)≤6:=by omega
  simp -implicitDefEqProofs [h1,h2',h2,Ji]
 have h2':(b.drops.length:Int)≤6:=by omega
 by_cases h3:b.strips.length≤6
 rotate_left
 ·have h3':¬(b.strips.length:Int)≤6:=by omega
  simp -implicitDefEqProofs [h1,h2',h3',h3,Ji]
 have h3':(b.strips.length:Int)≤6:=by omega
 simp -implicitDefEqProofs [h1,h2',h3']
 refine Aa (hB _ hl.1) ?_
 by_cases h4:allIn b.drops 0 255=true
 rotate_left
 ·simp -implicitDefEqProofs [h4,Ji]
 simp -implicitDefEqProofs [h4]
 refine Aa (hB _ hl.2) ?_
 simp -implicitDefEqProofs [Ji,h1,h2,h3,h4]
theorem AIa (D:Dn) (hI:TF (D BP)) (hB:J2 (D JM)):Tx (Body D Aam):=by
 intro b hl
 simp -implicitDefEqProofs
 refine Aa (hI _ _ _) ?_
 by_cases h1:WO b.limit 0 9
 rotate_left
 ·simp -implicitDefEqProofs [h1,Ji]
 by_cases h2:b.drops.length≤6
 rotate_left
 ·have h2':¬(b.drops.length:Int)≤6:=by omega
  simp -implicitDefEqProofs [h1,h2',h2,Ji]
 have h2':(b.drops.length:Int)≤6:=by omega
 by_cases h3:b.strips.length≤6
 rotate_left
 ·have h3':¬(b.strips.length:Int)≤6:=by omega
  simp -implicitDefEqProofs [h1,h2',h3',h3,Ji]
 have h3':(b.strips.length:Int)≤6:=by omega
 simp -implicitDefEqProofs [h1,h2',h3']
 refine Aa (hB _ _ _ hl.1) ?_
 by_cases h4:allIn b.drops 0 255=true
 rotate_left
 ·simp -implicitDefEqProofs [h4,Ji]
 simp -implicitDefEqProofs [h4]
 refine Aa (hB _ _ _ hl.2) ?_
 simp -implicitDefEqProofs [Ji,h1,h2,h3,h4]
def Gw (w:World) (i:Int) (b:H9):World×Bool:=
 if 0≤i then(match w.ends[i.toNat]? with
  | some x=>if Ji b=true∧x.path.length<4 then({w with ends:=w.ends.set i.toNat ⟨x.versions,x.tags,x.path++ [b],x.cls⟩},true)else(w,false)
  | none=>(w,false))else(w,false)
abbrev Rh (R:Rel):Prop:=∀(w:World) (i:Int) (b:H9),Ai w≤4194304→BD b≤4194304→R [arg (Cc w),I i,arg (CW b)] [] (.tup [.agg (Cc (Gw w i b).1),B (Gw w i b).2]) []
theorem Akz {w:World} {i:Int} {b:H9} (h:¬PL i 0 ((w.ends.length:Int)-1)):Gw w i b=(w,false):=by
 unfold Gw
 by_cases h0:0≤i
 ·rw[if_pos h0,List.getElem?_eq_none (by omega)]
 ·rw[if_neg h0]
theorem AyA {b:H9} (h:BD b≤4194304):JG b:=by unfold BD at h;unfold JG KN maxLen;omega
theorem ACI (D:Dn) (hC:CV (D EB)) (hI:TF (D Cw)) (hB:Tx (D AaH)):Rh (Body D WW):=by
 intro w i b h hb
 have hl:=DU h
 have hw:IntKind.i64.wrap ((w.ends.length:Int)-1)=(w.ends.length:Int)-1:=Ab (by omega) (by omega)
 simp -implicitDefEqProofs
 refine Aa (hC w h) ?_
 simp -implicitDefEqProofs [hw]
 refine Aa (hI _ _ _) ?_
 by_cases h1:PL i 0 ((w.ends.length:Int)-1)
 rotate_left
 ·simp -implicitDefEqProofs [h1,Akz h1]
 obtain⟨j,rfl⟩:∃j:Nat,i=j:=⟨i.toNat,by omega⟩
 have hj:j<w.ends.length:=by omega
 simp -implicitDefEqProofs [h1]
 refine Aa (hB b (AyA hb)) ?_
 by_cases h2:Ji b=true
 rotate_left
 ·have e:Gw w j b=(w,false):=by unfold Gw;rw[if_pos (by omega)];simp[hj,h2]
  simp -implicitDefEqProofs [h2,e]
 by_cases h3:w.ends[j].path.length<4
 rotate_left
 ·have e:Gw w j b=(w,false):=by unfold Gw;rw[if_pos (by omega)];simp[hj,h3]
  have h3':(4:Int)≤w.ends[j].path.length:=by omega
  simp -implicitDefEqProofs [h2,hj,h3',e]
 have e:Gw w j b=({w with ends:=w.ends.set j ⟨w.ends[j].versions,w.ends[j].tags,w.ends[j].path++ [b],w.ends[j].cls⟩},true):=by unfold Gw;rw[if_pos (by omega)];simp[hj,h2,h3]
 have h3':¬(4:Int)≤w.ends[j].path.length:=by omega
 have hz:BD b=b.drops.length+b.strips.length:=rfl
 have b1:b.drops.length*8≤1099511627776:=by omega
 have b2:b.strips.length*8≤1099511627776:=by omega
 have b3:(w.ends[j].path.length+1)*64≤1099511627776:=by omega
 have hf:j*4+2<w.ends.length*4:=by omega
 simp -implicitDefEqProofs [h2,hj,h3',e,hf,b1,b2,b3]
 have hs:=Uc hj (w.ends[j].path++ [b]) (n:=w.ends[j].path.length+1) (by simp)
 simpa[List.flatMap_append]using hs
theorem ABf (D:Dn) (hC:CV (D Dt)) (hE:VT (D Py)) (hB:Tx (D Aav)) (hP:Af6 (D AaR)):Rh (Body D Xf):=by
 intro w i b h hb
 have hl:=DU h
 simp -implicitDefEqProofs
 refine Aa (hC w h) ?_
 simp -implicitDefEqProofs
 refine Aa (hE w i hl) ?_
 by_cases h1:PL i 0 ((w.ends.length:Int)-1)
 rotate_left
 ·simp -implicitDefEqProofs [h1,Akz h1]
 obtain⟨j,rfl⟩:∃j:Nat,i=j:=⟨i.toNat,by omega⟩
 have hj:j<w.ends.length:=by omega
 simp -implicitDefEqProofs [h1]
 refine Aa (hB b (AyA hb)) ?_
 by_cases h2:Ji b=true
 rotate_left
 ·have e:Gw w j b=(w,false):=by unfold Gw;rw[if_pos (by omega)];simp[hj,h2]
  simp -implicitDefEqProofs [h2,e]
 by_cases h3:w.ends[j].path.length<4
 rotate_left
 ·have e:Gw w j b=(w,false):=by unfold Gw;rw[if_pos (by omega)];simp[hj,h3]
  have h3':(4:Int)≤w.ends[j].path.length:=by omega
  simp -implicitDefEqProofs [h2,hj,h3',e]
 have e:Gw w j b=({w with ends:=w.ends.set j ⟨w.ends[j].versions,w.ends[j].tags,w.ends[j].path++ [b],w.ends[j].cls⟩},true):=by unfold Gw;rw[if_pos (by omega)];simp[hj,h2,h3]
 have h3':¬(4:Int)≤w.ends[j].path.length:=by omega
 have hz:BD b=b.drops.length+b.strips.length:=rfl
 have b3:(w.ends[j].path.length+1)*64≤1099511627776:=by omega
 have hf:j*4+2<w.ends.length*4:=by omega
 simp -implicitDefEqProofs [h2,hj,h3',e,hf]
 have hb6:BD b≤12:=by
  have:=h2
  simp only[Ji,Bool.and_eq_true,decide_eq_true_eq]at this
  unfold BD;omega
 refine Aa (hP [b] (by unfold AP;simp;omega)) ?_
 simp -implicitDefEqProofs [h2,hj,h3',e,hf,b3]
 have hs:=Uc hj (w.ends[j].path++ [b]) (n:=w.ends[j].path.length+1) (by simp)
 simpa[List.flatMap_append]using hs
end Go.Eng.T
namespace Go.Eng.T
set_option maxRecDepth 20000
abbrev AO8 (D:Dn) (R:Rel):Prop:=∀(xs:List Az) (g:Nat) (caps:List V) (p:Az→Bool),xs.length≤maxLen→PU caps→(∀(j:Nat) (h:j<xs.length),D g (arg (Ag xs[j])::caps) [] (B (p xs[j])) [])→R [.sl 1 4 xs.length (xs.flatMap Ag),.fn g caps] [] (I (JS p xs 0)) []
theorem ARq (D:Dn):AO8 D (Body D AGz):=by
 intro xs g caps p hl hc hp
 unfold maxLen at hl
 simp -implicitDefEqProofs
 refine Af (fun k s=>∃j,j+k=xs.length∧JS p xs 0=JS p (xs.drop j) j∧s=⟨[.sl 1 4 xs.length (xs.flatMap Ag),.fn g caps,.undef,.undef,.sc (.int .i64 xs.length),.sc (.int .i64 j),.undef,.undef],[]⟩) ?_ xs.length _ ⟨0,by simp,by simp,by simp⟩
 intro k s ⟨j,hj,hi,hs⟩
 subst hs
 by_cases hjn:j<xs.length
 ·have hw:IntKind.i64.wrap ((j:Int)+1)=(j+1:Nat):=by rw[Ab (by omega) (by omega)];simp
  rw[XL hjn]at hi
  simp -implicitDefEqProofs [hjn,hc.1,hc.2.1]
  refine Aa (hp j hjn) ?_
  by_cases he:p xs[j]=true
  ·rw[if_pos he]at hi
   simp -implicitDefEqProofs [he,hi]
  ·rw[if_neg he]at hi
   simp -implicitDefEqProofs [he]
   exact⟨k-1,by omega,j+1,by omega,by simpa using hi,by simp[hw]⟩
 ·rw[Aau (by omega)]at hi
  simp -implicitDefEqProofs [hjn,hi]
abbrev AOY (D:Dn) (R:Rel):Prop:=∀(xs:List Az) (g:Nat) (caps:List V) (p:Az→Bool),xs.length≤maxLen→PU caps→(∀(j:Nat) (h:j<xs.length),D g (arg (Ag xs[j])::caps) [] (B (p xs[j])) [])→R [.sl 1 4 xs.length (xs.flatMap Ag),.fn g caps] [] (B (xs.any p)) []
theorem AQK (D:Dn) (hI:AO8 D (D VB)):AOY D (Body D ADA):=by
 intro xs g caps p hl hc hp
 simp -implicitDefEqProofs [hc.2.2]
 refine Aa (hI xs g caps p hl hc hp) ?_
 have e:decide (0≤JS p xs 0)=xs.any p:=by rw[Bool.eq_iff_iff];simp only[decide_eq_true_eq];rw[Zt (by omega)]
 simp -implicitDefEqProofs [e]
abbrev QZ (D:Dn) (R:Rel):Prop:=∀(xs:List H9) (g:Nat) (caps:List V) (p:H9→Bool),xs.length≤maxLen→PU caps→(∀(j:Nat) (h:j<xs.length),D g (arg (CW xs[j])::caps) [] (B (p xs[j])) [])→R [.sl 1 4 xs.length (xs.flatMap CW),.fn g caps] [] (I (JS p xs 0)) []
theorem AnU (D:Dn):QZ D (Body D Er):=by
 intro xs g caps p hl hc hp
 unfold maxLen at hl
 simp -implicitDefEqProofs
 refine Af (fun k s=>∃j,j+k=xs.length∧JS p xs 0=JS p (xs.drop j) j∧s=⟨[.sl 1 4 xs.length (xs.flatMap CW),.fn g caps,.undef,.undef,.sc (.int .i64 xs.length),.sc (.int .i64 j),.undef,.undef],[]⟩) ?_ xs.length _ ⟨0,by simp,by simp,by simp⟩
 intro k s ⟨j,hj,hi,hs⟩
 subst hs
 by_cases hjn:j<xs.length
 ·have hw:IntKind.i64.wrap ((j:Int)+1)=(j+1:Nat):=by rw[Ab (by omega) (by omega)];simp
  rw[XL hjn]at hi
  simp -implicitDefEqProofs [hjn,hc.1,hc.2.1]
  refine Aa (hp j hjn) ?_
  by_cases he:p xs[j]=true
  ·rw[if_pos he]at hi
   simp -implicitDefEqProofs [he,hi]
  ·rw[if_neg he]at hi
   simp -implicitDefEqProofs [he]
   exact⟨k-1,by omega,j+1,by omega,by simpa using hi,by simp[hw]⟩
 ·rw[Aau (by omega)]at hi
  simp -implicitDefEqProofs [hjn,hi]
abbrev Mg (D:Dn) (R:Rel):Prop:=∀(xs:List H9) (g:Nat) (caps:List V) (p:H9→Bool),xs.length≤maxLen→PU caps→(∀(j:Nat) (h:j<xs.length),D g (arg (CW xs[j])::caps) [] (B (p xs[j])) [])→R [.sl 1 4 xs.length (xs.flatMap CW),.fn g caps] [] (B (xs.any p)) []
theorem AfS (D:Dn) (hI:QZ D (D LM)):Mg D (Body D D5):=by
 intro xs g caps p hl hc hp
 simp -implicitDefEqProofs [hc.2.2]
 refine Aa (hI xs g caps p hl hc hp) ?_
 have e:decide (0≤JS p xs 0)=xs.any p:=by rw[Bool.eq_iff_iff];simp only[decide_eq_true_eq];rw[Zt (by omega)]
 simp -implicitDefEqProofs [e]
end Go.Eng.T
namespace Go.Eng.T
set_option maxRecDepth 20000
end Go.Eng.T
namespace Go.Eng.T
set_option maxRecDepth 20000
def A9 (t:Int):Bool:=decide (WO t 0 255)&&decide (t.tmod 16=10)
abbrev Ho (R:Rel):Prop:=∀t:Int,R [I t] [] (B (A9 t)) []
theorem AtE (D:Dn) (hI:TF (D Cw)):Ho (Body D QY):=by
 intro t
 simp -implicitDefEqProofs
 refine Aa (hI _ _ _) ?_
 by_cases h:WO t 0 255
 ·simp -implicitDefEqProofs [h,A9,AEL]
 ·simp -implicitDefEqProofs [h,A9]
theorem AsH (D:Dn) (hI:TF (D BP)):Ho (Body D Qy):=by
 intro t
 simp -implicitDefEqProofs
 refine Aa (hI _ _ _) ?_
 by_cases h:WO t 0 255
 ·simp -implicitDefEqProofs [h,A9,AEL]
 ·simp -implicitDefEqProofs [h,A9]
abbrev Ru (R:Rel):Prop:=∀xs:List Int,xs.length≤maxLen→R [.sl 1 1 xs.length (ints xs)] [] (B (xs.any A9)) []
theorem AaU {α:Type} {p:α→Bool} {xs:List α} {j:Nat} (h:j<xs.length) (hp:p xs[j]=true):xs.any p=true:=List.any_eq_true.2 ⟨_,List.getElem_mem h,hp⟩
theorem Apk {α:Type} {p:α→Bool} {xs:List α} {j:Nat} (h:j<xs.length):(xs.take (j+1)).any p=((xs.take j).any p||p xs[j]):=by
 have e:xs.take (j+1)=xs.take j++ [xs[j]]:=by simp
 rw[e,List.any_append];simp
theorem any_none {α:Type} {p:α→Bool} {xs:List α} {j:Nat} (h:xs.length≤j) (ha:(xs.take j).any p=false):xs.any p=false:=by rwa [List.take_of_length_le h]at ha
theorem ArX (D:Dn) (hR:Ho (D Xz)) (hC:M7 D (D Jy)):Ru (Body D Qb):=by
 intro xs hl
 simp -implicitDefEqProofs
 refine Aa (hC xs 279 _ A9 hl I7 (fun x=>hR x)) ?_
 generalize xs.any A9=b
 simp -implicitDefEqProofs
end Go.Eng.T
namespace Go.Eng.T
open Go.Eng.X
def BN:Nat→Bl
 |0=>R 0 [x 0 (s 0),a 1 zW] [(1,0),(2,1)] [0]
 |1=>T 1 [D (P 15 (s 1)) [0] [],D (C 38 [r (l 0)] [2,3,4,5,6,7]) [2,3,4,5,6,7] [2,3,4,5,6,7],D (F (s 1) 4) [] [],D (P 4 (l 2)) [0] [],D (a 8 zW) [8] [8],D (a 9 zR) [9] [9],D (W 15 (l 4) (l 1)) [8,11] [8],D (W 4 (l 5) (l 3)) [9,11] [9]] [(3,4),(4,5)] []
 |2=>R 2 [P 4 (s 4),C 176 [r (l 0)] [],n (l 1),m (l 2),G 3 (F (s 4) 3),G 3 (L (l 4)),k (l 3) t (l 5)] [(6,6)] []
 |3=>R 3 [P 15 (s 3),W 15 (s 2) (l 0)] [] [1,3,4]
 |4=>R 4 [F (s 3) 3,L (l 0),e (l 1),m (i 0)] [(7,2),(8,3)] []
 |5=>R 5 [y .lss (s 8) (s 7)] [(9,0)] []
 |6=>R 6 [m (s 8),m (l 0)] [(5,1)] []
 |7=>R 7 [P 4 (s 4),m (s 5),F (s 3) 3,L (l 2),e (l 3),C 228 [r (l 0),r (l 1),r (l 4)] []] [(10,5)] []
 |8=>Y 8 [D (F (s 3) 3) [] [],D (L (l 0)) [8] [],D (m (s 5)) [] [],D (F (s 3) 3) [] [],D (L (l 3)) [8] [],D (m (s 5)) [] [],D (A 4 (l 4) (l 5)) [4] [],D (F (l 6) 0) [] [],D (.take 11 (l 7)) [4,11] [4,11],D (F (s 4) 0) [] [],D (L (l 9)) [9] [],D (C 230 [v (l 8),r (l 10)] [10]) [10,11] [10,11],D (A 4 (l 1) (l 2)) [4] [],D (F (l 12) 0) [] [],D (W 1 (l 13) (l 11)) [4,10,11] [4,10]] [] [5] [10,11] []
 |9=>R 9 [y .add (s 8) (i 1),m (l 0)] [(8,1)] []
 |10=>T 10 [D (F (s 1) 14) [] [],D (L (l 0)) [0] [],D (F (s 4) 2) [] [],D (L (l 2)) [9] [],D (y .add (l 3) (i 1)) [] [],D (.minmax true (l 1) [l 4]) [] [],D (F (s 3) 10) [] [],D (W 1 (l 6) (z 5)) [8,11] [8],D (F (s 3) 14) [] [],D (W 1 (l 8) (l 5)) [8,11] [8]] [] [1,4,7,8]
 |_=>R 11 [P 15 (s 3),W 15 (s 2) (l 0)] [] [3]
def O4:Bp:=⟨11,12,[0],0,false,[11],j (d (BN 0)) (j (d (BN 1)) (j (j (d (BN 2)) (h 6 (j (d (BN 3)) (.ret)) (.skip))) (j (j (d (BN 4)) (.block 0 (.loop (j (d (BN 5)) (j (h 9 (.skip) (.exit 0)) (j (.block 1 (j (d (BN 6)) (j (d (BN 7)) (h 10 (d (BN 8)) (.skip))))) (d (BN 9)))))))) (j (d (BN 10)) (j (d (BN 11)) (.ret)))))),[.cell 2 (some 15)]⟩
def Acn:List Tmp:=[0,1,2,3,4,5,16,20,21,22,29]
def DL:Nat→Bl
 |0=>R 0 [m (z 1)] [] [2]
 |1=>R 1 [m (i 0)] [(3,0)] []
 |2=>R 2 [m (s 3),m (s 0),e (l 1),y .lss (l 0) (l 2),m (l 3),J 4 (m (s 0)),J 4 (m (s 3)),J 4 (A 1 (l 5) (l 6)),J 4 (L (l 7)),J 4 (m (s 1)),J 4 (y .lss (l 8) (l 9)),k (l 4) (l 10) f] [(4,11)] []
 |3=>R 3 [m (s 3),y .add (l 0) (i 1),m (l 1)] [(3,2)] []
 |4=>R 4 [m (s 3),m (s 0),e (l 1),y .lss (l 0) (l 2),m (l 3),J 4 (m (s 0)),J 4 (m (s 3)),J 4 (A 1 (l 5) (l 6)),J 4 (L (l 7)),J 4 (m (s 1)),J 4 (y .eql (l 8) (l 9)),k (l 4) (l 10) f] [(5,11)] []
 |5=>R 5 [m (s 0),m (l 0)] [(2,1)] [0,1,3]
 |_=>R 6 [m (s 0),m (s 3),m (s 1),M 1 1 1 [l 2],C 264 [v (l 0),r (l 1),v (l 3)] [2],m (l 4)] [(2,5)] [0,1,3]
def Nl:Bp:=⟨6,3,[0,1],1,false,[],j (d (DL 0)) (j (d (DL 1)) (j (.block 0 (.loop (j (j (d (DL 2)) (h 4 (.skip) (.exit 0))) (.block 1 (d (DL 3)))))) (j (j (d (DL 4)) (h 5 (j (d (DL 5)) (.ret)) (.skip))) (j (d (DL 6)) (.ret))))),[.slot 2]⟩
def AaC:List Tmp:=[0,1,4,5,17,31]
def Eg:Nat→Bl
 |0=>R 0 [m (z 1),m f] [] [2,3]
 |1=>R 1 [M 0 1 0 [],m (s 0),q 1 1 8 (l 0) (l 1),m (l 2)] [(4,3)] []
 |2=>R 2 [m (s 0),C 232 [r (l 0)] [],n (l 1),m (l 2),G 3 (m (s 1)),G 3 (C 114 [r (l 4),r (i 1),r (i 9)] []),G 3 (n (l 5)),k (l 3) t (l 6),m (l 7),G 8 (m (s 0)),G 8 (m (s 1)),G 8 (C 188 [r (l 9),r (l 10)] []),k (l 8) t (l 11)] [(5,12)] [0]
 |3=>R 3 [m (s 4),m (l 0),m f] [(2,1),(3,2)] [1,4]
 |4=>R 4 [m (s 4),m (s 1),M 2 1 1 [l 1],q 3 1 8 (l 0) (l 2),m (l 3)] [(4,4)] [1]
 |5=>R 5 [m (s 4),C 197 [v (l 0)] []] [] []
 |_=>R 6 [m (s 4),m (l 0),m t] [(2,1),(3,2)] [4]
def O9:Bp:=⟨6,4,[0,1],0,false,[],j (d (Eg 0)) (j (d (Eg 1)) (j (j (d (Eg 2)) (h 5 (j (d (Eg 3)) (.ret)) (.skip))) (j (d (Eg 4)) (j (d (Eg 5)) (j (d (Eg 6)) (.ret)))))),[.slot 2,.slot 3]⟩
def Ab8:List Tmp:=[0,1,4,5,6,22]
attribute [simp] BN O4 DL Nl Eg O9
end Go.Eng.T
namespace Go.Eng.T
set_option maxRecDepth 20000
abbrev MN (D:Dn) (R:Rel):Prop:=∀(xs:List Ext) (g:Nat) (caps:List V) (p:Ext→Bool),xs.length≤maxLen→PU caps→(∀(j:Nat) (h:j<xs.length),D g (arg (Ce xs[j])::caps) [] (B (p xs[j])) [])→R [.sl 1 2 xs.length (xs.flatMap Ce),.fn g caps] [] (I (JS p xs 0)) []
theorem ApF (D:Dn):MN D (Body D Ew):=by
 intro xs g caps p hl hc hp
 unfold maxLen at hl
 simp -implicitDefEqProofs
 refine Af (fun k s=>∃j,j+k=xs.length∧JS p xs 0=JS p (xs.drop j) j∧s=⟨[.sl 1 2 xs.length (xs.flatMap Ce),.fn g caps,.undef,.undef,.sc (.int .i64 xs.length),.sc (.int .i64 j),.undef,.undef],[]⟩) ?_ xs.length _ ⟨0,by simp,by simp,by simp⟩
 intro k s ⟨j,hj,hi,hs⟩
 subst hs
 by_cases hjn:j<xs.length
 ·have hw:IntKind.i64.wrap ((j:Int)+1)=(j+1:Nat):=by rw[Ab (by omega) (by omega)];simp
  rw[XL hjn]at hi
  simp -implicitDefEqProofs [hjn,hc.1,hc.2.1]
  refine Aa (hp j hjn) ?_
  by_cases he:p xs[j]=true
  ·rw[if_pos he]at hi
   simp -implicitDefEqProofs [he,hi]
  ·rw[if_neg he]at hi
   simp -implicitDefEqProofs [he]
   exact⟨k-1,by omega,j+1,by omega,by simpa using hi,by simp[hw]⟩
 ·rw[Aau (by omega)]at hi
  simp -implicitDefEqProofs [hjn,hi]
abbrev Md (D:Dn) (R:Rel):Prop:=∀(xs:List Ext) (g:Nat) (caps:List V) (p:Ext→Bool),xs.length≤maxLen→PU caps→(∀(j:Nat) (h:j<xs.length),D g (arg (Ce xs[j])::caps) [] (B (p xs[j])) [])→R [.sl 1 2 xs.length (xs.flatMap Ce),.fn g caps] [] (B (xs.any p)) []
theorem Agu (D:Dn) (hI:MN D (D G6)):Md D (Body D DV):=by
 intro xs g caps p hl hc hp
 simp -implicitDefEqProofs [hc.2.2]
 refine Aa (hI xs g caps p hl hc hp) ?_
 have e:decide (0≤JS p xs 0)=xs.any p:=by rw[Bool.eq_iff_iff];simp only[decide_eq_true_eq];rw[Zt (by omega)]
 simp -implicitDefEqProofs [e]
end Go.Eng.T
namespace Go.Eng.T
set_option maxRecDepth 20000
def I5 (t:Int) (x:Ext):Bool:=decide (x.tag=t)
def LJ (l:List Ext) (t:Int):Int:=JS (I5 t) l 0
abbrev Tf (R:Rel):Prop:=∀(l:List Ext) (t:Int),l.length≤maxLen→R [.sl 1 2 l.length (l.flatMap Ce),I t] [] (I (LJ l t)) []
theorem AIY (D:Dn):Tf (Body D Aaj):=by
 intro l t hl
 unfold maxLen at hl
 have hres:LJ l t=JS (I5 t) l 0:=rfl
 rw[hres]
 simp -implicitDefEqProofs
 refine Af (fun k s=>∃j,j+k=l.length∧JS (I5 t) l 0=JS (I5 t) (l.drop j) j∧s=⟨[.sl 1 2 l.length (l.flatMap Ce),I t,.undef,I j,.undef,.undef],[]⟩) ?_ (l.length) _ ⟨0,by simp,by simp,by simp⟩
 intro k s ⟨j,hj,hi,hs⟩
 subst hs
 by_cases hjn:j<l.length
 ·have hw:IntKind.i64.wrap ((j:Int)+1)=(j+1:Nat):=by rw[Ab (by omega) (by omega)];simp
  rw[XL hjn]at hi
  by_cases he:l[j].tag=t
  ·rw[if_pos (by simp[I5,he])]at hi
   simp -implicitDefEqProofs [hjn,he,hi]
  ·rw[if_neg (by simp[I5,he])]at hi
   simp -implicitDefEqProofs [hjn,he]
   exact⟨k-1,by omega,j+1,by omega,by simpa using hi,by simp[hw]⟩
 ·rw[Aau (by omega)]at hi
  simp -implicitDefEqProofs [hjn,hi]
abbrev AnK (R:Rel):Prop:=∀(x:Ext) (t:Int),R [arg (Ce x),.rptr 1 [I t] 0] [] (B (I5 t x)) []
theorem AI0 (D:Dn):AnK (Body D Xc):=by
 intro x t
 simp -implicitDefEqProofs [I5,AEL]
theorem AHn (D:Dn) (h1:AnK (D AtX)) (hX:MN D (D G6)):Tf (Body D Aao):=by
 intro l t hl
 have hres:LJ l t=JS (I5 t) l 0:=rfl
 rw[hres]
 simp -implicitDefEqProofs
 refine Aa (hX l 351 _ (I5 t) hl (Aj6 I7) (fun j h=>h1 l[j] t)) ?_
 simp -implicitDefEqProofs
def AaZ (x:Ext):Bool:=decide (WO x.tag 0 255)&&(decide (x.body.length≤4)&&allIn x.body 0 255)
def Yz (l:List Ext) (i:Nat):Bool:=match l[i]? with
 | some x=>AaZ x&& !(l.take i).any (I5 x.tag)
 | none=>true
theorem Ajp {l:List Ext} {i:Nat} (h:i<l.length):Yz l i=(AaZ l[i]&& !(l.take i).any (I5 l[i].tag)):=by
 unfold Yz
 rw[List.getElem?_eq_getElem h]
def FU (l:List Ext):Bool:=VJ (Yz l) l.length&&decide (l.length≤6)
theorem ABo {α:Type} {p:α→Bool}:∀ {xs:List α} {i:Int},JS p xs i= -1∨(i≤JS p xs i∧JS p xs i<i+xs.length)
 | [],i=> .inl rfl
 | x::r,i=>by
  by_cases hp:p x=true
  ·right;simp[JS,hp];omega
  ·rcases ABo (p:=p) (xs:=r) (i:=i+1)with h | h
   ·left;simp[JS,hp,h]
   ·right;simp[JS,hp]at *;omega
theorem ADf {α:Type} {p:α→Bool}:∀ {xs:List α} {i:Int} {j:Nat},0≤i→(h:j<xs.length)→p xs[j]=true→(JS p xs i<i+j↔(xs.take j).any p=true)
 | x::r,i,0,hi,h,hp=>by
  have:p x=true:=hp
  simp[JS,this]
 | x::r,i,j+1,hi,h,hp=>by
  by_cases hx:p x=true
  ·simp[JS,hx];omega
  ·have:=ADf (p:=p) (xs:=r) (i:=i+1) (j:=j) (by omega) (by simpa using h) (by simpa using hp)
   simp only[JS,hx,List.take_succ_cons,List.any_cons,Bool.false_or]
   rw[←this]
   simp
   omega
theorem AAh {l:List Ext} {j:Nat} (h:j<l.length):(LJ l l[j].tag<(j:Int))=((l.take j).any (I5 l[j].tag)=true):=by
 have:=ADf (p:=I5 l[j].tag) (i:=0) (by omega) h (by simp[I5])
 rw[Int.zero_add]at this
 exact propext this
theorem AoS {l:List Ext} {j:Nat} {t:Int}:(0≤LJ (l.take j) t)=((l.take j).any (I5 t)=true):=Zt (by omega)
theorem LF {l:List Ext} {j:Nat} (h:j<l.length) (hn:Yz l j=false):FU l=false:=by
 unfold FU
 rw[AxM h hn];rfl
abbrev Ia (R:Rel):Prop:=∀l:List Ext,WQ l→R [.sl 1 2 l.length (l.flatMap Ce)] [] (B (FU l)) []
theorem ABA (D:Dn) (hI:TF (D Cw)) (hB:AbL (D YH)) (hX:Tf (D VS)):Ia (Body D WK):=by
 intro l hl
 have hll:=hl.1
 simp -implicitDefEqProofs
 refine Af (fun k s=>∃j,j+k=l.length∧VJ (Yz l) j=true∧s=⟨[.sl 1 2 l.length (l.flatMap Ce),.undef,I j,.undef,.undef],[]⟩) ?_ (l.length) _ ⟨0,by simp,by simp,by simp⟩
 intro k s ⟨j,hj,hr,hs⟩
 subst hs
 by_cases hjn:j<l.length
 ·have hw:IntKind.i64.wrap ((j:Int)+1)=(j+1:Nat):=by rw[Ab (by omega) (by omega)];simp
  have hst:=Qi (Yz l) j
  have hq:=Ajp hjn
  have hb:=OV hl hjn
  rw[hr,Bool.true_and]at hst
  simp -implicitDefEqProofs [hjn]
  refine Aa (hI _ _ _) ?_
  by_cases h1:WO l[j].tag 0 255
  rotate_left
  ·have e:=LF hjn (by rw[hq];simp[AaZ,h1])
   simp -implicitDefEqProofs [h1,e]
  by_cases h2:l[j].body.length≤4
  rotate_left
  ·have e:=LF hjn (by rw[hq];simp[AaZ,h2])
   have h2':(4:Int)<l[j].body.length:=by omega
   simp -implicitDefEqProofs [hjn,h1,h2',e]
  have h2':¬(4:Int)<l[j].body.length:=by omega
  simp -implicitDefEqProofs [hjn,h1,h2']
  refine Aa (hB _ (by unfold maxLen;omega)) ?_
  by_cases h3:allIn l[j].body 0 255=true
  rotate_left
  ·have e:=LF hjn (by rw[hq];simp[AaZ,h3])
   simp -implicitDefEqProofs [hjn,h3,e]
  simp -implicitDefEqProofs [hjn,h3]
  refine Aa (hX l _ (by unfold maxLen;omega)) ?_
  by_cases h4:(l.take j).any (I5 l[j].tag)=true
  ·have e:=LF hjn (by rw[hq];simp only[h4];simp)
   have h4':LJ l l[j].tag<(j:Int):=by rw[AAh hjn];exact h4
   simp -implicitDefEqProofs [hjn,h4',e]
  ·have h4':¬LJ l l[j].tag<(j:Int):=by rw[AAh hjn];exact h4
   have h4f:(l.take j).any (I5 l[j].tag)=false:=by simpa using h4
   simp -implicitDefEqProofs [hjn,h4']
   exact⟨k-1,by omega,j+1,by omega,by rw[hst,hq,h4f];simp[AaZ,h1,h2,h3],by simp[hw]⟩
 ·obtain rfl:j=l.length:=by omega
  have e:FU l=decide (l.length≤6):=by unfold FU;rw[hr];rfl
  by_cases h5:l.length≤6
  ·have h5':(l.length:Int)≤6:=by omega
   simp -implicitDefEqProofs [e,h5,h5']
  ·have h5':¬(l.length:Int)≤6:=by omega
   simp -implicitDefEqProofs [e,h5,h5']
theorem AAQ (D:Dn) (hI:TF (D BP)) (hX:Tf (D AkK)) (hN:J2 (D JM)):Ia (Body D WN):=by
 intro l hl
 have hll:=hl.1
 simp -implicitDefEqProofs
 refine Af (fun k s=>∃j o0,j+k=l.length∧VJ (Yz l) j=true∧s=⟨[.sl 1 2 l.length (l.flatMap Ce),.undef,.undef,.undef,.sl 1 2 l.length (l.flatMap Ce),I l.length,I j,.undef,.undef],[o0]⟩) ?_ (l.length) _ ⟨0,.free,by simp,by simp,by simp⟩
 intro k s ⟨j,o0,hj,hr,hs⟩
 subst hs
 by_cases hjn:j<l.length
 ·have hw:IntKind.i64.wrap ((j:Int)+1)=(j+1:Nat):=by rw[Ab (by omega) (by omega)];simp
  have hst:=Qi (Yz l) j
  have hq:=Ajp hjn
  have hb:=OV hl hjn
  rw[hr,Bool.true_and]at hst
  simp -implicitDefEqProofs [hjn]
  refine Aa (hI _ _ _) ?_
  by_cases h1:WO l[j].tag 0 255
  rotate_left
  ·have e:=LF hjn (by rw[hq];simp[AaZ,h1])
   simp -implicitDefEqProofs [h1,e]
  have hjl:j≤l.length:=by omega
  have hmin:min j l.length=j:=by omega
  simp -implicitDefEqProofs [hjn,hjl,hmin,h1]
  have hxx:=hX (l.take j) l[j].tag (by simp;unfold maxLen;omega)
  rw[List.length_take,hmin]at hxx
  refine Aa (hxx) ?_
  by_cases h4:(l.take j).any (I5 l[j].tag)=true
  ·have e:=LF hjn (by rw[hq];simp only[h4];simp)
   have h4':0≤LJ (l.take j) l[j].tag:=by rw[AoS];exact h4
   simp -implicitDefEqProofs [hjn,h4',e]
  have h4':¬0≤LJ (l.take j) l[j].tag:=by rw[AoS];exact h4
  have h4f:(l.take j).any (I5 l[j].tag)=false:=by simpa using h4
  by_cases h2:l[j].body.length≤4
  rotate_left
  ·have e:=LF hjn (by rw[hq];simp[AaZ,h2])
   have h2':(4:Int)<l[j].body.length:=by omega
   simp -implicitDefEqProofs [hjn,h4',h2',e]
  have h2':¬(4:Int)<l[j].body.length:=by omega
  simp -implicitDefEqProofs [hjn,h4',h2']
  refine Aa (hN _ _ _ (by unfold maxLen;omega)) ?_
  by_cases h3:allIn l[j].body 0 255=true
  rotate_left
  ·have e:=LF hjn (by rw[hq];simp[AaZ,h3])
   simp -implicitDefEqProofs [hjn,h3,e]
  simp -implicitDefEqProofs [hjn,h3]
  exact⟨k-1,by omega,j+1,by omega,by rw[hst,hq,h4f];simp[AaZ,h1,h2,h3],by simp[hw]⟩
 ·obtain rfl:j=l.length:=by omega
  have e:FU l=decide (l.length≤6):=by unfold FU;rw[hr];rfl
  by_cases h5:l.length≤6
  ·have h5':(l.length:Int)≤6:=by omega
   simp -implicitDefEqProofs [e,h5,h5']
  ·have h5':¬(l.length:Int)≤6:=by omega
   simp -implicitDefEqProofs [e,h5,h5']
def Av (l:List Ext):List Int:=l.map (·.tag)
theorem Aur {l:List Ext} {j:Nat} (h:j<l.length):Av (l.take (j+1))=Av (l.take j)++ [l[j].tag]:=by
 have e:l.take (j+1)=l.take j++ [l[j]]:=by simp
 unfold Av
 rw[e,List.map_append];rfl
abbrev Nb (R:Rel):Prop:=∀l:List Ext,l.length≤4194304→R [.sl 1 2 l.length (l.flatMap Ce)] [] (.sl 0 1 (Av l).length (ints (Av l))) []
theorem AEd (D:Dn):Nb (Body D Yv):=by
 intro l hl
 simp -implicitDefEqProofs
 refine Af (fun k s=>∃j o1 o2,j+k=l.length∧s=⟨[.sl 1 2 l.length (l.flatMap Ce),.undef,.arr 3,I j,.undef],[.free,o1,o2,.arr 1 0 (Av (l.take j)).length (ints (Av (l.take j)))]⟩) ?_ (l.length) _ ⟨0,.free,.free,by simp,by simp[Av]⟩
 intro k s ⟨j,o1,o2,hj,hs⟩
 subst hs
 by_cases hjn:j<l.length
 ·have hw:IntKind.i64.wrap ((j:Int)+1)=(j+1:Nat):=by rw[Ab (by omega) (by omega)];simp
  have hst:=Aur hjn
  have hlen:(Av (l.take j)).length=j:=by simp[Av];omega
  have hb:(j+1)*8≤1099511627776:=by omega
  simp -implicitDefEqProofs [hjn,hlen,hb]
  exact⟨k-1,by omega,j+1,by omega,by simp[hw],by rw[hst];simp[hlen],by rw[hst]⟩
 ·have e:l.take j=l:=List.take_of_length_le (by omega)
  simp -implicitDefEqProofs [hjn,e]
theorem AEV (D:Dn):Nb (Body D Zq):=by
 intro l hl
 simp -implicitDefEqProofs
 refine Af (fun k s=>∃j v3 o1 o2 o3,j+k=l.length∧s=⟨[.undef,.undef,.arr 4,v3,.sl 1 2 l.length (l.flatMap Ce),I l.length,I j,.undef],[.free,o1,o2,o3,.arr 1 0 (Av (l.take j)).length (ints (Av (l.take j)))]⟩) ?_ (l.length) _ ⟨0,.undef,.free,.free,.free,by simp,by simp[Av]⟩
 intro k s ⟨j,v3,o1,o2,o3,hj,hs⟩
 subst hs
 by_cases hjn:j<l.length
 ·have hw:IntKind.i64.wrap ((j:Int)+1)=(j+1:Nat):=by rw[Ab (by omega) (by omega)];simp
  have hst:=Aur hjn
  have hlen:(Av (l.take j)).length=j:=by simp[Av];omega
  have hb:(j+1)*8≤1099511627776:=by omega
  simp -implicitDefEqProofs [hjn,hlen,hb]
  exact⟨k-1,by omega,j+1,by omega,by simp[hw],by rw[hst];simp[hlen],by rw[hst]⟩
 ·have e:l.take j=l:=List.take_of_length_le (by omega)
  simp -implicitDefEqProofs [hjn,e]
end Go.Eng.T
namespace Go.Eng.T
set_option maxRecDepth 20000
def kept (p:Int→Bool) (l:List Ext):List Ext:=l.filter fun x=>p x.tag
theorem Abx {p:Int→Bool} {l:List Ext} {j:Nat} (h:j<l.length):kept p (l.take (j+1))=kept p (l.take j)++(if p l[j].tag then [l[j]]else []):=Ars (p:=fun x:Ext=>p x.tag) h
theorem X0 {p:Int→Bool} {l:List Ext} {j:Nat} (h:l.length≤j):kept p (l.take j)=kept p l:=AhR h
theorem Yh {p:Int→Bool} {l:List Ext} {j:Nat}:(kept p (l.take j)).length≤j:=AuF
theorem XG {l:List Ext} (h:WQ l) (p:Int→Bool):WQ (kept p l):=ACQ h _
theorem Uo {p:Int→Bool} {l:List Ext} {j:Nat} (h:j<l.length) (hp:p l[j].tag=true):
 (kept p (l.take j)).flatMap Ce++ [.sc (.int .i64 l[j].tag),.sl 0 1 l[j].body.length (ints l[j].body)]=(kept p (l.take (j+1))).flatMap Ce:=by
 rw[Abx h,if_pos hp,List.flatMap_append];simp
theorem KE {p:Int→Bool} {l:List Ext} {j:Nat} (h:j<l.length) (hp:p l[j].tag=true):(kept p (l.take (j+1))).length=(kept p (l.take j)).length+1:=by
 rw[Abx h,if_pos hp];simp
theorem XH {p:Int→Bool} {l:List Ext} {j:Nat} (h:j<l.length) (hp:¬p l[j].tag=true):kept p (l.take (j+1))=kept p (l.take j):=by
 rw[Abx h,if_neg hp,List.append_nil]
def AuY (caps:List V):Prop:=∀k,caps.any (m1 k)=false
theorem Us:AuY []:=fun _=>rfl
theorem Adb {fl:Nat} {cs:List V} {o:Nat} {r:List V} (h:AuY r):AuY (.rptr fl cs o::r):=fun k=>by
 have:=h k
 simp only[List.any_cons,this,m1,Bool.or_self]
theorem Un {k g:Nat} {caps:List V} (h:AuY caps):Vm k (.fn g caps)= .fn g caps:=by
 have:=h k
 simp only[Vm,m3,m2,this]
 rfl
theorem Abg {a b g:Nat} {caps:List V} (h:AuY caps):AfZ a b (.fn g caps)= .fn g caps:=by
 have:=h a
 simp only[AfZ,m3,m2,this]
 rfl
abbrev NS (D:Dn) (R:Rel):Prop:=∀(l:List Ext) (g:Nat) (caps:List V) (p:Int→Bool),WQ l→PU caps→AuY caps→(∀t:Int,D g (I t::caps) [] (B (p t)) [])→
 R [.sl 1 2 l.length (l.flatMap Ce),.fn g caps] [] (.sl 0 2 (kept p l).length ((kept p l).flatMap Ce)) []
theorem ACh (D:Dn):NS D (Body D U1):=by
 intro l g caps p hl hc hno hp
 have hll:=hl.1
 simp -implicitDefEqProofs [↓Un hno,↓Abg hno]
 refine Af (fun k s=>∃j v4 o1 o2 o3 o4 o5,j+k=l.length∧s=⟨[.undef,.fn g caps,.undef,.arr 6,v4,.sl 1 2 l.length (l.flatMap Ce),I l.length,I j,.undef,.undef],[.free,o1,o2,o3,o4,o5,.arr 2 0 (kept p (l.take j)).length ((kept p (l.take j)).flatMap Ce)]⟩) ?_ (l.length) _ ⟨0,.undef,.free,.free,.free,.free,.free,by simp,by simp[kept,↓Un hno,↓Abg hno]⟩
 intro k s ⟨j,v4,o1,o2,o3,o4,o5,hj,hs⟩
 subst hs
 by_cases hjn:j<l.length
 ·have hw:IntKind.i64.wrap ((j:Int)+1)=(j+1:Nat):=by rw[Ab (by omega) (by omega)];simp
  have hb:=OV hl hjn
  have h1:l[j].body.length*8≤1099511627776:=by omega
  have hkl:=Yh (p:=p) (l:=l) (j:=j)
  have h2:((kept p (l.take j)).length+1)*32≤1099511627776:=by omega
  simp -implicitDefEqProofs [hjn,↓Un hno,↓Abg hno,hc.1,hc.2.1]
  refine Aa (hp l[j].tag) ?_
  by_cases he:p l[j].tag=true
  ·have hst:=Uo hjn he
   have hsl:=KE hjn he
   simp -implicitDefEqProofs [he,hjn,↓Un hno,↓Abg hno,h1,h2]
   exact⟨k-1,by omega,j+1,by omega,by simp[hw],by rw[hsl],by rw[←hst]⟩
  ·have hst:=XH hjn he
   simp -implicitDefEqProofs [he,↓Un hno,↓Abg hno]
   exact⟨k-1,by omega,j+1,by omega,by simp[hw],by rw[hst],by rw[hst]⟩
 ·have e:=X0 (p:=p) (l:=l) (j:=j) (by omega)
  simp -implicitDefEqProofs [hjn,e]
abbrev Afr (R:Rel):Prop:=∀t:Int,R [I t] [] (B true) []
abbrev Zw (R:Rel):Prop:=∀t:Int,R [I t] [] (B (!A9 t)) []
theorem Ay2 (D:Dn):Afr (Body D Qo):=by
 intro t
 simp -implicitDefEqProofs
theorem ApW (D:Dn) (hR:Ho (D Xz)):Zw (Body D MI):=by
 intro t
 simp -implicitDefEqProofs
 refine Aa (hR t) ?_
 simp -implicitDefEqProofs
theorem AF0 (l:List Ext):kept (fun _=>true) l=l:=by simp[kept]
abbrev Q8 (R:Rel):Prop:=∀l:List Ext,WQ l→R [.sl 1 2 l.length (l.flatMap Ce)] [] (.sl 0 2 l.length (l.flatMap Ce)) []
theorem ACE (D:Dn) (h1:Afr (D XB)) (hK:NS D (D Lh)):Q8 (Body D UD):=by
 intro l hl
 simp -implicitDefEqProofs
 refine Aa (hK l XB [] (fun _=>true) hl I7 Us (fun t=>h1 t)) ?_
 simp -implicitDefEqProofs [AF0]
def AdI (l:List Ext):List Ext:=kept (fun t=> !A9 t) l
def M9 (l:List Ext) (tags:List Int):List Ext:=kept (fun t=>decide (t∈tags)) l
abbrev Je (R:Rel):Prop:=∀l:List Ext,WQ l→R [.sl 1 2 l.length (l.flatMap Ce)] [] (.sl 0 2 (AdI l).length ((AdI l).flatMap Ce)) []
theorem Art (D:Dn) (h1:Zw (D TB)) (hK:NS D (D Lh)):Je (Body D Pq):=by
 intro l hl
 simp -implicitDefEqProofs
 refine Aa (hK l TB [] (fun t=> !A9 t) hl I7 Us (fun t=>h1 t)) ?_
 simp -implicitDefEqProofs [AdI]
abbrev Pp (R:Rel):Prop:=∀(l:List Ext) (tags:List Int),WQ l→tags.length≤maxLen→R [.sl 1 2 l.length (l.flatMap Ce),.sl 1 1 tags.length (ints tags)] [] (.sl 0 2 (M9 l tags).length ((M9 l tags).flatMap Ce)) []
abbrev AbB (R:Rel):Prop:=∀(t:Int) (tags:List Int),tags.length≤maxLen→R [I t,.rptr 1 [.sl 0 1 tags.length (ints tags)] 0] [] (B (decide (t∈tags))) []
theorem Ap8 {a:List Int} {r:List V} (h:PU r):PU (.rptr 1 [.sl 0 1 a.length (ints a)] 0::r):=AdL (fun H=>by simp) (fun H=>by simp) h
theorem ACb (D:Dn) (hH:PN (D Bb)):AbB (Body D Sy):=by
 intro t tags hl
 simp -implicitDefEqProofs
 refine Aa (hH tags t hl) ?_
 simp -implicitDefEqProofs
theorem ABF (D:Dn) (h1:AbB (D ZI)) (hK:NS D (D Lh)):Pp (Body D WB):=by
 intro l tags hl ht
 simp -implicitDefEqProofs
 refine Aa (hK l ZI _ (fun t=>decide (t∈tags)) hl (Ap8 I7) (Adb Us) (fun t=>h1 t tags ht)) ?_
 simp -implicitDefEqProofs [M9]
theorem AA7 (D:Dn) (hH:PN (D Jj)):Pp (Body D Wu):=by
 intro l tags hl ht
 have hll:=hl.1
 have hres:M9 l tags=kept (fun t=>decide (t∈tags)) l:=rfl
 rw[hres]
 generalize hp:(fun t=>decide (t∈tags))=p
 simp -implicitDefEqProofs
 refine Af (fun k s=>∃j o1 o2 o3 o4,j+k=l.length∧s=⟨[.sl 1 2 l.length (l.flatMap Ce),.sl 1 1 tags.length (ints tags),.undef,.arr 5,I j,.undef,.undef],[.free,o1,o2,o3,o4,.arr 2 0 (kept p (l.take j)).length ((kept p (l.take j)).flatMap Ce)]⟩) ?_ (l.length) _ ⟨0,.free,.free,.free,.free,by simp,by simp[kept]⟩
 intro k s ⟨j,o1,o2,o3,o4,hj,hs⟩
 subst hs
 by_cases hjn:j<l.length
 ·have hw:IntKind.i64.wrap ((j:Int)+1)=(j+1:Nat):=by rw[Ab (by omega) (by omega)];simp
  have hb:=OV hl hjn
  have h1:l[j].body.length*8≤1099511627776:=by omega
  have hkl:=Yh (p:=p) (l:=l) (j:=j)
  have h2:((kept p (l.take j)).length+1)*32≤1099511627776:=by omega
  simp -implicitDefEqProofs [hjn]
  refine Aa (hH tags l[j].tag ht) ?_
  have hpe:decide (l[j].tag∈tags)=p l[j].tag:=by rw[←hp]
  rw[hpe]
  by_cases he:p l[j].tag=true
  ·have hst:=Uo hjn he
   have hsl:=KE hjn he
   simp -implicitDefEqProofs [he,hjn,h1,h2]
   exact⟨k-1,by omega,j+1,by omega,by simp[hw],by rw[hsl],by rw[←hst]⟩
  ·have hst:=XH hjn he
   simp -implicitDefEqProofs [he]
   exact⟨k-1,by omega,j+1,by omega,by simp[hw],by rw[hst],by rw[hst]⟩
 ·have e:=X0 (p:=p) (l:=l) (j:=j) (by omega)
  simp -implicitDefEqProofs [hjn,e]
theorem AqL (D:Dn) (hR:Ho (D PX)):Je (Body D OC):=by
 intro l hl
 have hll:=hl.1
 have hres:AdI l=kept (fun t=> !A9 t) l:=rfl
 rw[hres]
 generalize hp:(fun t=> !A9 t)=p
 simp -implicitDefEqProofs
 refine Af (fun k s=>∃j o1 o2 o3 o4,j+k=l.length∧s=⟨[.sl 1 2 l.length (l.flatMap Ce),.undef,.arr 5,I j,.undef,.undef],[.free,o1,o2,o3,o4,.arr 2 0 (kept p (l.take j)).length ((kept p (l.take j)).flatMap Ce)]⟩) ?_ (l.length) _ ⟨0,.free,.free,.free,.free,by simp,by simp[kept]⟩
 intro k s ⟨j,o1,o2,o3,o4,hj,hs⟩
 subst hs
 by_cases hjn:j<l.length
 ·have hw:IntKind.i64.wrap ((j:Int)+1)=(j+1:Nat):=by rw[Ab (by omega) (by omega)];simp
  have hb:=OV hl hjn
  have h1:l[j].body.length*8≤1099511627776:=by omega
  have hkl:=Yh (p:=p) (l:=l) (j:=j)
  have h2:((kept p (l.take j)).length+1)*32≤1099511627776:=by omega
  simp -implicitDefEqProofs [hjn]
  refine Aa (hR l[j].tag) ?_
  have hpe:(!A9 l[j].tag)=p l[j].tag:=by rw[←hp]
  by_cases he:p l[j].tag=true
  ·have hst:=Uo hjn he
   have hsl:=KE hjn he
   have he':A9 l[j].tag=false:=by rw[he]at hpe;simpa using hpe
   simp -implicitDefEqProofs [he',hjn,h1,h2]
   exact⟨k-1,by omega,j+1,by omega,by simp[hw],by rw[hsl],by rw[←hst]⟩
  ·have hst:=XH hjn he
   have he':A9 l[j].tag=true:=by simp at he;rw[he]at hpe;simpa using hpe
   simp -implicitDefEqProofs [he']
   exact⟨k-1,by omega,j+1,by omega,by simp[hw],by rw[hst],by rw[hst]⟩
 ·have e:=X0 (p:=p) (l:=l) (j:=j) (by omega)
  simp -implicitDefEqProofs [hjn,e]
theorem ABR (l:List Ext):M9 l (Av l)=l:=by
 unfold M9 kept
 rw[List.filter_eq_self]
 intro x hx
 simp only[decide_eq_true_eq]
 exact List.mem_map.2 ⟨x,hx,rfl⟩
theorem Pk (l:List Ext):(Av l).length=l.length:=by simp[Av]
theorem AEy (D:Dn) (hT:Nb (D Ag9)) (hK:Pp (D Ac4)):Q8 (Body D WU):=by
 intro l hl
 have hll:=hl.1
 simp -implicitDefEqProofs
 refine Aa (hT l hll) ?_
 simp -implicitDefEqProofs
 refine Aa (hK l (Av l) hl (by rw[Pk];unfold maxLen;omega)) ?_
 simp -implicitDefEqProofs [ABR]
end Go.Eng.T
namespace Go.Eng.T
set_option maxRecDepth 20000
abbrev InV (a b c:Int):Prop:=b≤a∧a≤c
def NJ (xs:List Int) (j:Nat):Bool:=(List.range j).all fun i=>decide (InV (xs.getD i 0) 1 9)&&(decide (i=0)||decide (xs.getD (i-1) 0<xs.getD i 0))
theorem V6 (xs:List Int) (j:Nat):NJ xs (j+1)=(NJ xs j&&(decide (InV (xs.getD j 0) 1 9)&&(decide (j=0)||decide (xs.getD (j-1) 0<xs.getD j 0)))):=by
 unfold NJ
 rw[List.range_succ,List.all_append]
 simp
theorem AbG {xs:List Int} {j:Nat} (h:j<xs.length) (hn:NJ xs (j+1)=false):NJ xs xs.length=false:=by
 have:∀n,NJ xs (j+1+n)=false:=by
  intro n
  induction n with
  | zero=>exact hn
  | succ n ih=>rw[show j+1+(n+1)=(j+1+n)+1 by omega,V6,ih];rfl
 have:=this (xs.length-(j+1))
 rwa [show j+1+(xs.length-(j+1))=xs.length by omega]at this
theorem AaF {xs:List Int} {j:Nat} (h:j<xs.length):xs.getD j 0=xs[j]:=by simp[h]
def Bt (xs:List Int):Bool:=NJ xs xs.length&&decide (0<xs.length)
abbrev Co (R:Rel):Prop:=∀xs:List Int,xs.length≤maxLen→R [.sl 1 1 xs.length (ints xs)] [] (B (Bt xs)) []
theorem App (D:Dn) (hI:TF (D Cw)):Co (Body D Pb):=by
 intro xs hl
 unfold maxLen at hl
 simp -implicitDefEqProofs
 refine Af (fun k s=>∃j,j+k=xs.length∧NJ xs j=true∧s=⟨[.sl 1 1 xs.length (ints xs),.undef,.sc (.int .i64 j),.undef,.undef],[]⟩) ?_ xs.length _ ⟨0,by simp,by simp[NJ],by simp⟩
 intro k s ⟨j,hj,hr,hs⟩
 subst hs
 by_cases hjn:j<xs.length
 ·have hw:IntKind.i64.wrap ((j:Int)+1)=(j+1:Nat):=by rw[Ab (by omega) (by omega)];simp
  have hst:=V6 xs j
  rw[hr,Bool.true_and,AaF hjn]at hst
  simp -implicitDefEqProofs [hjn]
  refine Aa (hI _ _ _) ?_
  by_cases h1:InV xs[j] 1 9
  rotate_left
  ·have e:Bt xs=false:=by unfold Bt;rw[AbG hjn (by rw[hst];simp[h1])];rfl
   simp -implicitDefEqProofs [h1,e]
  by_cases h0:j=0
  ·subst h0
   simp -implicitDefEqProofs [h1]
   exact⟨k-1,by omega,1,by omega,by rw[hst];simp[h1],by simpa using hw⟩
  ·have hw2:IntKind.i64.wrap ((j:Int)-1)=((j-1:Nat):Int):=by rw[Ab (by omega) (by omega)];omega
   have h2:(0:Int)<j:=by omega
   have h2':0<j:=by omega
   have h3:j-1<xs.length:=by omega
   rw[AaF h3]at hst
   by_cases h4:xs[j-1]<xs[j]
   ·have h4':¬xs[j]≤xs[j-1]:=by omega
    simp -implicitDefEqProofs [h1,h2,h2',hw2,h3,hjn,h4']
    exact⟨k-1,by omega,j+1,by omega,by rw[hst];simp[h1,h0,h4],by simp[hw]⟩
   ·have e:Bt xs=false:=by unfold Bt;rw[AbG hjn (by rw[hst];simp[h1,h0,h4])];rfl
    have h4':xs[j]≤xs[j-1]:=by omega
    simp -implicitDefEqProofs [h1,h2,h2',hw2,h3,hjn,h4',e]
 ·obtain rfl:j=xs.length:=by omega
  have e:Bt xs=decide (0<xs.length):=by unfold Bt;rw[hr];rfl
  by_cases h5:0<xs.length
  ·have h5':(0:Int)<xs.length:=by omega
   simp -implicitDefEqProofs [e,h5,h5']
  ·have h5':¬(0:Int)<xs.length:=by omega
   simp -implicitDefEqProofs [e,h5,h5']
theorem Aoo (D:Dn) (hI:TF (D BP)):Co (Body D Oo):=by
 intro xs hl
 unfold maxLen at hl
 simp -implicitDefEqProofs
 refine Af (fun k s=>∃j v2 v3,j+k=xs.length∧NJ xs j=true∧s=⟨[.sl 1 1 xs.length (ints xs),.undef,v2,v3,.sl 1 1 xs.length (ints xs),.sc (.int .i64 xs.length),.sc (.int .i64 j),.undef,.undef],[]⟩) ?_ xs.length _ ⟨0,.undef,.undef,by simp,by simp[NJ],by simp⟩
 intro k s ⟨j,v2,v3,hj,hr,hs⟩
 subst hs
 by_cases hjn:j<xs.length
 ·have hw:IntKind.i64.wrap ((j:Int)+1)=(j+1:Nat):=by rw[Ab (by omega) (by omega)];simp
  have hst:=V6 xs j
  rw[hr,Bool.true_and,AaF hjn]at hst
  simp -implicitDefEqProofs [hjn]
  refine Aa (hI _ _ _) ?_
  by_cases h1:InV xs[j] 1 9
  rotate_left
  ·have e:Bt xs=false:=by unfold Bt;rw[AbG hjn (by rw[hst];simp[h1])];rfl
   simp -implicitDefEqProofs [h1,e]
  by_cases h0:j=0
  ·subst h0
   simp -implicitDefEqProofs [h1]
   exact⟨k-1,by omega,1,by omega,by rw[hst];simp[h1],by simpa using hw⟩
  ·have hw2:IntKind.i64.wrap ((j:Int)-1)=((j-1:Nat):Int):=by rw[Ab (by omega) (by omega)];omega
   have h2:(0:Int)<j:=by omega
   have h2':0<j:=by omega
   have h3:j-1<xs.length:=by omega
   rw[AaF h3]at hst
   by_cases h4:xs[j-1]<xs[j]
   ·have h4':¬xs[j]≤xs[j-1]:=by omega
    simp -implicitDefEqProofs [h1,h2,h2',hw2,h3,hjn,h4']
    exact⟨k-1,by omega,j+1,by omega,by rw[hst];simp[h1,h0,h4],by simp[hw]⟩
   ·have e:Bt xs=false:=by unfold Bt;rw[AbG hjn (by rw[hst];simp[h1,h0,h4])];rfl
    have h4':xs[j]≤xs[j-1]:=by omega
    simp -implicitDefEqProofs [h1,h2,h2',hw2,h3,hjn,h4',e]
 ·obtain rfl:j=xs.length:=by omega
  have e:Bt xs=decide (0<xs.length):=by unfold Bt;rw[hr];rfl
  by_cases h5:0<xs.length
  ·have h5':(0:Int)<xs.length:=by omega
   simp -implicitDefEqProofs [e,h5,h5']
  ·have h5':¬(0:Int)<xs.length:=by omega
   simp -implicitDefEqProofs [e,h5,h5']
theorem KD {p:Int→Bool} {xs:List Int} {j:Nat} (h:j<xs.length):(xs.take (j+1)).filter p=(xs.take j).filter p++(if p xs[j]then [xs[j]]else []):=by
 have e:xs.take (j+1)=xs.take j++ [xs[j]]:=by simp
 rw[e,List.filter_append]
 by_cases hp:p xs[j]=true<;>simp[hp]
theorem K9 {p:Int→Bool} {xs:List Int} {j:Nat} (h:xs.length≤j):(xs.take j).filter p=xs.filter p:=by rw[List.take_of_length_le h]
theorem M5 {p:Int→Bool} {xs:List Int} {j:Nat}:((xs.take j).filter p).length≤j:=by
 have:=List.length_filter_le p (xs.take j)
 have h2:(xs.take j).length≤j:=by simp;omega
 omega
def common (a b:List Int):List Int:=a.filter fun v=>decide (v∈b)
def Cg (a:List Int) (v:Int):List Int:=a.filter fun x=> !decide (x=v)
abbrev Oc (R:Rel):Prop:=∀a b:List Int,a.length≤4194304→b.length≤maxLen→R [.sl 1 1 a.length (ints a),.sl 1 1 b.length (ints b)] [] (.sl 0 1 (common a b).length (ints (common a b))) []
abbrev Oe (R:Rel):Prop:=∀(a:List Int) (v:Int),a.length≤4194304→R [.sl 1 1 a.length (ints a),I v] [] (.sl 0 1 (Cg a v).length (ints (Cg a v))) []
abbrev Ya (R:Rel):Prop:=∀(a:List Int) (v:Int),a.length≤4194304→R [.sl 1 1 a.length (ints a),.sl 1 1 1 (ints [v])] [] (.sl 0 1 (Cg a v).length (ints (Cg a v))) []
theorem Aye (D:Dn) (hH:PN (D Jj)):Oc (Body D Vi):=by
 intro a b ha hb'
 have hres:common a b=a.filter (fun v=>decide (v∈b)):=rfl
 rw[hres]
 simp -implicitDefEqProofs
 refine Af (fun k s=>∃j o1 o2,j+k=a.length∧s=⟨[.sl 1 1 a.length (ints a),.sl 1 1 b.length (ints b),.undef,.arr 3,.sc (.int .i64 j),.undef,.undef],[.free,o1,o2,.arr 1 0 ((a.take j).filter (fun v=>decide (v∈b))).length (ints ((a.take j).filter (fun v=>decide (v∈b))))]⟩) ?_ a.length _ ⟨0,by simp⟩
 intro k s ⟨j,o1,o2,hj,hs⟩
 subst hs
 by_cases hjn:j<a.length
 ·have hw:IntKind.i64.wrap ((j:Int)+1)=(j+1:Nat):=by rw[Ab (by omega) (by omega)];simp
  have hst:=KD (p:=fun v=>decide (v∈b)) hjn
  have hln:=M5 (p:=fun v=>decide (v∈b)) (xs:=a) (j:=j)
  have hb:(((a.take j).filter (fun v=>decide (v∈b))).length+1)*8≤1099511627776:=by omega
  simp -implicitDefEqProofs [hjn]
  refine Aa (hH b _ hb') ?_
  by_cases h1:a[j]∈b
  ·rw[if_pos (by simp[h1])]at hst
   simp -implicitDefEqProofs [h1,hjn,hb]
   exact⟨k-1,by omega,j+1,by omega,by simp[hw],by rw[hst];simp,by rw[hst]⟩
  ·rw[if_neg (by simp[h1]),List.append_nil]at hst
   simp -implicitDefEqProofs [h1,hjn,hb]
   exact⟨k-1,by omega,j+1,by omega,by simp[hw],by rw[hst],by rw[hst]⟩
 ·have hx:=K9 (p:=fun v=>decide (v∈b)) (xs:=a) (j:=j) (by omega)
  simp -implicitDefEqProofs [hjn,hx]
theorem Ayk (D:Dn) (hH:PN (D Bb)):Oc (Body D UZ):=by
 intro a b ha hb'
 have hres:common a b=a.filter (fun v=>decide (v∈b)):=rfl
 rw[hres]
 simp -implicitDefEqProofs
 refine Af (fun k s=>∃j v4 o1 o2,j+k=a.length∧s=⟨[.undef,.sl 1 1 b.length (ints b),.undef,.arr 3,v4,.sl 1 1 a.length (ints a),.sc (.int .i64 a.length),.sc (.int .i64 j),.undef,.undef],[.free,o1,o2,.arr 1 0 ((a.take j).filter (fun v=>decide (v∈b))).length (ints ((a.take j).filter (fun v=>decide (v∈b))))]⟩) ?_ a.length _ ⟨0,by simp⟩
 intro k s ⟨j,v4,o1,o2,hj,hs⟩
 subst hs
 by_cases hjn:j<a.length
 ·have hw:IntKind.i64.wrap ((j:Int)+1)=(j+1:Nat):=by rw[Ab (by omega) (by omega)];simp
  have hst:=KD (p:=fun v=>decide (v∈b)) hjn
  have hln:=M5 (p:=fun v=>decide (v∈b)) (xs:=a) (j:=j)
  have hb:(((a.take j).filter (fun v=>decide (v∈b))).length+1)*8≤1099511627776:=by omega
  simp -implicitDefEqProofs [hjn]
  refine Aa (hH b _ hb') ?_
  by_cases h1:a[j]∈b
  ·rw[if_pos (by simp[h1])]at hst
   simp -implicitDefEqProofs [h1,hjn,hb]
   exact⟨k-1,by omega,j+1,by omega,by simp[hw],by rw[hst];simp,by rw[hst]⟩
  ·rw[if_neg (by simp[h1]),List.append_nil]at hst
   simp -implicitDefEqProofs [h1,hjn,hb]
   exact⟨k-1,by omega,j+1,by omega,by simp[hw],by rw[hst],by rw[hst]⟩
 ·have hx:=K9 (p:=fun v=>decide (v∈b)) (xs:=a) (j:=j) (by omega)
  simp -implicitDefEqProofs [hjn,hx]
theorem Awh (D:Dn):Oe (Body D QX):=by
 intro a v ha
 have hres:Cg a v=a.filter (fun x=> !decide (x=v)):=rfl
 rw[hres]
 simp -implicitDefEqProofs
 refine Af (fun k s=>∃j o1 o2,j+k=a.length∧s=⟨[.sl 1 1 a.length (ints a),.sc (.int .i64 v),.undef,.arr 3,.sc (.int .i64 j),.undef,.undef],[.free,o1,o2,.arr 1 0 ((a.take j).filter (fun x=> !decide (x=v))).length (ints ((a.take j).filter (fun x=> !decide (x=v))))]⟩) ?_ a.length _ ⟨0,by simp⟩
 intro k s ⟨j,o1,o2,hj,hs⟩
 subst hs
 by_cases hjn:j<a.length
 ·have hw:IntKind.i64.wrap ((j:Int)+1)=(j+1:Nat):=by rw[Ab (by omega) (by omega)];simp
  have hst:=KD (p:=fun x=> !decide (x=v)) hjn
  have hln:=M5 (p:=fun x=> !decide (x=v)) (xs:=a) (j:=j)
  have hb:(((a.take j).filter (fun x=> !decide (x=v))).length+1)*8≤1099511627776:=by omega
  simp -implicitDefEqProofs [hjn]
  by_cases h1:a[j]=v
  ·rw[if_neg (by simp[h1]),List.append_nil]at hst
   simp -implicitDefEqProofs [h1,hjn,hb]
   exact⟨k-1,by omega,j+1,by omega,by simp[hw],by rw[hst],by rw[hst]⟩
  ·rw[if_pos (by simp[h1])]at hst
   simp -implicitDefEqProofs [h1,hjn,hb]
   exact⟨k-1,by omega,j+1,by omega,by simp[hw],by rw[hst];simp,by rw[hst]⟩
 ·have hx:=K9 (p:=fun x=> !decide (x=v)) (xs:=a) (j:=j) (by omega)
  simp -implicitDefEqProofs [hjn,hx]
theorem AFW (D:Dn) (hH:PN (D Bb)):Ya (Body D Q0):=by
 intro a v ha
 have hres:Cg a v=a.filter (fun x=> !decide (x=v)):=rfl
 rw[hres]
 simp -implicitDefEqProofs
 refine Af (fun k s=>∃j v4 o1 o2,j+k=a.length∧s=⟨[.undef,.sl 1 1 1 (ints [v]),.undef,.arr 3,v4,.sl 1 1 a.length (ints a),.sc (.int .i64 a.length),.sc (.int .i64 j),.undef,.undef],[.free,o1,o2,.arr 1 0 ((a.take j).filter (fun x=> !decide (x=v))).length (ints ((a.take j).filter (fun x=> !decide (x=v))))]⟩) ?_ a.length _ ⟨0,by simp⟩
 intro k s ⟨j,v4,o1,o2,hj,hs⟩
 subst hs
 by_cases hjn:j<a.length
 ·have hw:IntKind.i64.wrap ((j:Int)+1)=(j+1:Nat):=by rw[Ab (by omega) (by omega)];simp
  have hst:=KD (p:=fun x=> !decide (x=v)) hjn
  have hln:=M5 (p:=fun x=> !decide (x=v)) (xs:=a) (j:=j)
  have hb:(((a.take j).filter (fun x=> !decide (x=v))).length+1)*8≤1099511627776:=by omega
  simp -implicitDefEqProofs [hjn]
  refine Aa (hH [v] _ (by unfold maxLen;simp)) ?_
  by_cases h1:a[j]=v
  ·rw[if_neg (by simp[h1]),List.append_nil]at hst
   simp -implicitDefEqProofs [h1,hjn,hb]
   exact⟨k-1,by omega,j+1,by omega,by simp[hw],by rw[hst],by rw[hst]⟩
  ·rw[if_pos (by simp[h1])]at hst
   simp -implicitDefEqProofs [h1,hjn,hb]
   exact⟨k-1,by omega,j+1,by omega,by simp[hw],by rw[hst];simp,by rw[hst]⟩
 ·have hx:=K9 (p:=fun x=> !decide (x=v)) (xs:=a) (j:=j) (by omega)
  simp -implicitDefEqProofs [hjn,hx]
end Go.Eng.T
namespace Go.Eng.T
set_option maxRecDepth 20000
def hB (h:Hello):Prop:=h.versions.length≤4194304∧WQ h.exts
def Dw (h:Hello):Bool:=Bt h.versions&&FU h.exts
abbrev Fe (R:Rel):Prop:=∀h:Hello,hB h→R [arg (DJ h)] [] (B (Dw h)) []
theorem AB3 (D:Dn) (hA:Co (D F8)) (hE:Ia (D MU)):Fe (Body D Wx):=by
 intro h hh
 simp -implicitDefEqProofs
 refine Aa (hA _ (by have:=hh.1;unfold maxLen;omega)) ?_
 by_cases h1:Bt h.versions=true
 rotate_left
 ·simp -implicitDefEqProofs [h1,Dw]
 simp -implicitDefEqProofs [h1]
 refine Aa (hE _ hh.2) ?_
 simp -implicitDefEqProofs [h1,Dw]
theorem AB6 (D:Dn) (hA:Co (D Gb)) (hE:Ia (D MW)):Fe (Body D WR):=by
 intro h hh
 simp -implicitDefEqProofs
 refine Aa (hA _ (by have:=hh.1;unfold maxLen;omega)) ?_
 by_cases h1:Bt h.versions=true
 rotate_left
 ·simp -implicitDefEqProofs [h1,Dw]
 simp -implicitDefEqProofs [h1]
 refine Aa (hE _ hh.2) ?_
 simp -implicitDefEqProofs [h1,Dw]
abbrev MS (R:Rel):Prop:=∀h:Hello,hB h→R [arg (DJ h)] [] (.agg (DJ h)) []
theorem AxT (D:Dn) (hE:Q8 (D Abh)):MS (Body D Tq):=by
 intro h hh
 have h1:h.versions.length*8≤1099511627776:=by have:=hh.1;omega
 simp -implicitDefEqProofs [h1]
 refine Aa (hE _ hh.2) ?_
 simp -implicitDefEqProofs
theorem ACG (D:Dn) (hE:Q8 (D AcT)):MS (Body D U6):=by
 intro h hh
 have h1:h.versions.length*8≤1099511627776:=by have:=hh.1;omega
 simp -implicitDefEqProofs [h1]
 refine Aa (hE _ hh.2) ?_
 simp -implicitDefEqProofs
def lossy (b:H9) (x:Ext):Bool:=decide (x.tag∈b.drops)||(b.lists&&(!decide (x.tag∈b.strips)&& !decide (WO x.tag 1 3)))
def ACj (vs:List Int):Int:=vs.getLastD 0
def Qh (b:H9) (h:Hello):Bool:=(decide (0<b.limit)&&decide (b.limit<ACj h.versions))||h.exts.any (lossy b)
def stays (b:H9) (t:Int):Bool:= !decide (t∈b.strips)
def Bg:Hello:=⟨[],[]⟩
def CO (b:H9) (h:Hello):Hello×Bool:=if Ji b&&(Dw h&& !Qh b h)then(⟨h.versions,kept (stays b) h.exts⟩,true)else(Bg,false)
abbrev Rx (R:Rel):Prop:=∀(b:H9) (h:Hello),JG b→hB h→R [arg (CW b),arg (DJ h)] [] (.tup [.agg (DJ (CO b h).1),B (CO b h).2]) []
theorem Aas {xs:List Int} (h:Bt xs=true):0<xs.length:=by
 unfold Bt at h
 simp only[Bool.and_eq_true,decide_eq_true_eq]at h
 exact h.2
theorem AKV {xs:List Int} (h:xs.length-1<xs.length):ACj xs=xs[xs.length-1]:=by
 unfold ACj
 rw[List.getLastD_eq_getLast?,List.getLast?_eq_getElem?,List.getElem?_eq_getElem h];rfl
theorem ACH (D:Dn) (hX:Tx (D AaH)) (hE:Fe (D Iz)) (hH:PN (D Jj)) (hI:TF (D Cw)):Rx (Body D WS):=by
 intro b h hb hh
 obtain⟨hv,hx⟩:=hh
 have hll:=hx.1
 simp -implicitDefEqProofs
 refine Aa (hX b hb) ?_
 by_cases h1:Ji b=true
 rotate_left
 ·simp -implicitDefEqProofs [h1,CO,Bg]
 simp -implicitDefEqProofs [h1]
 refine Aa (hE h ⟨hv,hx⟩) ?_
 by_cases h2:Dw h=true
 rotate_left
 ·simp -implicitDefEqProofs [h2,CO,Bg]
 have hpos:0<h.versions.length:=Aas (by unfold Dw at h2;simp only[Bool.and_eq_true]at h2;exact h2.1)
 have hn1:h.versions.length-1<h.versions.length:=by omega
 have hw1:IntKind.i64.wrap ((h.versions.length:Int)-1)=((h.versions.length-1:Nat):Int):=by rw[Ab (by omega) (by omega)];omega
 have htop:=AKV hn1
 by_cases h3:0<b.limit
 ·by_cases h4:b.limit<h.versions[h.versions.length-1]
  ·have e:CO b h=(Bg,false):=by simp[CO,Qh,htop,h3,h4]
   simp -implicitDefEqProofs [h2,h3,hw1,hn1,hpos,h4,e,Bg]
  ·have h3':b.limit<ACj h.versions↔False:=by rw[htop];simpa using h4
   have b0:h.versions.length*8≤1099511627776:=by omega
   simp -implicitDefEqProofs [h2,h3,hw1,hn1,hpos,h4,b0]
   refine Af (fun k s=>∃j v8 o6 o7 o8 o9,j+k=h.exts.length∧(h.exts.take j).any (lossy b)=false∧s=⟨[.undef,.undef,.ptr 0 0,.ptr 1 0,.ptr 2 0,.undef,.ptr 5 0,I j,v8,.undef,.undef,.undef,.undef,.undef],[.var ((CW b).map (Be 1)),.var ((DJ h).map (Be 1)),.var [.nil 1,.nil 2],.dead,.arr 1 0 h.versions.length (ints h.versions),.var [.arr 4,.arr 10],o6,o7,o8,o9,.arr 2 0 (kept (stays b) (h.exts.take j)).length ((kept (stays b) (h.exts.take j)).flatMap Ce)]⟩) ?_ (h.exts.length) _ ⟨0,.undef,.free,.free,.free,.free,by simp,by simp,by simp[kept]⟩
   intro k s ⟨j,v8,o6,o7,o8,o9,hj,hp,hs⟩
   subst hs
   by_cases hjn:j<h.exts.length
   ·have hw:IntKind.i64.wrap ((j:Int)+1)=(j+1:Nat):=by rw[Ab (by omega) (by omega)];simp
    have hbd:=OV hx hjn
    have b1:h.exts[j].body.length*8≤1099511627776:=by omega
    have hkl:=Yh (p:=stays b) (l:=h.exts) (j:=j)
    have b2:((kept (stays b) (h.exts.take j)).length+1)*32≤1099511627776:=by omega
    have hst:=Apk (p:=lossy b) hjn
    rw[hp,Bool.false_or]at hst
    simp -implicitDefEqProofs [hjn]
    refine Aa (hH _ _ hb.2) ?_
    simp -implicitDefEqProofs
    refine Aa (hH _ _ hb.1) ?_
    by_cases g1:h.exts[j].tag∈b.drops
    ·have e:CO b h=(Bg,false):=by
      have:=AaU (p:=lossy b) hjn (by simp[lossy,g1])
      simp[CO,Qh,this]
     simp -implicitDefEqProofs [g1,e,Bg]
    by_cases g2:h.exts[j].tag∈b.strips
    ·have hl:lossy b h.exts[j]=false:=by simp[lossy,g1,g2]
     have hk:=XH (p:=stays b) hjn (by simp[stays,g2])
     by_cases g3:b.lists=true
     ·simp -implicitDefEqProofs [g1,g2,g3]
      exact⟨k-1,by omega,j+1,by omega,by simpa using hst.trans hl,by simp[hw],by rw[hk],by rw[hk]⟩
     ·simp -implicitDefEqProofs [g1,g2,g3]
      exact⟨k-1,by omega,j+1,by omega,by simpa using hst.trans hl,by simp[hw],by rw[hk],by rw[hk]⟩
    have hk:=Uo (p:=stays b) hjn (by simp[stays,g2])
    have hkl:=KE (p:=stays b) hjn (by simp[stays,g2])
    by_cases g3:b.lists=true
    rotate_left
    ·have hl:lossy b h.exts[j]=false:=by simp[lossy,g1,g2,g3]
     simp -implicitDefEqProofs [g1,g2,g3,hjn,b1,b2]
     exact⟨k-1,by omega,j+1,by omega,by simpa using hst.trans hl,by simp[hw],by rw[hkl],by rw[←hk]⟩
    simp -implicitDefEqProofs [g1,g2,g3]
    refine Aa (hI _ _ _) ?_
    by_cases g4:WO h.exts[j].tag 1 3
    ·have hl:lossy b h.exts[j]=false:=by simp[lossy,g1,g2,g3,g4]
     simp -implicitDefEqProofs [g4,hjn,b1,b2]
     exact⟨k-1,by omega,j+1,by omega,by simpa using hst.trans hl,by simp[hw],by rw[hkl],by rw[←hk]⟩
    ·have e:CO b h=(Bg,false):=by
      have:=AaU (p:=lossy b) hjn (by simp[lossy,g1,g2,g3,g4])
      simp[CO,Qh,this]
     simp -implicitDefEqProofs [g4,e,Bg]
   ·have hje:j=h.exts.length:=by omega
    have ea:h.exts.any (lossy b)=false:=any_none (by omega) hp
    have ek:=X0 (p:=stays b) (l:=h.exts) (j:=j) (by omega)
    have e:CO b h=(⟨h.versions,kept (stays b) h.exts⟩,true):=by simp only[CO,h1,h2,Qh,ea,h3'];simp
    simp -implicitDefEqProofs [hjn,e,ek]
 ·have b0:h.versions.length*8≤1099511627776:=by omega
  simp -implicitDefEqProofs [h2,h3,b0]
  refine Af (fun k s=>∃j v8 o6 o7 o8 o9,j+k=h.exts.length∧(h.exts.take j).any (lossy b)=false∧s=⟨[.undef,.undef,.ptr 0 0,.ptr 1 0,.ptr 2 0,.undef,.ptr 5 0,I j,v8,.undef,.undef,.undef,.undef,.undef],[.var ((CW b).map (Be 1)),.var ((DJ h).map (Be 1)),.var [.nil 1,.nil 2],.dead,.arr 1 0 h.versions.length (ints h.versions),.var [.arr 4,.arr 10],o6,o7,o8,o9,.arr 2 0 (kept (stays b) (h.exts.take j)).length ((kept (stays b) (h.exts.take j)).flatMap Ce)]⟩) ?_ (h.exts.length) _ ⟨0,.undef,.free,.free,.free,.free,by simp,by simp,by simp[kept]⟩
  intro k s ⟨j,v8,o6,o7,o8,o9,hj,hp,hs⟩
  subst hs
  by_cases hjn:j<h.exts.length
  ·have hw:IntKind.i64.wrap ((j:Int)+1)=(j+1:Nat):=by rw[Ab (by omega) (by omega)];simp
   have hbd:=OV hx hjn
   have b1:h.exts[j].body.length*8≤1099511627776:=by omega
   have hkl:=Yh (p:=stays b) (l:=h.exts) (j:=j)
   have b2:((kept (stays b) (h.exts.take j)).length+1)*32≤1099511627776:=by omega
   have hst:=Apk (p:=lossy b) hjn
   rw[hp,Bool.false_or]at hst
   simp -implicitDefEqProofs [hjn]
   refine Aa (hH _ _ hb.2) ?_
   simp -implicitDefEqProofs
   refine Aa (hH _ _ hb.1) ?_
   by_cases g1:h.exts[j].tag∈b.drops
   ·have e:CO b h=(Bg,false):=by
     have:=AaU (p:=lossy b) hjn (by simp[lossy,g1])
     simp[CO,Qh,this]
    simp -implicitDefEqProofs [g1,e,Bg]
   by_cases g2:h.exts[j].tag∈b.strips
   ·have hl:lossy b h.exts[j]=false:=by simp[lossy,g1,g2]
    have hk:=XH (p:=stays b) hjn (by simp[stays,g2])
    by_cases g3:b.lists=true
    ·simp -implicitDefEqProofs [g1,g2,g3]
     exact⟨k-1,by omega,j+1,by omega,by simpa using hst.trans hl,by simp[hw],by rw[hk],by rw[hk]⟩
    ·simp -implicitDefEqProofs [g1,g2,g3]
     exact⟨k-1,by omega,j+1,by omega,by simpa using hst.trans hl,by simp[hw],by rw[hk],by rw[hk]⟩
   have hk:=Uo (p:=stays b) hjn (by simp[stays,g2])
   have hkl:=KE (p:=stays b) hjn (by simp[stays,g2])
   by_cases g3:b.lists=true
   rotate_left
   ·have hl:lossy b h.exts[j]=false:=by simp[lossy,g1,g2,g3]
    simp -implicitDefEqProofs [g1,g2,g3,hjn,b1,b2]
    exact⟨k-1,by omega,j+1,by omega,by simpa using hst.trans hl,by simp[hw],by rw[hkl],by rw[←hk]⟩
   simp -implicitDefEqProofs [g1,g2,g3]
   refine Aa (hI _ _ _) ?_
   by_cases g4:WO h.exts[j].tag 1 3
   ·have hl:lossy b h.exts[j]=false:=by simp[lossy,g1,g2,g3,g4]
    simp -implicitDefEqProofs [g4,hjn,b1,b2]
    exact⟨k-1,by omega,j+1,by omega,by simpa using hst.trans hl,by simp[hw],by rw[hkl],by rw[←hk]⟩
   ·have e:CO b h=(Bg,false):=by
     have:=AaU (p:=lossy b) hjn (by simp[lossy,g1,g2,g3,g4])
     simp[CO,Qh,this]
    simp -implicitDefEqProofs [g4,e,Bg]
  ·have hje:j=h.exts.length:=by omega
   have ea:h.exts.any (lossy b)=false:=any_none (by omega) hp
   have ek:=X0 (p:=stays b) (l:=h.exts) (j:=j) (by omega)
   have e:CO b h=(⟨h.versions,kept (stays b) h.exts⟩,true):=by simp only[CO,h1,h2,Qh,ea,h3];simp
   simp -implicitDefEqProofs [hjn,e,ek]
abbrev AbJ (R:Rel):Prop:=∀(t:Int) (b:H9),JG b→R [I t,.rptr 1 (CW b) 0] [] (B (stays b t)) []
theorem ABd (D:Dn) (hH:PN (D Bb)):AbJ (Body D RJ):=by
 intro t b hb
 simp -implicitDefEqProofs
 refine Aa (hH b.strips t hb.2) ?_
 simp -implicitDefEqProofs [stays]
abbrev AnD (R:Rel):Prop:=∀(x:Ext) (b:H9),JG b→R [arg (Ce x),.rptr 1 (CW b) 0] [] (B (lossy b x)) []
theorem AIq (D:Dn) (hH:PN (D Bb)) (hI:TF (D BP)):AnD (Body D Wi):=by
 intro x b hb
 simp -implicitDefEqProofs
 refine Aa (hH b.drops x.tag hb.1) ?_
 by_cases g1:x.tag∈b.drops
 ·simp -implicitDefEqProofs [g1,lossy]
 by_cases g3:b.lists=true
 rotate_left
 ·simp -implicitDefEqProofs [g1,g3,lossy]
 simp -implicitDefEqProofs [g1,g3]
 refine Aa (hH b.strips x.tag hb.2) ?_
 by_cases g2:x.tag∈b.strips
 ·simp -implicitDefEqProofs [g1,g2,g3,lossy]
 simp -implicitDefEqProofs [g2]
 refine Aa (hI _ _ _) ?_
 simp -implicitDefEqProofs [g1,g2,g3,lossy]
def AKG (xs:List Int):Int:=xs.foldl max (xs.headD 0)
abbrev AMr (R:Rel):Prop:=∀xs:List Int,0<xs.length→xs.length≤4194304→R [.sl 1 1 xs.length (ints xs)] [] (I (AKG xs)) []
abbrev ACy (R:Rel):Prop:=∀xs:List Int,xs.length≤4194304→R [.sl 1 1 xs.length (ints xs)] [] (.sl 0 1 xs.length (ints xs)) []
abbrev Awb (R:Rel):Prop:=∀(b:H9) (h:Hello),JG b→hB h→Ji b=true→Bt h.versions=true→R [arg (CW b),arg (DJ h)] [] (B (Qh b h)) []
theorem AgK:∀(xs:List Int) (a:Int),(∀x,x∈xs→a≤x)→(∀i,(h:i+1<xs.length)→xs[i]≤xs[i+1])→xs.foldl max a=(xs.getLast?.getD a)
 | [],a,_,_=>rfl
 | x::r,a,h1,h2=>by
  have hx:=h1 x (by simp)
  have hr:∀y,y∈r→x≤y:=by
   intro y hy
   obtain⟨n,hn,rfl⟩:=List.getElem_of_mem hy
   have key:∀m,(hm:m<r.length)→x≤r[m]:=by
    intro m
    induction m with
    | zero=>intro hm;have:=h2 0 (by simp;omega);simpa using this
    | succ m ih=>
     intro hm
     have h3:=ih (by omega)
     have:=h2 (m+1) (by simp;omega)
     simp only[List.getElem_cons_succ]at this
     omega
   exact key n hn
  have ih:=AgK r x hr (fun i h=>by have:=h2 (i+1) (by simp;omega);simpa using this)
  simp only[List.foldl_cons]
  rw[show max a x=x by omega,ih]
  cases r with
  | nil=>rfl
  | cons y s=>simp[List.getLast?_cons_cons,List.getLast?_cons]
theorem AwY {xs:List Int} (h:Bt xs=true) {i:Nat} (hi:i+1<xs.length):xs[i]<xs[i+1]:=by
 unfold Bt NJ at h
 simp only[Bool.and_eq_true,List.all_eq_true,List.mem_range]at h
 have:=(h.1 (i+1) hi).2
 rw[AaF hi,show i+1-1=i by omega,AaF (by omega)]at this
 simpa using this
theorem AFF {xs:List Int} (h:Bt xs=true):AKG xs=ACj xs:=by
 cases xs with
 | nil=>rfl
 | cons x r=>
  unfold AKG ACj
  simp only[List.headD_cons,List.foldl_cons]
  rw[show max x x=x by omega,AgK r x ?_ ?_]
  ·cases r with
   | nil=>rfl
   | cons y s=>simp[List.getLastD_eq_getLast?,List.getLast?_cons_cons,List.getLast?_cons]
  ·intro y hy
   obtain⟨n,hn,rfl⟩:=List.getElem_of_mem hy
   induction n with
   | zero=>have:=AwY h (i:=0) (by simp;omega);simp at this;omega
   | succ m ih=>
    have h3:=ih (by omega) (List.getElem_mem _)
    have:=AwY h (i:=m+1) (by simp;omega)
    simp only[List.getElem_cons_succ]at this
    omega
  ·intro i hi
   have:=AwY h (i:=i+1) (by simp;omega)
   simp only[List.getElem_cons_succ]at this
   omega
theorem AhC {b:H9} {r:List V} (h:PU r):PU (.rptr 1 (CW b) 0::r):=AdL (fun H=>by simp) (fun H=>by simp) h
theorem AKw (D:Dn) (hM:AMr (D YR)) (h1:AnD (D Wz)) (hC:Md D (D Kz)):Awb (Body D Aan):=by
 intro b h hb hh hbox hver
 obtain⟨hv,hx⟩:=hh
 have hll:=hx.1
 have hpos:=Aas hver
 have hlim:0≤b.limit:=by unfold Ji at hbox;simp only[Bool.and_eq_true,decide_eq_true_eq]at hbox;exact hbox.1.1.1.1.1
 by_cases h0:b.limit=0
 ·obtain⟨lim,dr,st,li⟩:=b
  dsimp only at h0
  subst h0
  simp -implicitDefEqProofs
  refine Aa (hC h.exts Wz _ (lossy ⟨0,dr,st,li⟩) (by unfold maxLen;omega) (AhC (b:=⟨0,dr,st,li⟩) I7) (fun j hj=>h1 h.exts[j] ⟨0,dr,st,li⟩ hb)) ?_
  simp -implicitDefEqProofs [Qh]
 ·have hn:0<b.limit:=by omega
  simp -implicitDefEqProofs [h0]
  refine Aa (hM h.versions hpos hv) ?_
  rw[AFF hver]
  by_cases h4:b.limit<ACj h.versions
  ·simp -implicitDefEqProofs [h0,h4,Qh,hn]
  ·simp -implicitDefEqProofs [h0,h4]
   refine Aa (hC h.exts Wz _ (lossy b) (by unfold maxLen;omega) (AhC I7) (fun j hj=>h1 h.exts[j] b hb)) ?_
   simp -implicitDefEqProofs [Qh,hn,h4]
theorem ABB (D:Dn) (hX:Tx (D Aav)) (hE:Fe (D Jq)) (hL:Awb (D Azg)) (hC:ACy (D Xl)) (h1':AbJ (D ZK)) (hK:NS D (D Lh)):Rx (Body D Wp):=by
 intro b h hb hh
 simp -implicitDefEqProofs
 refine Aa (hX b hb) ?_
 by_cases h1:Ji b=true
 rotate_left
 ·simp -implicitDefEqProofs [h1,CO,Bg]
 simp -implicitDefEqProofs [h1]
 refine Aa (hE h hh) ?_
 by_cases h2:Dw h=true
 rotate_left
 ·simp -implicitDefEqProofs [h2,CO,Bg]
 have hver:Bt h.versions=true:=by unfold Dw at h2;simp only[Bool.and_eq_true]at h2;exact h2.1
 simp -implicitDefEqProofs [h2]
 refine Aa (hL b h hb hh h1 hver) ?_
 by_cases h3:Qh b h=true
 ·simp -implicitDefEqProofs [h3,CO,Bg]
 have e:CO b h=(⟨h.versions,kept (stays b) h.exts⟩,true):=by simp[CO,h1,h2,h3]
 simp -implicitDefEqProofs [h3]
 refine Aa (hC h.versions hh.1) ?_
 simp -implicitDefEqProofs
 refine Aa (hK h.exts ZK _ (stays b) hh.2 (AhC I7) (Adb Us) (fun t=>h1' t b hb)) ?_
 simp -implicitDefEqProofs [e]
end Go.Eng.T
namespace Go.Eng.T
set_option maxRecDepth 20000
def Kg:List H9→Hello→Hello×Bool
 | [],h=>(h,true)
 | b::r,h=>if(CO b h).2=true then Kg r (CO b h).1 else(Bg,false)
theorem Akm {path:List H9} {j:Nat} {x:Hello} (h:j<path.length):Kg (path.drop j) x=if(CO path[j] x).2=true then Kg (path.drop (j+1)) (CO path[j] x).1 else(Bg,false):=by
 rw[List.drop_eq_getElem_cons h];rfl
theorem Arl {path:List H9} {j:Nat} {x:Hello} (h:path.length≤j):Kg (path.drop j) x=(x,true):=by rw[List.drop_eq_nil_of_le h];rfl
def Bw (path:List H9) (h:Hello):Hello×Bool:=if decide (path.length≤4)&&Dw h then Kg path h else(Bg,false)
theorem Apj:hB Bg:=⟨by simp[Bg],Agb⟩
theorem AvF {b:H9} {h:Hello} (hh:hB h):hB (CO b h).1:=by
 unfold CO
 split
 ·exact⟨hh.1,XG hh.2 _⟩
 ·exact Apj
theorem ABZ {b:H9} {h:Hello} (hk:(CO b h).2=false):(CO b h).1=Bg:=by
 unfold CO at *
 split at hk
 ·cases hk
 ·rename_i hc;rw[if_neg hc]
abbrev Hy (R:Rel):Prop:=∀(path:List H9) (h:Hello),lnS JG path→hB h→R [.sl 1 4 path.length (path.flatMap CW),arg (DJ h)] [] (.tup [.agg (DJ (Bw path h).1),B (Bw path h).2]) []
theorem AxI (D:Dn) (hE:Fe (D Iz)) (hC:MS (D Aai)) (hP:Rx (D ArU)):Hy (Body D U7):=by
 intro path h hb hh
 have hl:=hb.1
 unfold maxLen at hl
 by_cases h1:path.length≤4
 rotate_left
 ·have h1':(4:Int)<path.length:=by omega
  simp -implicitDefEqProofs [h1',h1,Bw,Bg]
 have h1':¬(4:Int)<path.length:=by omega
 simp -implicitDefEqProofs [h1']
 refine Aa (hE h hh) ?_
 by_cases h2:Dw h=true
 rotate_left
 ·simp -implicitDefEqProofs [h2,h1,Bw,Bg]
 have e:Bw path h=Kg path h:=by simp[Bw,h1,h2]
 rw[e]
 simp -implicitDefEqProofs [h2]
 refine Aa (hC h hh) ?_
 simp -implicitDefEqProofs
 refine Af (fun k s=>∃j x o5 o6 o7,j+k=path.length∧hB x∧Kg path h=Kg (path.drop j) x∧s=⟨[.sl 1 4 path.length (path.flatMap CW),.undef,.undef,.ptr 1 0,.undef,.ptr 4 0,I j,.undef,.undef,.undef,.undef,.undef],[.var ((DJ h).map (Be 1)),.var [.nil 1,.nil 2],.free,.free,.var [.arr 8,.arr 9],o5,o6,o7,.arr 1 0 x.versions.length (ints x.versions),.arr 2 0 x.exts.length (x.exts.flatMap Ce)]⟩) ?_ (path.length) _ ⟨0,h,.free,.free,.free,by simp,hh,by simp,by simp⟩
 intro k s ⟨j,x,o5,o6,o7,hj,hx,hg,hs⟩
 subst hs
 by_cases hjn:j<path.length
 ·have hw:IntKind.i64.wrap ((j:Int)+1)=(j+1:Nat):=by rw[Ab (by omega) (by omega)];simp
  rw[Akm hjn]at hg
  simp -implicitDefEqProofs [hjn]
  refine Aa (hP path[j] x (hb.2 j hjn) hx) ?_
  have hx':=AvF (b:=path[j]) hx
  generalize CO path[j] x=r at hg hx'
  by_cases hk:r.2=true
  ·rw[if_pos hk]at hg
   simp -implicitDefEqProofs [hk]
   refine⟨k-1,by omega,j+1,by omega,r.1,hx',?_⟩
   simp[hw,hg]
  ·rw[if_neg hk]at hg
   simp -implicitDefEqProofs [hk,hg,Bg]
 ·rw[Arl (by omega)]at hg
  simp -implicitDefEqProofs [hjn,hg]
theorem AzK (D:Dn) (hE:Fe (D Jq)) (hC:MS (D ZM)) (hP:Rx (D AtN)):Hy (Body D UC):=by
 intro path h hb hh
 have hl:=hb.1
 unfold maxLen at hl
 simp -implicitDefEqProofs
 refine Aa (hE h hh) ?_
 by_cases h2:Dw h=true
 rotate_left
 ·simp -implicitDefEqProofs [h2,Bw,Bg]
 by_cases h1:path.length≤4
 rotate_left
 ·have h1':(4:Int)<path.length:=by omega
  simp -implicitDefEqProofs [h2,h1',h1,Bw,Bg]
 have h1':¬(4:Int)<path.length:=by omega
 have e:Bw path h=Kg path h:=by simp[Bw,h1,h2]
 rw[e]
 simp -implicitDefEqProofs [h2,h1']
 refine Aa (hC h hh) ?_
 simp -implicitDefEqProofs
 refine Af (fun k s=>∃j x ok o5 o6,j+k=path.length∧hB x∧Kg path h=(if ok=true then Kg (path.drop j) x else(Bg,false))∧(ok=false→x=Bg)∧s=⟨[.sl 1 4 path.length (path.flatMap CW),.undef,.undef,.ptr 1 0,.undef,.ptr 4 0,B ok,I j,.undef,.undef],[.var ((DJ h).map (Be 1)),.var [.nil 1,.nil 2],.free,.free,.var [.arr 7,.arr 8],o5,o6,.arr 1 0 x.versions.length (ints x.versions),.arr 2 0 x.exts.length (x.exts.flatMap Ce)]⟩) ?_ (path.length) _ ⟨0,h,true,.free,.free,by simp,hh,by simp,by simp,by simp⟩
 intro k s ⟨j,x,ok,o5,o6,hj,hx,hg,hno,hs⟩
 subst hs
 by_cases hok:ok=true
 rotate_left
 ·rw[if_neg hok]at hg
  have hok':ok=false:=by simpa using hok
  have hno':=hno hok'
  subst hok'
  subst hno'
  by_cases hjn:j<path.length
  ·simp -implicitDefEqProofs [hjn,hg,Bg]
  ·simp -implicitDefEqProofs [hjn,hg,Bg]
 rw[if_pos hok]at hg
 subst hok
 by_cases hjn:j<path.length
 ·have hw:IntKind.i64.wrap ((j:Int)+1)=(j+1:Nat):=by rw[Ab (by omega) (by omega)];simp
  rw[Akm hjn]at hg
  simp -implicitDefEqProofs [hjn]
  refine Aa (hP path[j] x (hb.2 j hjn) hx) ?_
  have hx':=AvF (b:=path[j]) hx
  have hno':=ABZ (b:=path[j]) (h:=x)
  generalize CO path[j] x=r at hg hx' hno'
  simp -implicitDefEqProofs
  refine⟨k-1,by omega,j+1,by omega,r.1,hx',?_⟩
  simp[hw,hg,hno']
  by_cases hr:r.2=true
  ·right;exact⟨fun h=>by simp[hr]at h,hr⟩
  ·left;exact⟨fun h=>absurd h hr,hno' (by simpa using hr),by simpa using hr⟩
 ·rw[Arl (by omega)]at hg
  simp -implicitDefEqProofs [hjn,hg]
def APJ (b:H9):Bool:=decide (b.limit=0)&&(decide (b.drops.length=0)&&(decide (b.strips.length=0)&& !b.lists))
def AQa (path:List H9):Bool:=decide (path.length≤4)&&path.all APJ
theorem Af1 {α:Type} {p:α→Bool} {xs:List α} {j:Nat} (h:j<xs.length) (hp:p xs[j]=false):xs.all p=false:=List.all_eq_false.2 ⟨_,List.getElem_mem h,by simp[hp]⟩
theorem Aod {α:Type} {p:α→Bool} {xs:List α} {j:Nat} (h:j<xs.length):(xs.take (j+1)).all p=((xs.take j).all p&&p xs[j]):=by
 have e:xs.take (j+1)=xs.take j++ [xs[j]]:=by simp
 rw[e,List.all_append];simp
theorem AvT {α:Type} {p:α→Bool} {xs:List α} {j:Nat} (h:xs.length≤j):(xs.take j).all p=xs.all p:=by rw[List.take_of_length_le h]
abbrev IA (R:Rel):Prop:=∀xs:List Int,xs.length≤4194304→R [.sl 1 1 xs.length (ints xs)] [] (.agg (DJ ⟨xs,[]⟩)) []
theorem AsP (D:Dn):IA (Body D Qt):=by
 intro xs h
 have h1:xs.length*8≤1099511627776:=by omega
 simp -implicitDefEqProofs [h1]
theorem Ate (D:Dn):IA (Body D Qu):=by
 intro xs h
 have h1:xs.length*8≤1099511627776:=by omega
 simp -implicitDefEqProofs [h1]
def isOpen (path:List H9) (vs:List Int):Bool:=Bt vs&&(Bw path ⟨vs.take 1,[]⟩).2
abbrev I9 (R:Rel):Prop:=∀(path:List H9) (vs:List Int),lnS JG path→vs.length≤4194304→R [.sl 1 4 path.length (path.flatMap CW),.sl 1 1 vs.length (ints vs)] [] (B (isOpen path vs)) []
theorem As9 (D:Dn) (hA:Co (D F8)) (hH:IA (D XD)) (hP:Hy (D PK)):I9 (Body D QH):=by
 intro path vs hb hv
 simp -implicitDefEqProofs
 refine Aa (hA vs (by unfold maxLen;omega)) ?_
 by_cases h1:Bt vs=true
 rotate_left
 ·simp -implicitDefEqProofs [h1,isOpen]
 have hpos:=Aas h1
 have h1l:(1:Int)≤vs.length:=by omega
 have h1n:1≤vs.length:=by omega
 have hlen:(vs.take 1).length=1:=by simp;omega
 have hmin:min 1 vs.length=1:=by omega
 simp -implicitDefEqProofs [h1,h1l,h1n]
 have hh:=hH (vs.take 1) (by omega)
 rw[hlen]at hh
 refine Aa (hh) ?_
 simp -implicitDefEqProofs [hmin]
 have hp:=hP path ⟨vs.take 1,[]⟩ hb ⟨by simp;omega,Agb⟩
 simp -implicitDefEqProofs [hmin]at hp
 refine Aa (hp) ?_
 simp -implicitDefEqProofs [isOpen,h1]
theorem AtV (D:Dn) (hA:Co (D Gb)) (hH:IA (D XY)) (hP:Hy (D Pe)):I9 (Body D Qc):=by
 intro path vs hb hv
 simp -implicitDefEqProofs
 refine Aa (hA vs (by unfold maxLen;omega)) ?_
 by_cases h1:Bt vs=true
 rotate_left
 ·simp -implicitDefEqProofs [h1,isOpen]
 have hpos:=Aas h1
 have h1l:(1:Int)≤vs.length:=by omega
 have h1n:1≤vs.length:=by omega
 have hlen:(vs.take 1).length=1:=by simp;omega
 have hmin:min 1 vs.length=1:=by omega
 simp -implicitDefEqProofs [h1,h1l,h1n]
 have hh:=hH (vs.take 1) (by omega)
 rw[hlen]at hh
 refine Aa (hh) ?_
 simp -implicitDefEqProofs [hmin]
 have hp:=hP path ⟨vs.take 1,[]⟩ hb ⟨by simp;omega,Agb⟩
 simp -implicitDefEqProofs [hmin]at hp
 refine Aa (hp) ?_
 simp -implicitDefEqProofs [isOpen,h1]
def MK (path:List H9) (v:Int):Bool:= !(Bw path ⟨[v],[]⟩).2
def BS (path:List H9) (vs:List Int):List Int:=if Bt vs=true then vs.filter (MK path)else []
abbrev Il (R:Rel):Prop:=∀(path:List H9) (vs:List Int),lnS JG path→vs.length≤4194304→R [.sl 1 4 path.length (path.flatMap CW),.sl 1 1 vs.length (ints vs)] [] (.sl 0 1 (BS path vs).length (ints (BS path vs))) []
theorem ABW (path:List H9) (v:Int):isOpen path [v]= !MK path v:=by
 unfold isOpen MK
 by_cases h:Bt [v]=true
 ·simp[h]
 ·have:Bw path ⟨[v],[]⟩=(Bg,false):=by
   unfold Bw Dw
   have h':Bt [v]=false:=by simpa using h
   simp[h']
  simp[h,this]
theorem Ame (D:Dn) (hA:Co (D F8)) (hO:I9 (D XO)):Il (Body D NC):=by
 intro path vs hb hv
 by_cases h1:Bt vs=true
 rotate_left
 ·have e:BS path vs=[]:=by unfold BS;rw[if_neg h1]
  rw[e]
  simp -implicitDefEqProofs
  refine Af (fun k s=>s=⟨[.sl 1 4 path.length (path.flatMap CW),.sl 1 1 vs.length (ints vs),.undef,.arr 3,I 0,.undef,.undef],[.free,.free,.free,.arr 1 0 0 (ints [])]⟩) ?_ 0 _ (by simp)
  intro k s hs
  subst hs
  by_cases h0:0<vs.length
  ·simp -implicitDefEqProofs [h0]
   refine Aa (hA vs (by unfold maxLen;omega)) ?_
   simp -implicitDefEqProofs [h1]
  ·simp -implicitDefEqProofs [h0]
 have e:BS path vs=vs.filter (MK path):=by unfold BS;rw[if_pos h1]
 rw[e]
 simp -implicitDefEqProofs
 refine Af (fun k s=>∃j o1 o2,j+k=vs.length∧s=⟨[.sl 1 4 path.length (path.flatMap CW),.sl 1 1 vs.length (ints vs),.undef,.arr 3,I j,.undef,.undef],[.free,o1,o2,.arr 1 0 ((vs.take j).filter (MK path)).length (ints ((vs.take j).filter (MK path)))]⟩) ?_ (vs.length) _ ⟨0,.free,.free,by simp,by simp⟩
 intro k s ⟨j,o1,o2,hj,hs⟩
 subst hs
 by_cases hjn:j<vs.length
 ·have hw:IntKind.i64.wrap ((j:Int)+1)=(j+1:Nat):=by rw[Ab (by omega) (by omega)];simp
  have hst:=KD (p:=MK path) hjn
  have hfl:=M5 (p:=MK path) (xs:=vs) (j:=j)
  have hb1:(((vs.take j).filter (MK path)).length+1)*8≤1099511627776:=by omega
  have hw1:IntKind.i64.wrap ((j:Int)+1)=(j:Int)+1:=Ab (by omega) (by omega)
  have hj1:j+1≤vs.length:=by omega
  have hj2:(j:Int)+1≤vs.length:=by omega
  have hdt:(vs.drop j).take 1=[vs[j]]:=by rw[List.drop_eq_getElem_cons hjn];rfl
  simp -implicitDefEqProofs [hjn]
  refine Aa (hA vs (by unfold maxLen;omega)) ?_
  have hjj:(j:Int)≤(j:Int)+1:=by omega
  have h11:j+1-j=1:=by omega
  simp -implicitDefEqProofs [h1,hw1,hj1,hj2,hdt,hjn,hjj,h11]
  refine Aa (hO path [vs[j]] hb (by simp)) ?_
  rw[ABW]
  by_cases h2:MK path vs[j]=true
  ·rw[if_pos h2]at hst
   simp -implicitDefEqProofs [h2,hjn,hb1]
   exact⟨k-1,by omega,j+1,by omega,by simp[hw],by rw[hst];simp,by rw[hst]⟩
  ·rw[if_neg h2,List.append_nil]at hst
   simp -implicitDefEqProofs [h2]
   exact⟨k-1,by omega,j+1,by omega,by simp[hw],by rw[hst],by rw[hst]⟩
 ·have e2:=K9 (p:=MK path) (xs:=vs) (j:=j) (by omega)
  simp -implicitDefEqProofs [hjn,e2]
theorem AmT (D:Dn) (hA:Co (D Gb)) (hH:IA (D XY)) (hP:Hy (D Pe)):Il (Body D Nt):=by
 intro path vs hb hv
 simp -implicitDefEqProofs
 refine Aa (hA vs (by unfold maxLen;omega)) ?_
 by_cases h1:Bt vs=true
 rotate_left
 ·have e:BS path vs=[]:=by unfold BS;rw[if_neg h1]
  rw[e]
  simp -implicitDefEqProofs [h1]
 have e:BS path vs=vs.filter (MK path):=by unfold BS;rw[if_pos h1]
 rw[e]
 simp -implicitDefEqProofs [h1]
 refine Af (fun k s=>∃j v4 o1 o2 o3 o4 o5 o6 o7 o8,j+k=vs.length∧s=⟨[.sl 1 4 path.length (path.flatMap CW),.undef,.undef,.arr 9,v4,.undef,.undef,.sl 1 1 vs.length (ints vs),I vs.length,I j,.undef,.undef],[.free,o1,o2,o3,o4,o5,o6,o7,o8,.arr 1 0 ((vs.take j).filter (MK path)).length (ints ((vs.take j).filter (MK path)))]⟩) ?_ (vs.length) _ ⟨0,.undef,.free,.free,.free,.free,.free,.free,.free,.free,by simp,by simp⟩
 intro k s ⟨j,v4,o1,o2,o3,o4,o5,o6,o7,o8,hj,hs⟩
 subst hs
 by_cases hjn:j<vs.length
 ·have hw:IntKind.i64.wrap ((j:Int)+1)=(j+1:Nat):=by rw[Ab (by omega) (by omega)];simp
  have hst:=KD (p:=MK path) hjn
  have hfl:=M5 (p:=MK path) (xs:=vs) (j:=j)
  have hb1:(((vs.take j).filter (MK path)).length+1)*8≤1099511627776:=by omega
  simp -implicitDefEqProofs [hjn]
  refine Aa (hH [vs[j]] (by simp)) ?_
  simp -implicitDefEqProofs
  refine Aa (hP path ⟨[vs[j]],[]⟩ hb ⟨by simp,Agb⟩) ?_
  have hq:MK path vs[j]= !(Bw path ⟨[vs[j]],[]⟩).2:=rfl
  generalize Bw path ⟨[vs[j]],[]⟩=r at hq
  by_cases h2:r.2=true
  ·have h3:¬MK path vs[j]=true:=by rw[hq,h2];simp
   rw[if_neg h3,List.append_nil]at hst
   simp -implicitDefEqProofs [h2]
   exact⟨k-1,by omega,j+1,by omega,by simp[hw],by rw[hst],by rw[hst]⟩
  ·have h3:MK path vs[j]=true:=by rw[hq];simpa using h2
   rw[if_pos h3]at hst
   simp -implicitDefEqProofs [h2,hb1]
   exact⟨k-1,by omega,j+1,by omega,by simp[hw],by rw[hst];simp,by rw[hst]⟩
 ·have e2:=K9 (p:=MK path) (xs:=vs) (j:=j) (by omega)
  simp -implicitDefEqProofs [hjn,e2]
end Go.Eng.T
namespace Go.Eng.T
set_option maxRecDepth 20000
set_option maxHeartbeats 1000000
def Acb (l:List Int):Int:=l.foldl (fun a v=>if v>a then v else a) 0
theorem ADI {x:Int}:∀(l:List Int) (a:Int),(∀y,y∈l→y<x)→a<x→l.foldl (fun a v=>if v>a then v else a) a<x
 | [],a,_,h=>h
 | y::l,a,hl,h=>by
  simp only[List.foldl_cons]
  refine ADI l _ (fun z hz=>hl z (by simp[hz])) ?_
  split
  ·exact hl y (by simp)
  ·exact h
theorem AoQ {xs:List Int}:∀(n:Nat),NJ xs n=true→∀i j,i<j→j<n→xs.getD i 0<xs.getD j 0
 | 0,_,i,j,_,h=>by omega
 | n+1,hr,i,j,hij,hj=>by
  rw[V6]at hr
  simp only[Bool.and_eq_true,Bool.or_eq_true,decide_eq_true_eq]at hr
  obtain⟨h1,_,h3⟩:=hr
  by_cases hjn:j<n
  ·exact AoQ n h1 i j hij hjn
  ·obtain rfl:j=n:=by omega
   have h4:xs.getD (j-1) 0<xs.getD j 0:=by
    rcases h3 with h3 | h3
    ·omega
    ·exact h3
   by_cases he:i=j-1
   ·rw[he];exact h4
   ·have:=AoQ j h1 i (j-1) (by omega) (by omega)
    omega
theorem AHU {xs:List Int} {n i:Nat} (h:NJ xs n=true) (hi:i<n):InV (xs.getD i 0) 1 9:=by
 unfold NJ at h
 have:=List.all_eq_true.1 h i (List.mem_range.2 hi)
 simp at this
 exact⟨this.1.1,this.1.2⟩
theorem AjX {xs:List Int} (h:Bt xs=true):xs.Pairwise (· < ·):=by
 unfold Bt at h
 simp only[Bool.and_eq_true,decide_eq_true_eq]at h
 rw[List.pairwise_iff_getElem]
 intro i j hi hj hij
 have:=AoQ _ h.1 i j hij hj
 rwa [AaF hi,AaF hj]at this
theorem AD1 {xs:List Int} (h:Bt xs=true):∀x,x∈xs→InV x 1 9:=by
 unfold Bt at h
 simp only[Bool.and_eq_true,decide_eq_true_eq]at h
 intro x hx
 obtain⟨i,hi,rfl⟩:=List.getElem_of_mem hx
 have:=AHU h.1 hi
 rwa [AaF hi]at this
theorem AEz {l:List Int} (hp:l.Pairwise (· < ·)) (h0:∀x,x∈l→0<x) (hn:0<l.length):Acb l=l[l.length-1]:=by
 obtain⟨l',x,rfl⟩:∃l' x,l=l'++ [x]:=by
  rcases List.eq_nil_or_concat l with h | ⟨l',x,h⟩
  ·rw[h]at hn;simp at hn
  ·exact⟨l',x,by simpa using h⟩
 rw[List.pairwise_append]at hp
 have h1:Acb l' <x:=ADI l' 0 (fun y hy=>hp.2.2 y hy x (by simp)) (h0 x (by simp))
 have h2:Acb (l'++ [x])=if x>Acb l' then x else Acb l':=by unfold Acb;rw[List.foldl_append];rfl
 rw[h2,if_pos h1]
 simp
def BZ (a b:List Int):Int:=if Bt a=true∧Bt b=true then Acb (common a b)else 0
abbrev EU (R:Rel):Prop:=∀a b:List Int,a.length≤4194304→b.length≤4194304→R [.sl 1 1 a.length (ints a),.sl 1 1 b.length (ints b)] [] (I (BZ a b)) []
theorem ml {n:Nat} (h:n≤4194304):n≤maxLen:=by unfold maxLen;omega
theorem ArQ (D:Dn) (hC:Oc (D AnS)) (hA:Co (D F8)):EU (Body D PY):=by
 intro a b ha hb
 have hcl:(common a b).length≤4194304:=Nat.le_trans (List.length_filter_le _ _) ha
 simp -implicitDefEqProofs
 refine Aa (hC a b ha (ml hb)) ?_
 simp -implicitDefEqProofs
 refine Aa (hA a (ml ha)) ?_
 by_cases h1:Bt a=true
 rotate_left
 ·simp -implicitDefEqProofs [h1,BZ]
 simp -implicitDefEqProofs [h1]
 refine Aa (hA b (ml hb)) ?_
 by_cases h2:Bt b=true
 rotate_left
 ·simp -implicitDefEqProofs [h2,BZ]
 have e:BZ a b=Acb (common a b):=by unfold BZ;rw[if_pos ⟨h1,h2⟩]
 rw[e]
 by_cases h3:common a b=[]
 ·simp -implicitDefEqProofs [h2,h3,Acb]
 have h4:0<(common a b).length:=List.length_pos_iff.2 h3
 have h5:=AEz (l:=common a b) ((AjX h1).filter _) (fun x hx=>by have:=AD1 h1 x (List.mem_filter.1 hx).1;omega) h4
 rw[h5]
 generalize common a b=l at h3 h4 hcl
 have hw:IntKind.i64.wrap ((l.length:Int)-1)=((l.length-1:Nat):Int):=by rw[Ab (by omega) (by omega)];omega
 have h6:l.length-1<l.length:=by omega
 simp -implicitDefEqProofs [h2,h3,hw,h6,h4]
theorem Asw (D:Dn) (hC:Oc (D Aqw)) (hA:Co (D Gb)):EU (Body D Qg):=by
 intro a b ha hb
 have hcl:(common a b).length≤4194304:=Nat.le_trans (List.length_filter_le _ _) ha
 simp -implicitDefEqProofs
 refine Aa (hA a (ml ha)) ?_
 by_cases h1:Bt a=true
 rotate_left
 ·simp -implicitDefEqProofs [h1,BZ]
 simp -implicitDefEqProofs [h1]
 refine Aa (hA b (ml hb)) ?_
 by_cases h2:Bt b=true
 rotate_left
 ·simp -implicitDefEqProofs [h2,BZ]
 have e:BZ a b=Acb (common a b):=by unfold BZ;rw[if_pos ⟨h1,h2⟩]
 rw[e]
 simp -implicitDefEqProofs [h2]
 refine Aa (hC a b ha (ml hb)) ?_
 generalize common a b=l at hcl
 simp -implicitDefEqProofs
 refine Af (fun k s=>∃j,j+k=l.length∧s=⟨[.undef,.undef,.undef,.sc (.int .i64 (Acb (l.take j))),.undef,.undef,.arr 0,.sc (.int .i64 l.length),.sc (.int .i64 j),.undef],[.arr 1 0 l.length (ints l)]⟩) ?_ l.length _ ⟨0,by simp,by simp[Acb]⟩
 intro k s ⟨j,hj,hs⟩
 subst hs
 by_cases hjn:j<l.length
 ·have hw:IntKind.i64.wrap ((j:Int)+1)=(j+1:Nat):=by rw[Ab (by omega) (by omega)];simp
  have hst:Acb (l.take (j+1))=if l[j]>Acb (l.take j)then l[j]else Acb (l.take j):=by
   have e:l.take (j+1)=l.take j++ [l[j]]:=by simp
   unfold Acb
   rw[e,List.foldl_append];rfl
  simp -implicitDefEqProofs [hjn]
  exact⟨k-1,by omega,j+1,by omega,by rw[hst],by simp[hw]⟩
 ·have hx:l.take j=l:=List.take_of_length_le (by omega)
  simp -implicitDefEqProofs [hjn,hx]
end Go.Eng.T
namespace Go.Eng.T
set_option maxRecDepth 20000
def P7 {α:Type} (p:α→Bool):List α→Nat→List Int
 | [],_=> []
 | x::r,i=>if p x then(i:Int)::P7 p r (i+1)else P7 p r (i+1)
theorem Aky {α:Type} {p:α→Bool} (b:List α):∀(a:List α) (i:Nat),P7 p (a++b) i=P7 p a i++P7 p b (i+a.length)
 | [],i=>by simp[P7]
 | x::r,i=>by
  have:=Aky (p:=p) b r (i+1)
  simp only[List.cons_append,P7,this,List.length_cons]
  rw[show i+1+r.length=i+(r.length+1)by omega]
  by_cases h:p x=true<;>simp[h]
theorem At0 {α:Type} {p:α→Bool} {xs:List α} {j:Nat} (h:j<xs.length):P7 p (xs.take (j+1)) 0=P7 p (xs.take j) 0++(if p xs[j]then [(j:Int)]else []):=by
 have e:xs.take (j+1)=xs.take j++ [xs[j]]:=by simp
 rw[e,Aky]
 have hl:(xs.take j).length=j:=by simp;omega
 by_cases hp:p xs[j]=true<;>simp[P7,hp,hl]
theorem Ay6 {α:Type} {p:α→Bool} {xs:List α} {j:Nat} (h:xs.length≤j):P7 p (xs.take j) 0=P7 p xs 0:=by rw[List.take_of_length_le h]
theorem AoP {α:Type} {p:α→Bool}:∀(xs:List α) (i:Nat),(P7 p xs i).length≤xs.length
 | [],_=>by simp[P7]
 | x::r,i=>by
  have:=AoP (p:=p) r (i+1)
  by_cases h:p x=true
  ·simp[P7,h];omega
  ·simp[P7,h];omega
theorem ACB {w:World} (h:Ai w≤4194304) {j:Nat} (hj:j<w.ends.length):w.ends[j].versions.length≤maxLen:=by
 have:=size_at (f:=Ad) hj
 have e:Ad w.ends[j]=w.ends[j].versions.length+w.ends[j].tags.length+AP BD w.ends[j].path:=rfl
 unfold Ai at h
 unfold maxLen;omega
end Go.Eng.T
namespace Go.Eng.T
set_option maxRecDepth 20000
set_option maxHeartbeats 1000000
def LU (xs:List (List Int)):List V:=xs.map fun l=> .sl 0 1 l.length (ints l)
@[simp high] theorem ANu (xs:List (List Int)):(LU xs).length=xs.length:=by simp[LU]
@[simp] theorem ANh:LU []=[]:=rfl
@[simp] theorem ANJ (xs:List (List Int)):(LU xs).map (Be 0)=LU xs:=by simp[LU,Function.comp_def,Be]
@[simp high] theorem ANT {xs:List (List Int)} {j:Nat} (h:j<xs.length):(LU xs)[j]? =some (V.sl 0 1 xs[j].length (ints xs[j])):=by simp[LU,h]
theorem ABk (xs:List (List Int)) (l:List Int) {n:Nat} (h:n=l.length):LU xs++ [.sl 0 1 n (ints l)]=LU (xs++ [l]):=by subst h;simp[LU]
def I4 (xs:List (List Int)):Nat:=AP List.length xs
theorem V8 {xs:List (List Int)} {j:Nat} (h:j<xs.length):xs[j].length≤I4 xs:=size_at (f:=List.length) h
theorem JL {xs:List (List Int)}:xs.length≤I4 xs:=FL
def Ka (w:World):List (List Int):=w.ends.map (·.versions)
abbrev Rs (R:Rel):Prop:=∀w:World,Ai w≤4194304→R [arg (Cc w)] [] (.sl 0 1 (Ka w).length (LU (Ka w))) []
theorem Aro {xs:List Az} {j:Nat} (h:j<xs.length):LU ((xs.map (·.versions)).take j)++ [.sl 0 1 xs[j].versions.length (ints xs[j].versions)]=LU ((xs.map (·.versions)).take (j+1)):=by
 have h':j<(xs.map (·.versions)).length:=by simpa using h
 have e:(xs.map (·.versions)).take (j+1)=(xs.map (·.versions)).take j++ [xs[j].versions]:=by
  have:=List.take_append_getElem h'
  rw[←this];simp
 rw[e,ABk _ _ rfl]
theorem ABG (D:Dn):Rs (Body D Wt):=by
 intro w h
 have hl:=DU h
 have hres:Ka w=w.ends.map (·.versions):=rfl
 rw[hres]
 simp -implicitDefEqProofs
 refine Af (fun k s=>∃j o2 o3 o4 o5,j+k=w.ends.length∧s=⟨[.undef,.ptr 0 0,.undef,.arr 6,.sc (.int .i64 j),.undef],[.var ((Cc w).map (Be 1)),.free,o2,o3,o4,o5,.arr 1 0 j (LU ((w.ends.take j).map (·.versions)))]⟩) ?_ w.ends.length _ ⟨0,.free,.free,.free,.free,by simp,by simp⟩
 intro k s ⟨j,o2,o3,o4,o5,hj,hs⟩
 subst hs
 by_cases hjn:j<w.ends.length
 ·have hw:IntKind.i64.wrap ((j:Int)+1)=(j+1:Nat):=by rw[Ab (by omega) (by omega)];simp
  have hst:=Aro hjn
  have hvl:=ACB h hjn
  unfold maxLen at hvl
  have h2:w.ends[j].versions.length≤4194304:=by
   have:=size_at (f:=Ad) hjn
   have e:Ad w.ends[j]=w.ends[j].versions.length+w.ends[j].tags.length+AP BD w.ends[j].path:=rfl
   unfold Ai at h
   omega
  have hb:w.ends[j].versions.length*8≤1099511627776:=by omega
  have hb2:(j+1)*24≤1099511627776:=by omega
  have hjl:min j w.ends.length=j:=by omega
  simp -implicitDefEqProofs [hjn,hb,hb2,hjl]
  exact⟨k-1,by omega,j+1,by omega,by simp[hw],rfl,hst⟩
 ·obtain rfl:j=w.ends.length:=by omega
  simp -implicitDefEqProofs
theorem ABz (D:Dn):Rs (Body D Wq):=by
 intro w h
 have hl:=DU h
 have hres:Ka w=w.ends.map (·.versions):=rfl
 rw[hres]
 simp -implicitDefEqProofs
 refine Af (fun k s=>∃j o2 o3 o4 o5 o6,j+k=w.ends.length∧s=⟨[.undef,.undef,.undef,.arr 7,.undef,.sl 1 4 w.ends.length (w.ends.flatMap Ag),.sc (.int .i64 w.ends.length),.sc (.int .i64 j),.undef],[.var ((Cc w).map (Be 1)),.free,o2,o3,o4,o5,o6,.arr 1 0 j (LU ((w.ends.take j).map (·.versions)))]⟩) ?_ w.ends.length _ ⟨0,.free,.free,.free,.free,.free,by simp,by simp⟩
 intro k s ⟨j,o2,o3,o4,o5,o6,hj,hs⟩
 subst hs
 by_cases hjn:j<w.ends.length
 ·have hw:IntKind.i64.wrap ((j:Int)+1)=(j+1:Nat):=by rw[Ab (by omega) (by omega)];simp
  have hst:=Aro hjn
  have h2:w.ends[j].versions.length≤4194304:=by
   have:=size_at (f:=Ad) hjn
   have e:Ad w.ends[j]=w.ends[j].versions.length+w.ends[j].tags.length+AP BD w.ends[j].path:=rfl
   unfold Ai at h
   omega
  have hb:w.ends[j].versions.length*8≤1099511627776:=by omega
  have hb2:(j+1)*24≤1099511627776:=by omega
  have hjl:min j w.ends.length=j:=by omega
  simp -implicitDefEqProofs [hjn,hb,hb2,hjl]
  exact⟨k-1,by omega,j+1,by omega,by simp[hw],rfl,hst⟩
 ·obtain rfl:j=w.ends.length:=by omega
  simp -implicitDefEqProofs
abbrev Jb (ls:List (List Int)):V:= .sl 1 1 ls.length (LU ls)
def Ye (s:List Int) (v:Int) (l:List Int):Bool:=decide (BZ s l=v)
def TD (s:List Int) (ls:List (List Int)) (v:Int):Nat:=if 1≤v then cntF (Ye s v) ls else 0
abbrev AaD (R:Rel):Prop:=∀(s:List Int) (ls:List (List Int)) (v:Int),s.length≤4194304→I4 ls≤4194304→R [.sl 1 1 s.length (ints s),Jb ls,I v] [] (I (TD s ls v)) []
theorem AIM (D:Dn) (hB:EU (D LX)):AaD (Body D Aa2):=by
 intro s ls v hs0 hl
 have hll:=JL (xs:=ls)
 by_cases hv:1≤v
 rotate_left
 ·have e:TD s ls v=0:=by unfold TD;rw[if_neg hv]
  have hv':v<1:=by omega
  simp -implicitDefEqProofs [e,hv']
 have e:TD s ls v=cntF (Ye s v) ls:=by unfold TD;rw[if_pos hv]
 have hv':¬v<1:=by omega
 rw[e]
 simp -implicitDefEqProofs [hv']
 refine Af (fun k st=>∃j,j+k=ls.length∧st=⟨[.sl 1 1 s.length (ints s),.undef,I v,.undef,.sc (.int .i64 (cntF (Ye s v) (ls.take j))),.undef,.undef,Jb ls,.sc (.int .i64 ls.length),.sc (.int .i64 j),.undef,.undef],[]⟩) ?_ ls.length _ ⟨0,by simp,by simp[cntF]⟩
 intro k st ⟨j,hj,hs⟩
 subst hs
 by_cases hjn:j<ls.length
 ·have hw:IntKind.i64.wrap ((j:Int)+1)=(j+1:Nat):=by rw[Ab (by omega) (by omega)];simp
  have hc:=XF (f:=Ye s v) hjn
  have hcl:=Adh (f:=Ye s v) (xs:=ls) (j:=j) (by omega)
  have hw2:IntKind.i64.wrap ((cntF (Ye s v) (ls.take j):Int)+1)=(cntF (Ye s v) (ls.take j)+1:Nat):=by rw[Ab (by omega) (by omega)];simp
  have hra:=V8 hjn
  simp -implicitDefEqProofs [hjn,hv]
  refine Aa (hB s _ hs0 (by omega)) ?_
  by_cases he:BZ s ls[j]=v
  ·simp -implicitDefEqProofs [he]
   exact⟨k-1,by omega,j+1,by omega,by rw[hc,hw2];simp[Ye,he],by simp[hw]⟩
  ·simp -implicitDefEqProofs [he]
   exact⟨k-1,by omega,j+1,by omega,by rw[hc];simp[Ye,he],by simp[hw]⟩
 ·have hx:=AbE (f:=Ye s v) (xs:=ls) (j:=j) (by omega)
  simp -implicitDefEqProofs [hjn,hx]
def WG (s:List Int) (v:Int) (l:List Int):Bool:=decide (0<BZ s l)&&decide (BZ (Cg s v) l=0)
def JN (s:List Int) (ls:List (List Int)) (v:Int):List Int:=P7 (WG s v) ls 0
abbrev NR (R:Rel):Prop:=∀(s:List Int) (ls:List (List Int)) (v:Int),s.length≤4194304→I4 ls≤4194304→R [.sl 1 1 s.length (ints s),Jb ls,I v] [] (.sl 0 1 (JN s ls v).length (ints (JN s ls v))) []
theorem Azu (D:Dn) (hB:EU (D LX)) (hW:Ya (D Jt)):NR (Body D Vg):=by
 intro s ls v hs0 hl
 have hll:=JL (xs:=ls)
 have hres:JN s ls v=P7 (WG s v) ls 0:=rfl
 have hwl:=List.length_filter_le (fun x=> !decide (x=v)) s
 rw[hres]
 simp -implicitDefEqProofs
 refine Aa (hW s v hs0) ?_
 simp -implicitDefEqProofs
 refine Af (fun k st=>∃j v6 v7 o1 o3 o4,j+k=ls.length∧st=⟨[.sl 1 1 s.length (ints s),.undef,.undef,.undef,.arr 5,.arr 2,v6,v7,Jb ls,.sc (.int .i64 ls.length),.sc (.int .i64 j),.undef,.undef],[.free,o1,.arr 1 0 (Cg s v).length (ints (Cg s v)),o3,o4,.arr 1 0 (P7 (WG s v) (ls.take j) 0).length (ints (P7 (WG s v) (ls.take j) 0))]⟩) ?_ ls.length _ ⟨0,.undef,.undef,.arr 1 0 1 [.sc (.int .i64 v)],.free,.free,by simp,by simp[P7]⟩
 intro k st ⟨j,v6,v7,o1,o3,o4,hj,hs⟩
 subst hs
 by_cases hjn:j<ls.length
 ·have hw:IntKind.i64.wrap ((j:Int)+1)=(j+1:Nat):=by rw[Ab (by omega) (by omega)];simp
  have hst:=At0 (p:=WG s v) hjn
  have hln:=AoP (p:=WG s v) (ls.take j) 0
  have htl:(ls.take j).length≤j:=by simp;omega
  have hb:((P7 (WG s v) (ls.take j) 0).length+1)*8≤1099511627776:=by omega
  have hra:=V8 hjn
  simp -implicitDefEqProofs [hjn]
  refine Aa (hB s _ hs0 (by omega)) ?_
  by_cases h1:0<BZ s ls[j]
  rotate_left
  ·rw[if_neg (by simp[WG,h1]),List.append_nil]at hst
   simp -implicitDefEqProofs [h1]
   exact⟨k-1,by omega,j+1,by omega,by simp[hw],by rw[hst],by rw[hst]⟩
  simp -implicitDefEqProofs [h1,hjn]
  refine Aa (hB (Cg s v) ls[j] (by unfold Cg;omega) (by omega)) ?_
  by_cases h2:BZ (Cg s v) ls[j]=0
  ·rw[if_pos (by simp[WG,h1,h2])]at hst
   simp -implicitDefEqProofs [h2,hb]
   exact⟨k-1,by omega,j+1,by omega,by simp[hw],by rw[hst];simp,by rw[hst]⟩
  ·rw[if_neg (by simp[WG,h1,h2]),List.append_nil]at hst
   simp -implicitDefEqProofs [h2]
   exact⟨k-1,by omega,j+1,by omega,by simp[hw],by rw[hst],by rw[hst]⟩
 ·have hx:=Ay6 (p:=WG s v) (xs:=ls) (j:=j) (by omega)
  simp -implicitDefEqProofs [hjn,hx]
theorem AAu (s:List Int) (ls:List (List Int)) (v:Int):TD s ls v≤ls.length:=by
 unfold TD
 split
 ·have:=Adh (f:=Ye s v) (xs:=ls) (j:=ls.length) (by omega)
  rwa [List.take_length]at this
 ·omega
def Gn (s:List Int) (ls:List (List Int)) (v pm:Int):Bool:=Bt s&&(decide (v∈s)&&(!decide (s.length=1)&&(decide (InV pm 0 1000)&&(decide (JN s ls v=[])&&decide (1000*(TD s ls v:Int)≤pm*(ls.length:Int))))))
abbrev LA (R:Rel):Prop:=∀(s:List Int) (ls:List (List Int)) (v pm:Int),s.length≤4194304→I4 ls≤4194304→R [.sl 1 1 s.length (ints s),Jb ls,I v,I pm] [] (B (Gn s ls v pm)) []
theorem AvN (D:Dn) (hA:Co (D Gb)) (hH:PN (D Bb)) (hI:TF (D BP)) (hS:NR (D AnP)) (hU:AaD (D AxN)):LA (Body D Tm):=by
 intro s ls v pm hs0 hl
 have hll:=JL (xs:=ls)
 simp -implicitDefEqProofs
 refine Aa (hA s (by unfold maxLen;omega)) ?_
 by_cases h1:Bt s=true
 rotate_left
 ·simp -implicitDefEqProofs [h1,Gn]
 simp -implicitDefEqProofs [h1]
 refine Aa (hH s v (by unfold maxLen;omega)) ?_
 by_cases h2:v∈s
 rotate_left
 ·simp -implicitDefEqProofs [h1,h2,Gn]
 by_cases h3:s.length=1
 ·have h3':(s.length:Int)=1:=by omega
  simp -implicitDefEqProofs [h1,h2,h3,h3',Gn]
 have h3':¬(s.length:Int)=1:=by omega
 simp -implicitDefEqProofs [h1,h2,h3,h3']
 refine Aa (hI _ _ _) ?_
 by_cases h4:InV pm 0 1000
 rotate_left
 ·simp -implicitDefEqProofs [h1,h2,h3,h3',h4,Gn]
 simp -implicitDefEqProofs [h3,h3',h4]
 refine Aa (hS s ls v hs0 hl) ?_
 by_cases h5:(JN s ls v).length=0
 rotate_left
 ·have h5':¬((JN s ls v).length:Int)=0:=by omega
  have h5'':¬JN s ls v=[]:=by intro h;rw[h]at h5;simp at h5
  simp -implicitDefEqProofs [h5,h5',h5'',h1,h2,h3,h4,Gn]
 have h5'':JN s ls v=[]:=List.eq_nil_of_length_eq_zero h5
 simp -implicitDefEqProofs [h5'']
 refine Aa (hU s ls v hs0 hl) ?_
 have hu:=AAu s ls v
 have w1:IntKind.i64.wrap (1000*(TD s ls v:Int))=1000*(TD s ls v:Int):=Ab (by omega) (by omega)
 have w2:IntKind.i64.wrap (pm*(ls.length:Int))=pm*(ls.length:Int):=by
  have a1:0≤pm*(ls.length:Int):=Int.mul_nonneg h4.1 (by omega)
  have a2:pm*(ls.length:Int)≤1000*4194304:=Int.mul_le_mul h4.2 (by omega) (by omega) (by omega)
  exact Ab (by omega) (by omega)
 simp -implicitDefEqProofs [h1,h2,h3,h3',h4,h5'',w1,w2,Gn]
def J5 (s:List Int) (ls:List (List Int)) (v pm:Int):List Int×Bool:=if Gn s ls v pm=true then(Cg s v,true)else(s,false)
abbrev G9 (R:Rel):Prop:=∀(s:List Int) (ls:List (List Int)) (v pm:Int),s.length≤4194304→I4 ls≤4194304→R [.sl 1 1 s.length (ints s),Jb ls,I v,I pm] [] (.tup [.sl 0 1 (J5 s ls v pm).1.length (ints (J5 s ls v pm).1),B (J5 s ls v pm).2]) []
theorem AiH (D:Dn) (hM:LA (D AmL)) (hW:Ya (D Jt)):G9 (Body D Mq):=by
 intro s ls v pm hs0 hl
 have hll:=JL (xs:=ls)
 have hb:s.length*8≤1099511627776:=by omega
 simp -implicitDefEqProofs
 refine Aa (hM s ls v pm hs0 hl) ?_
 by_cases h1:Gn s ls v pm=true
 rotate_left
 ·have e:J5 s ls v pm=(s,false):=by unfold J5;rw[if_neg h1]
  simp -implicitDefEqProofs [h1,e,hb]
 have e:J5 s ls v pm=(Cg s v,true):=by unfold J5;rw[if_pos h1]
 simp -implicitDefEqProofs [h1,e]
 refine Aa (hW s v hs0) ?_
 simp -implicitDefEqProofs [h1,e]
theorem Akx {w:World} (h:Ai w≤4194304):w.server.length≤4194304:=by unfold Ai at h;omega
theorem AMw (xs:List Az):I4 (xs.map (·.versions))≤AP Ad xs:=by
 induction xs with
 | nil=>simp[I4,AP]
 | cons x r ih=>
  simp only[I4,AP,List.map_cons,List.sum_cons,List.length_cons,Ad,List.length_map]at *
  omega
theorem Ayp {w:World} (h:Ai w≤4194304):I4 (Ka w)≤4194304:=by
 have:=AMw w.ends
 unfold Ai at h
 unfold Ka
 omega
def BX (w:World) (v pm:Int):World×Bool:=if(J5 w.server (Ka w) v pm).2=true∧¬v=w.rollout.version then({w with server:=(J5 w.server (Ka w) v pm).1},true)else(w,false)
abbrev JW (R:Rel):Prop:=∀(w:World) (v pm:Int),Ai w≤4194304→R [arg (Cc w),I v,I pm] [] (.tup [.agg (Cc (BX w v pm).1),B (BX w v pm).2]) []
theorem Atl (D:Dn) (hC:CV (D Dt)) (hL:Rs (D Atc)) (hR:G9 (D AcA)):JW (Body D QU):=by
 intro w v pm h
 simp -implicitDefEqProofs
 refine Aa (hC w h) ?_
 simp -implicitDefEqProofs
 refine Aa (hL w h) ?_
 simp -implicitDefEqProofs
 refine Aa (hR w.server (Ka w) v pm (Akx h) (Ayp h)) ?_
 by_cases h1:(J5 w.server (Ka w) v pm).2=true
 rotate_left
 ·have e:BX w v pm=(w,false):=by unfold BX;rw[if_neg (by simp[h1])]
  simp -implicitDefEqProofs [h1,e]
 by_cases h2:v=w.rollout.version
 ·subst h2
  have e:BX w w.rollout.version pm=(w,false):=by unfold BX;rw[if_neg (by simp)]
  simp -implicitDefEqProofs [h1,e]
 have e:BX w v pm=({w with server:=(J5 w.server (Ka w) v pm).1},true):=by unfold BX;rw[if_pos ⟨h1,h2⟩]
 simp -implicitDefEqProofs [h1,h2,e]
end Go.Eng.T
