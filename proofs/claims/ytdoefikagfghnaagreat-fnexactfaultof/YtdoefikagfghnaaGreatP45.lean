/- Own work: part 45 of the proof of FnExactFaultOf. -/
import Derived.Test.YtdoefikagfghnaaGreatP44
set_option linter.unusedSimpArgs false
set_option linter.unusedVariables false
namespace Go.Eng.T
abbrev I (a:Int):V:= .sc (.int .i64 a)
abbrev B (a:Bool):V:= .sc (.bool a)
abbrev S (a:ByteArray):V:= .sc (.string a)
abbrev Rel:=List V→List O→V→List O→Prop
def ints (xs:List Int):List V:=xs.map fun x=> .sc (.int .i64 x)
@[simp] theorem AHb (xs:List Int):(ints xs).length=xs.length:=by simp[ints]
@[simp] theorem AGZ:ints []=[]:=rfl
@[simp] theorem ints_at {xs:List Int} {j:Nat} (h:j<xs.length):(ints xs)[j]? =some (V.sc (.int .i64 xs[j])):=by simp[ints,h]
@[simp] theorem AGw {xs:List Int} {j:Nat} (h:j<(ints xs).length):(ints xs)[j]=V.sc (.int .i64 (xs[j]'(by simpa using h))):=by simp[ints]
@[simp] theorem AHp (xs:List Int) (k:Nat):(ints xs).map (AZ k)=ints xs:=by simp[ints,Function.comp_def,AZ]
theorem Ake (xs ys:List Int):ints xs++ints ys=ints (xs++ys):=by simp[ints]
@[simp] theorem AGx (xs:List Int) (y:Int):ints xs++ [V.sc (.int .i64 y)]=ints (xs++ [y]):=by simp[ints]
@[simp] theorem ints_set (xs:List Int) (j:Nat) (y:Int):(ints xs).set j (V.sc (.int .i64 y))=ints (xs.set j y):=by simp[ints]
@[simp] theorem AGO (n:Nat):(List.replicate n [V.sc (.int .i64 0)]).flatten=ints (List.replicate n 0):=by
 induction n with
 | zero=>rfl
 | succ n ih=>simp[List.replicate_succ,ints]at *
@[simp] theorem AHB (xs:List Int):(ints xs).all Sk=true:=by simp[ints,Sk]
@[simp] theorem AGr (xs:List Int) (o n:Nat):part (ints xs) 1 o n=ints ((xs.drop o).take n):=by simp[part,ints]
@[simp] theorem AGD:∀xs:List Int,(∀x,x∈ints xs→Sk x=true)=True:=by simp[ints,Sk]
@[simp] theorem AGy (a:V) (cs:List V) (off n:Nat):Gj (a::cs) off n=if off+n≤cs.length+1 then some (((a::cs).drop off).take n)else none:=by simp[Gj]
structure AfW where
 ok:Bool
 version:Int
 tags:List Int
 deriving DecidableEq
structure Gu where
 limit:Int
 drops:List Int
 strips:List Int
 lists:Bool
 deriving DecidableEq
structure Cw where
 deal:AfW
 tries:Int
 up:List Int
 deriving DecidableEq
structure EH where
 version:Int
 stages:List Int
 pos:Int
 off:Bool
 deriving DecidableEq
structure AL where
 versions:List Int
 tags:List Int
 path:List Gu
 cls:Int
 deriving DecidableEq
structure BA where
 fin:Int
 tick:Int
 on:Bool
 dialed:Cw
 deriving DecidableEq
structure World where
 server:List Int
 tags:List Int
 key:Int
 ends:List AL
 rollout:EH
 least:Int
 percent:Int
 stage:List Cw
 log:List BA
 now:Int
 hurt:Int
 reached:Int
 deriving DecidableEq
structure Event where
 kind:Int
 n:Int
 box:Gu
 deriving DecidableEq
abbrev sl (fl e n:Nat) (cs:List V):V:= .sl fl e n cs
def X7 (d:AfW):List V:=[.sc (.bool d.ok),.sc (.int .i64 d.version),.sl 0 1 d.tags.length (ints d.tags)]
def CF (d:Gu):List V:=[.sc (.int .i64 d.limit),.sl 0 1 d.drops.length (ints d.drops),.sl 0 1 d.strips.length (ints d.strips),.sc (.bool d.lists)]
def AP (d:Cw):List V:=[.sc (.bool d.deal.ok),.sc (.int .i64 d.deal.version),.sl 0 1 d.deal.tags.length (ints d.deal.tags),.sc (.int .i64 d.tries),.sl 0 1 d.up.length (ints d.up)]
def Gx (d:EH):List V:=[.sc (.int .i64 d.version),.sl 0 1 d.stages.length (ints d.stages),.sc (.int .i64 d.pos),.sc (.bool d.off)]
def Ak (d:AL):List V:=[.sl 0 1 d.versions.length (ints d.versions),.sl 0 1 d.tags.length (ints d.tags),.sl 0 4 d.path.length (d.path.flatMap CF),.sc (.int .i64 d.cls)]
def Ar (d:BA):List V:=[.sc (.int .i64 d.fin),.sc (.int .i64 d.tick),.sc (.bool d.on),.sc (.bool d.dialed.deal.ok),.sc (.int .i64 d.dialed.deal.version),.sl 0 1 d.dialed.deal.tags.length (ints d.dialed.deal.tags),.sc (.int .i64 d.dialed.tries),.sl 0 1 d.dialed.up.length (ints d.dialed.up)]
def EF (d:World):List V:=[.sl 0 1 d.server.length (ints d.server),.sl 0 1 d.tags.length (ints d.tags),.sc (.int .i64 d.key),.sl 0 4 d.ends.length (d.ends.flatMap Ak),.sc (.int .i64 d.rollout.version),.sl 0 1 d.rollout.stages.length (ints d.rollout.stages),.sc (.int .i64 d.rollout.pos),.sc (.bool d.rollout.off),.sc (.int .i64 d.least),.sc (.int .i64 d.percent),.sl 0 5 d.stage.length (d.stage.flatMap AP),.sl 0 8 d.log.length (d.log.flatMap Ar),.sc (.int .i64 d.now),.sc (.int .i64 d.hurt),.sc (.int .i64 d.reached)]
def CY (d:Event):List V:=[.sc (.int .i64 d.kind),.sc (.int .i64 d.n),.sc (.int .i64 d.box.limit),.sl 0 1 d.box.drops.length (ints d.box.drops),.sl 0 1 d.box.strips.length (ints d.box.strips),.sc (.bool d.box.lists)]
abbrev arg (cs:List V):V:= .agg (cs.map (AZ 1))
section
variable {α:Type} {f:α→List V} {e:Nat}
theorem YU (hf:∀x,(f x).map (AZ 0)=f x) (xs:List α):(xs.flatMap f).map (AZ 0)=xs.flatMap f:=by
 induction xs with
 | nil=>rfl
 | cons x xs ih=>simp[hf,ih]
theorem YN (cs ds:List V) (o:Nat):∀(azs:List V),o+azs.length≤ds.length→putAt (cs++ds) (cs.length+o) azs=cs++putAt ds o azs:=by
 intro azs
 induction azs generalizing ds o with
 | nil=>intro _;simp[putAt]
 | cons a azs ih=>
  intro h
  simp only[putAt,List.length_cons]at *
  rw[List.set_append_right _ _ (by omega),show cs.length+o-cs.length=o by omega,show cs.length+o+1=cs.length+(o+1)by omega]
  exact ih _ _ (by simp;omega)
theorem AuS:∀(ds azs:List V),azs.length≤ds.length→putAt ds 0 azs=azs++ds.drop azs.length:=by
 have key:∀(azs pre ds:List V),azs.length≤ds.length→putAt (pre++ds) pre.length azs=pre++azs++ds.drop azs.length:=by
  intro azs
  induction azs with
  | nil=>intro pre ds _;simp[putAt]
  | cons a azs ih=>
   intro pre ds h
   cases ds with
   | nil=>simp at h
   | cons d ds=>
    have:=ih (pre++ [a]) ds (by simpa using h)
    simp only[putAt]
    rw[List.set_append_right _ _ (Nat.le_refl _),Nat.sub_self,List.set_cons_zero]
    simpa using this
 intro ds azs h
 simpa using key azs [] ds h
theorem Sb (hf:∀x,(f x).length=e) {xs:List α} {i:Nat} (hi:i<xs.length) (x:α):putAt (xs.flatMap f) (i*e) (f x)=(xs.set i x).flatMap f:=by
 induction xs generalizing i with
 | nil=>simp at hi
 | cons y ys ih=>
  cases i with
  | zero=>
   rw[Nat.zero_mul,AuS _ _ (by simp[hf])]
   simp[hf]
  | succ i=>
   simp only[List.flatMap_cons,List.set_cons_succ]
   rw[show(i+1)*e=(f y).length+i*e by rw[hf,Nat.add_mul];omega,YN]
   ·rw[ih (by simpa using hi)]
   ·rw[Nj hf,hf]
    have:=Nat.mul_le_mul_right e (show i+1≤ys.length by simp at hi;omega)
    rw[Nat.add_mul]at this;omega
theorem Adx (z:α) (n:Nat):(List.replicate n (f z)).flatten=(List.replicate n z).flatMap f:=by
 induction n with
 | zero=>rfl
 | succ n ih=>simp[List.replicate_succ,ih]
end
def fd (o:O):Prop:=o= .free∨o= .dead
@[simp] theorem AHx:fd .free:= .inl rfl
@[simp] theorem AHD:fd .dead:= .inr rfl
def mix {α:Type} (z:α) (xs:List α) (j:Nat):List α:=xs.take j++List.replicate (xs.length-j) z
section
variable {α:Type} {z:α} {xs:List α} {j:Nat}
@[simp] theorem AHf (h:j≤xs.length):(mix z xs j).length=xs.length:=by simp[mix];omega
theorem XC:mix z xs 0=List.replicate xs.length z:=by simp[mix]
theorem AcE (h:xs.length≤j):mix z xs j=xs:=by simp[mix,Nat.sub_eq_zero_of_le h,List.take_of_length_le h]
theorem AcL (h:j<xs.length):(mix z xs j).set j xs[j]=mix z xs (j+1):=by
 unfold mix
 have hl:(xs.take j).length=j:=by simp;omega
 rw[List.set_append_right _ _ (by omega),hl,Nat.sub_self]
 obtain⟨k,hk⟩:∃k,xs.length-j=k+1:=⟨xs.length-j-1,by omega⟩
 have hk':xs.length-(j+1)=k:=by omega
 have ht:xs.take (j+1)=xs.take j++ [xs[j]]:=by simp
 rw[hk,hk',List.replicate_succ,List.set_cons_zero,ht,List.append_assoc]
 rfl
end
theorem Ad {n:Int} (h1:-9223372036854775808≤n) (h2:n≤9223372036854775807):IntKind.i64.wrap n=n:=by
 show(if(true&&decide (n % (2 ^ 64:Int)≥(2 ^ 63:Int)))=true then n % (2 ^ 64:Int)-(2 ^ 64:Int)else n % (2 ^ 64:Int))=n
 by_cases h:n % (2 ^ 64:Int)≥(2 ^ 63:Int)
 ·rw[if_pos (by simp only[h];rfl)];omega
 ·rw[if_neg (by simp only[h];simp)];omega
section
variable {α:Type} {xs ys:List α} {j:Nat}
theorem J5 (hx:j<xs.length) (hy:j<ys.length) (h:xs.take j=ys.take j) (he:xs[j]=ys[j]):xs.take (j+1)=ys.take (j+1):=by
 rw[List.take_add_one,List.take_add_one,h,List.getElem?_eq_getElem hx,List.getElem?_eq_getElem hy,he]
theorem Mq (hx:xs.length≤j) (hl:xs.length=ys.length) (h:xs.take j=ys.take j):xs=ys:=by
 rwa [List.take_of_length_le hx,List.take_of_length_le (by omega)]at h
end
def Bw {α:Type} (f:α→Nat) (xs:List α):Nat:=xs.length+(xs.map f).sum
def E9 (d:AfW):Nat:=d.tags.length
def Ct (d:Gu):Nat:=d.drops.length+d.strips.length
def Al (d:Cw):Nat:=E9 d.deal+d.up.length
def Bg (d:EH):Nat:=d.stages.length
def Ac (d:AL):Nat:=d.versions.length+d.tags.length+Bw Ct d.path
def Av (d:BA):Nat:=Al d.dialed
def Ay (d:World):Nat:=d.server.length+d.tags.length+Bw Ac d.ends+Bg d.rollout+Bw Al d.stage+Bw Av d.log
def Aic (d:Event):Nat:=Ct d.box
def szl (n:Nat) (l:Int):Int:=if l<n then -1 else l-n
section
variable {α:Type} {f:α→Nat} {xs:List α} {j:Nat}
theorem Ye (h:j<xs.length):((xs.take (j+1)).map f).sum=((xs.take j).map f).sum+f xs[j]:=by
 rw[List.take_add_one,List.getElem?_eq_getElem h,List.map_append,List.sum_append,Option.toList_some,List.map_cons,List.map_nil,List.sum_cons,List.sum_nil,Nat.add_zero]
theorem OT:((xs.take j).map f).sum≤(xs.map f).sum:=by
 conv=>rhs;rw[←List.take_append_drop j xs,List.map_append,List.sum_append]
 omega
theorem Ah2 (h:xs.length≤j):((xs.take j).map f).sum=(xs.map f).sum:=by rw[List.take_of_length_le h]
theorem size_at (h:j<xs.length):f xs[j]≤Bw f xs:=by
 have h1:=Ye (f:=f) h
 have h2:=OT (f:=f) (xs:=xs) (j:=j+1)
 unfold Bw;omega
theorem IK:xs.length≤Bw f xs:=by unfold Bw;omega
end
def Jr (xs:List Int):Prop:=xs.length≤maxLen
def lnS {α:Type} (f:α→Prop) (xs:List α):Prop:=xs.length≤maxLen∧∀(j:Nat) (h:j<xs.length),f xs[j]
def ApE (d:AfW):Prop:=Jr d.tags
def Hw (d:Gu):Prop:=Jr d.drops∧Jr d.strips
def OV (d:Cw):Prop:=ApE d.deal∧Jr d.up
def YH (d:EH):Prop:=Jr d.stages
def Ir (d:AL):Prop:=Jr d.versions∧Jr d.tags∧lnS Hw d.path
def Sj (d:BA):Prop:=OV d.dialed
def AcK (d:World):Prop:=Jr d.server∧Jr d.tags∧lnS Ir d.ends∧YH d.rollout∧lnS OV d.stage∧lnS Sj d.log
def AEb (d:Event):Prop:=Hw d.box
theorem JC (x:Gu):(CF x).length=4:=rfl
theorem DX (x:Cw):(AP x).length=5:=rfl
theorem Ee (x:AL):(Ak x).length=4:=rfl
theorem BL (x:BA):(Ar x).length=8:=rfl
theorem DV (x:Event):(CY x).length=6:=rfl
@[simp] theorem AHj (xs:List Gu):(xs.flatMap CF).map (AZ 0)=xs.flatMap CF:=YU (fun _=>rfl) xs
@[simp] theorem AFb (xs:List Cw):(xs.flatMap AP).map (AZ 0)=xs.flatMap AP:=YU (fun _=>rfl) xs
@[simp] theorem ADI (xs:List AL):(xs.flatMap Ak).map (AZ 0)=xs.flatMap Ak:=YU (fun _=>rfl) xs
@[simp] theorem AE5 (xs:List BA):(xs.flatMap Ar).map (AZ 0)=xs.flatMap Ar:=YU (fun _=>rfl) xs
@[simp] theorem AGA (xs:List Event):(xs.flatMap CY).map (AZ 0)=xs.flatMap CY:=YU (fun _=>rfl) xs
@[simp high] theorem AHm {xs:List Gu} {j:Nat} (h:j<xs.length):Gj (xs.flatMap CF) (j*4) 4=some (CF xs[j]):=NT JC h
@[simp high] theorem AFR {xs:List Cw} {j:Nat} (h:j<xs.length):Gj (xs.flatMap AP) (j*5) 5=some (AP xs[j]):=NT DX h
@[simp high] theorem AD5 {xs:List AL} {j:Nat} (h:j<xs.length):Gj (xs.flatMap Ak) (j*4) 4=some (Ak xs[j]):=NT Ee h
@[simp high] theorem AFu {xs:List BA} {j:Nat} (h:j<xs.length):Gj (xs.flatMap Ar) (j*8) 8=some (Ar xs[j]):=NT BL h
@[simp high] theorem AGB {xs:List Event} {j:Nat} (h:j<xs.length):Gj (xs.flatMap CY) (j*6) 6=some (CY xs[j]):=NT DV h
@[simp high] theorem AGp (xs:List Gu):(xs.flatMap CF).length=xs.length*4:=Nj JC xs
@[simp high] theorem AGP {xs:List Gu} {j:Nat} (h:j<xs.length) (a:Int) (b c:List Int) (d:Bool) {nb:Nat} (hb:nb=b.length) {nc:Nat} (hc:nc=c.length):putAt (xs.flatMap CF) (j*4) [.sc (.int .i64 a),.sl 0 1 nb (ints b),.sl 0 1 nc (ints c),.sc (.bool d)]=(xs.set j ⟨a,b,c,d⟩).flatMap CF:=by subst hb;subst hc;exact Sb JC h ⟨a,b,c,d⟩
@[simp high] theorem ADt (xs:List Cw):(xs.flatMap AP).length=xs.length*5:=Nj DX xs
@[simp high] theorem AEF {xs:List Cw} {j:Nat} (h:j<xs.length) (a:Bool) (b:Int) (c:List Int) (d:Int) (u:List Int) {nc:Nat} (hc:nc=c.length) {nu:Nat} (hu:nu=u.length):putAt (xs.flatMap AP) (j*5) [.sc (.bool a),.sc (.int .i64 b),.sl 0 1 nc (ints c),.sc (.int .i64 d),.sl 0 1 nu (ints u)]=(xs.set j ⟨⟨a,b,c⟩,d,u⟩).flatMap AP:=by subst hc;subst hu;exact Sb DX h ⟨⟨a,b,c⟩,d,u⟩
@[simp high] theorem AB6 (xs:List AL):(xs.flatMap Ak).length=xs.length*4:=Nj Ee xs
@[simp high] theorem ACx {xs:List AL} {j:Nat} (h:j<xs.length) (a b:List Int) (c:List Gu) (d:Int) {na:Nat} (ha:na=a.length) {nb:Nat} (hb:nb=b.length) {nc:Nat} (hc:nc=c.length):putAt (xs.flatMap Ak) (j*4) [.sl 0 1 na (ints a),.sl 0 1 nb (ints b),.sl 0 4 nc (c.flatMap CF),.sc (.int .i64 d)]=(xs.set j ⟨a,b,c,d⟩).flatMap Ak:=by subst ha;subst hb;subst hc;exact Sb Ee h ⟨a,b,c,d⟩
@[simp high] theorem AC2 (xs:List BA):(xs.flatMap Ar).length=xs.length*8:=Nj BL xs
@[simp high] theorem AE0 {xs:List BA} {j:Nat} (h:j<xs.length) (m n:Int) (o a:Bool) (b:Int) (c:List Int) (d:Int) (u:List Int) {nc:Nat} (hc:nc=c.length) {nu:Nat} (hu:nu=u.length):putAt (xs.flatMap Ar) (j*8) [.sc (.int .i64 m),.sc (.int .i64 n),.sc (.bool o),.sc (.bool a),.sc (.int .i64 b),.sl 0 1 nc (ints c),.sc (.int .i64 d),.sl 0 1 nu (ints u)]=(xs.set j ⟨m,n,o,⟨⟨a,b,c⟩,d,u⟩⟩).flatMap Ar:=by subst hc;subst hu;exact Sb BL h ⟨m,n,o,⟨⟨a,b,c⟩,d,u⟩⟩
@[simp high] theorem AEM (xs:List Event):(xs.flatMap CY).length=xs.length*6:=Nj DV xs
@[simp high] theorem AE2 {xs:List Event} {j:Nat} (h:j<xs.length) (m n:Int) (a:Int) (b c:List Int) (d:Bool) {nb:Nat} (hb:nb=b.length) {nc:Nat} (hc:nc=c.length):putAt (xs.flatMap CY) (j*6) [.sc (.int .i64 m),.sc (.int .i64 n),.sc (.int .i64 a),.sl 0 1 nb (ints b),.sl 0 1 nc (ints c),.sc (.bool d)]=(xs.set j ⟨m,n,⟨a,b,c,d⟩⟩).flatMap CY:=by subst hb;subst hc;exact Sb DV h ⟨m,n,⟨a,b,c,d⟩⟩
@[simp high] theorem AHo {xs:List Gu} {j:Nat} (h:j<xs.length):(xs.flatMap CF)[j*4]? =some (.sc (.int .i64 xs[j].limit)):=by
 have:=AO (o:=0) JC h (by omega)
 simpa[CF]using this
@[simp high] theorem AHw {xs:List Gu} {j:Nat} (h:j<xs.length):(xs.flatMap CF)[j*4+1]? =some (.sl 0 1 xs[j].drops.length (ints xs[j].drops)):=by
 have:=AO (o:=1) JC h (by omega)
 simpa[CF]using this
@[simp high] theorem AHu {xs:List Gu} {j:Nat} (h:j<xs.length):(xs.flatMap CF)[j*4+2]? =some (.sl 0 1 xs[j].strips.length (ints xs[j].strips)):=by
 have:=AO (o:=2) JC h (by omega)
 simpa[CF]using this
@[simp high] theorem AHk {xs:List Gu} {j:Nat} (h:j<xs.length):(xs.flatMap CF)[j*4+3]? =some (.sc (.bool xs[j].lists)):=by
 have:=AO (o:=3) JC h (by omega)
 simpa[CF]using this
@[simp high] theorem AFY {xs:List Cw} {j:Nat} (h:j<xs.length):(xs.flatMap AP)[j*5]? =some (.sc (.bool xs[j].deal.ok)):=by
 have:=AO (o:=0) DX h (by omega)
 simpa[AP]using this
@[simp high] theorem AE7 {xs:List Cw} {j:Nat} (h:j<xs.length):(xs.flatMap AP)[j*5+1]? =some (.sc (.int .i64 xs[j].deal.version)):=by
 have:=AO (o:=1) DX h (by omega)
 simpa[AP]using this
@[simp high] theorem AFx {xs:List Cw} {j:Nat} (h:j<xs.length):(xs.flatMap AP)[j*5+2]? =some (.sl 0 1 xs[j].deal.tags.length (ints xs[j].deal.tags)):=by
 have:=AO (o:=2) DX h (by omega)
 simpa[AP]using this
@[simp high] theorem AFm {xs:List Cw} {j:Nat} (h:j<xs.length):(xs.flatMap AP)[j*5+3]? =some (.sc (.int .i64 xs[j].tries)):=by
 have:=AO (o:=3) DX h (by omega)
 simpa[AP]using this
@[simp high] theorem AFk {xs:List Cw} {j:Nat} (h:j<xs.length):(xs.flatMap AP)[j*5+4]? =some (.sl 0 1 xs[j].up.length (ints xs[j].up)):=by
 have:=AO (o:=4) DX h (by omega)
 simpa[AP]using this
@[simp high] theorem AEi {xs:List AL} {j:Nat} (h:j<xs.length):(xs.flatMap Ak)[j*4]? =some (.sl 0 1 xs[j].versions.length (ints xs[j].versions)):=by
 have:=AO (o:=0) Ee h (by omega)
 simpa[Ak]using this
@[simp high] theorem AEq {xs:List AL} {j:Nat} (h:j<xs.length):(xs.flatMap Ak)[j*4+1]? =some (.sl 0 1 xs[j].tags.length (ints xs[j].tags)):=by
 have:=AO (o:=1) Ee h (by omega)
 simpa[Ak]using this
@[simp high] theorem ADr {xs:List AL} {j:Nat} (h:j<xs.length):(xs.flatMap Ak)[j*4+2]? =some (.sl 0 4 xs[j].path.length (xs[j].path.flatMap CF)):=by
 have:=AO (o:=2) Ee h (by omega)
 simpa[Ak]using this
@[simp high] theorem ADw {xs:List AL} {j:Nat} (h:j<xs.length):(xs.flatMap Ak)[j*4+3]? =some (.sc (.int .i64 xs[j].cls)):=by
 have:=AO (o:=3) Ee h (by omega)
 simpa[Ak]using this
@[simp high] theorem AFg {xs:List BA} {j:Nat} (h:j<xs.length):(xs.flatMap Ar)[j*8]? =some (.sc (.int .i64 xs[j].fin)):=by
 have:=AO (o:=0) BL h (by omega)
 simpa[Ar]using this
@[simp high] theorem AFM {xs:List BA} {j:Nat} (h:j<xs.length):(xs.flatMap Ar)[j*8+1]? =some (.sc (.int .i64 xs[j].tick)):=by
 have:=AO (o:=1) BL h (by omega)
 simpa[Ar]using this
@[simp high] theorem AF1 {xs:List BA} {j:Nat} (h:j<xs.length):(xs.flatMap Ar)[j*8+2]? =some (.sc (.bool xs[j].on)):=by
 have:=AO (o:=2) BL h (by omega)
 simpa[Ar]using this
@[simp high] theorem AFe {xs:List BA} {j:Nat} (h:j<xs.length):(xs.flatMap Ar)[j*8+3]? =some (.sc (.bool xs[j].dialed.deal.ok)):=by
 have:=AO (o:=3) BL h (by omega)
 simpa[Ar]using this
@[simp high] theorem AE8 {xs:List BA} {j:Nat} (h:j<xs.length):(xs.flatMap Ar)[j*8+4]? =some (.sc (.int .i64 xs[j].dialed.deal.version)):=by
 have:=AO (o:=4) BL h (by omega)
 simpa[Ar]using this
@[simp high] theorem AFQ {xs:List BA} {j:Nat} (h:j<xs.length):(xs.flatMap Ar)[j*8+5]? =some (.sl 0 1 xs[j].dialed.deal.tags.length (ints xs[j].dialed.deal.tags)):=by
 have:=AO (o:=5) BL h (by omega)
 simpa[Ar]using this
@[simp high] theorem AE4 {xs:List BA} {j:Nat} (h:j<xs.length):(xs.flatMap Ar)[j*8+6]? =some (.sc (.int .i64 xs[j].dialed.tries)):=by
 have:=AO (o:=6) BL h (by omega)
 simpa[Ar]using this
@[simp high] theorem AFj {xs:List BA} {j:Nat} (h:j<xs.length):(xs.flatMap Ar)[j*8+7]? =some (.sl 0 1 xs[j].dialed.up.length (ints xs[j].dialed.up)):=by
 have:=AO (o:=7) BL h (by omega)
 simpa[Ar]using this
@[simp high] theorem AGt {xs:List Event} {j:Nat} (h:j<xs.length):(xs.flatMap CY)[j*6]? =some (.sc (.int .i64 xs[j].kind)):=by
 have:=AO (o:=0) DV h (by omega)
 simpa[CY]using this
@[simp high] theorem AGJ {xs:List Event} {j:Nat} (h:j<xs.length):(xs.flatMap CY)[j*6+1]? =some (.sc (.int .i64 xs[j].n)):=by
 have:=AO (o:=1) DV h (by omega)
 simpa[CY]using this
@[simp high] theorem AGE {xs:List Event} {j:Nat} (h:j<xs.length):(xs.flatMap CY)[j*6+2]? =some (.sc (.int .i64 xs[j].box.limit)):=by
 have:=AO (o:=2) DV h (by omega)
 simpa[CY]using this
@[simp high] theorem AGf {xs:List Event} {j:Nat} (h:j<xs.length):(xs.flatMap CY)[j*6+3]? =some (.sl 0 1 xs[j].box.drops.length (ints xs[j].box.drops)):=by
 have:=AO (o:=3) DV h (by omega)
 simpa[CY]using this
@[simp high] theorem AGm {xs:List Event} {j:Nat} (h:j<xs.length):(xs.flatMap CY)[j*6+4]? =some (.sl 0 1 xs[j].box.strips.length (ints xs[j].box.strips)):=by
 have:=AO (o:=4) DV h (by omega)
 simpa[CY]using this
@[simp high] theorem AGs {xs:List Event} {j:Nat} (h:j<xs.length):(xs.flatMap CY)[j*6+5]? =some (.sc (.bool xs[j].box.lists)):=by
 have:=AO (o:=5) DV h (by omega)
 simpa[CY]using this
theorem QU {α:Type} {f:α→List V} {e:Nat} (hf:∀x,(f x).length=e) {xs:List α} {j o n:Nat} (h:j<xs.length) (ho:o+n≤e):Gj (xs.flatMap f) (j*e+o) n=some (((f xs[j]).drop o).take n):=by
 unfold Gj
 have hl:=Nj hf xs
 have h2:j*e+e≤xs.length*e:=by
  have:=Nat.mul_le_mul_right e (show j+1≤xs.length by omega)
  rw[Nat.add_mul]at this;omega
 rw[hl,if_pos (by omega),←List.drop_drop,YE hf,List.drop_eq_getElem_cons h,List.flatMap_cons,List.drop_append,List.take_append]
 have h3:=hf xs[j]
 rw[List.length_drop,h3]
 have:n-(e-o)=0:=by omega
 rw[this,List.take_zero,List.append_nil]
@[simp high] theorem AE6 {xs:List BA} {j:Nat} (h:j<xs.length):Gj (xs.flatMap Ar) (j*8+3) 5=some (AP xs[j].dialed):=QU BL h (by omega)
@[simp high] theorem AFZ {xs:List BA} {j:Nat} (h:j<xs.length):Gj (xs.flatMap Ar) (j*8+3) 3=some (X7 xs[j].dialed.deal):=QU BL h (by omega)
@[simp high] theorem AFP {xs:List Cw} {j:Nat} (h:j<xs.length):Gj (xs.flatMap AP) (j*5) 3=some (X7 xs[j].deal):=QU (o:=0) DX h (by omega)
@[simp high] theorem AGh {xs:List Event} {j:Nat} (h:j<xs.length):Gj (xs.flatMap CY) (j*6+2) 4=some (CF xs[j].box):=QU DV h (by omega)
attribute [simp] Nat.add_one_le_iff X7 CF AP Gx Ak Ar EF CY
end Go.Eng.T
namespace Go.Eng.T
abbrev SG (R:Rel):Prop:=∀a b c:Int,R [I a,I b,I c] [] (B (decide (b≤a∧a≤c))) []
theorem AFD (D:Dn):SG (Body D Abd):=by
 intro a b c
 by_cases h1:b≤a<;>by_cases h2:a≤c<;>simp -implicitDefEqProofs [h1,h2]
theorem Axy (D:Dn):SG (Body D TT):=by
 intro a b c
 by_cases h1:b≤a<;>by_cases h2:a≤c<;>simp -implicitDefEqProofs [h1,h2]
end Go.Eng.T
namespace Go.Eng.T
abbrev QH (R:Rel):Prop:=∀(xs:List Int) (l:Int),0≤l→l≤4194304→Jr xs→R [.sl 1 1 xs.length (ints xs),I l] [] (I (szl xs.length l)) []
theorem AAx (D:Dn):QH (Body D Vp):=by
 intro xs l h1 h2 h3
 have hw:IntKind.i64.wrap (l-(xs.length:Int))=l-xs.length:=by unfold Jr maxLen at h3;exact Ad (by omega) (by omega)
 by_cases h:l<xs.length
 ·have h':l-(xs.length:Int)<0:=by omega
  simp -implicitDefEqProofs [hw,h,h',szl]
 ·have h':¬l-(xs.length:Int)<0:=by omega
  simp -implicitDefEqProofs [hw,h,h',szl]
abbrev QX (R:Rel):Prop:=∀(xs:List Int),xs.length*8≤2 ^ 40→R [.sl 1 1 xs.length (ints xs)] [] (.sl 0 1 xs.length (ints xs)) []
theorem AAU (D:Dn):QX (Body D VA):=by
 intro xs hl
 have h1:((xs.length:Nat):Int)*8≤1099511627776:=by omega
 simp -implicitDefEqProofs [h1]
 refine Ae (fun k s=>∃j,j+k=xs.length∧s=⟨[.sl 1 1 xs.length (ints xs),.undef,.arr 0,.sc (.int .i64 j),.undef],[.arr 1 0 xs.length (ints (mix 0 xs j))]⟩) ?_ xs.length _ ⟨0,by simp,by simp[XC,ints]⟩
 intro k s ⟨j,hj,hs⟩
 subst hs
 by_cases hjn:j<xs.length
 ·have hw:IntKind.i64.wrap ((j:Int)+1)=(j+1:Nat):=by rw[Ad (by omega) (by omega)];simp
  simp -implicitDefEqProofs [hjn,Nat.le_of_lt hjn,AcL]
  exact⟨k-1,by omega,j+1,by omega,by simp[hw],rfl⟩
 ·have hje:mix 0 xs j=xs:=AcE (by omega)
  simp -implicitDefEqProofs [hjn,hje]
abbrev F4 (R:Rel):Prop:=∀(xs ys:List Int),xs.length≤maxLen→ys.length≤maxLen→R [.sl 1 1 xs.length (ints xs),.sl 1 1 ys.length (ints ys)] [] (B (decide (xs=ys))) []
theorem AzM (D:Dn):F4 (Body D Wl):=by
 intro xs ys h1 h2
 unfold maxLen at h1 h2
 by_cases hl:xs.length=ys.length
 ·have hl':(xs.length:Int)=ys.length:=by omega
  simp -implicitDefEqProofs [hl']
  refine Ae (fun k s=>∃j,j+k=xs.length∧xs.take j=ys.take j∧s=⟨[.sl 1 1 xs.length (ints xs),.sl 1 1 ys.length (ints ys),.undef,.sc (.int .i64 j),.undef,.undef,.undef],[]⟩) ?_ xs.length _ ⟨0,by simp,by simp,by simp⟩
  intro k s ⟨j,hj,hp,hs⟩
  subst hs
  by_cases hjn:j<xs.length
  ·have hw:IntKind.i64.wrap ((j:Int)+1)=(j+1:Nat):=by rw[Ad (by omega) (by omega)];simp
   have hy:j<ys.length:=by omega
   by_cases he:xs[j]=ys[j]
   ·simp -implicitDefEqProofs [hjn,hy,he]
    exact⟨k-1,by omega,j+1,by omega,J5 hjn hy hp he,by simp[hw]⟩
   ·have hne:xs≠ys:=fun h=>he (by simp[h])
    simp -implicitDefEqProofs [hjn,hy,he,hne]
  ·obtain rfl:xs=ys:=Mq (by omega) hl hp
   simp -implicitDefEqProofs [hjn]
 ·have hl':¬(xs.length:Int)=ys.length:=by omega
  have:xs≠ys:=fun h=>hl (by rw[h])
  simp -implicitDefEqProofs [hl',this]
end Go.Eng.T
namespace Go.Eng.T
abbrev AoI (R:Rel):Prop:=∀(x:Gu) (l:Int),0≤l→l≤4194304→Hw x→R [arg (CF x),I l] [] (I (szl (Ct x) l)) []
theorem ADO (D:Dn) (hszIntS:QH (D 16)):AoI (Body D Xq):=by
 intro x l hl1 hl2 hln
 simp only[Hw]at hln
 simp -implicitDefEqProofs
 refine Aa (hszIntS x.drops (l) (by omega) (by omega) hln.1) ?_
 by_cases g0:l<((x.drops.length:Nat):Int)
 ·have gg:l<((Ct x:Nat):Int):=by simp only[Ct];omega
  have e1:szl (x.drops.length) (l)= -1:=by unfold szl;rw[if_pos g0]
  have e2:szl (Ct x) l= -1:=by unfold szl;rw[if_pos gg]
  simp -implicitDefEqProofs [e1,e2]
 have e3:szl (x.drops.length) (l)=l-((x.drops.length:Nat):Int):=by unfold szl;rw[if_neg g0]
 have p0:¬l-((x.drops.length:Nat):Int)<0:=by omega
 simp -implicitDefEqProofs [e3,p0]
 refine Aa (hszIntS x.strips (l-((x.drops.length:Nat):Int)) (by omega) (by omega) hln.2) ?_
 by_cases g1:l-((x.drops.length:Nat):Int)<((x.strips.length:Nat):Int)
 ·have gg:l<((Ct x:Nat):Int):=by simp only[Ct];omega
  have e1:szl (x.strips.length) (l-((x.drops.length:Nat):Int))= -1:=by unfold szl;rw[if_pos g1]
  have e2:szl (Ct x) l= -1:=by unfold szl;rw[if_pos gg]
  simp -implicitDefEqProofs [e1,e2]
 have e4:szl (x.strips.length) (l-((x.drops.length:Nat):Int))=l-((x.drops.length:Nat):Int)-((x.strips.length:Nat):Int):=by unfold szl;rw[if_neg g1]
 have p1:¬l-((x.drops.length:Nat):Int)-((x.strips.length:Nat):Int)<0:=by omega
 simp -implicitDefEqProofs [e4,p1]
 have gg:¬l<((Ct x:Nat):Int):=by simp only[Ct];omega
 unfold szl;rw[if_neg gg];simp only[Ct]<;>omega
abbrev ApL (R:Rel):Prop:=∀x:Gu,Ct x≤4194304→R [arg (CF x)] [] (.agg (CF x)) []
theorem ADH (D:Dn) (htoIntS:QX (D 31)):ApL (Body D Xk):=by
 intro x h
 simp only[Ct]at h
 simp -implicitDefEqProofs
 refine Aa (htoIntS x.drops (by omega)) ?_
 simp -implicitDefEqProofs
 refine Aa (htoIntS x.strips (by omega)) ?_
 simp -implicitDefEqProofs
abbrev AoH (R:Rel):Prop:=∀x y:Gu,Ct x≤2 ^ 40→Ct y≤2 ^ 40→R [arg (CF x),arg (CF y)] [] (B (decide (x=y))) []
theorem ADb (D:Dn) (heqIntS:F4 (D 47)):AoH (Body D Xt):=by
 intro x y h1 h2
 simp only[Ct]at h1 h2
 by_cases g_limit:x.limit=y.limit
 rotate_left
 ·have hne:x≠y:=fun h=>g_limit (by rw[h])
  simp -implicitDefEqProofs [g_limit,hne]
 simp -implicitDefEqProofs [g_limit]
 refine Aa (heqIntS x.drops y.drops (by unfold maxLen;omega) (by unfold maxLen;omega)) ?_
 by_cases g_drops:x.drops=y.drops
 rotate_left
 ·have hne:x≠y:=fun h=>g_drops (by rw[h])
  simp -implicitDefEqProofs [g_drops,hne]
 simp -implicitDefEqProofs [g_drops]
 refine Aa (heqIntS x.strips y.strips (by unfold maxLen;omega) (by unfold maxLen;omega)) ?_
 by_cases g_strips:x.strips=y.strips
 rotate_left
 ·have hne:x≠y:=fun h=>g_strips (by rw[h])
  simp -implicitDefEqProofs [g_strips,hne]
 simp -implicitDefEqProofs [g_strips]
 by_cases g_lists:x.lists=y.lists
 rotate_left
 ·have hne:x≠y:=fun h=>g_lists (by rw[h])
  simp -implicitDefEqProofs [g_lists,hne]
 simp -implicitDefEqProofs [g_lists]
 have hxy:x=y:=by cases x;cases y;simp_all
 simp -implicitDefEqProofs [hxy]
abbrev AGL (R:Rel):Prop:=∀(x:Event) (l:Int),0≤l→l≤4194304→AEb x→R [arg (CY x),I l] [] (I (szl (Aic x) l)) []
abbrev AG5 (R:Rel):Prop:=∀x:Event,Aic x≤4194304→R [arg (CY x)] [] (.agg (CY x)) []
abbrev AGM (R:Rel):Prop:=∀x y:Event,Aic x≤2 ^ 40→Aic y≤2 ^ 40→R [arg (CY x),arg (CY y)] [] (B (decide (x=y))) []
end Go.Eng.T
namespace Go.Eng.T
abbrev AhZ (R:Rel):Prop:=∀xs ys:List Gu,Bw Ct xs≤2 ^ 40→Bw Ct ys≤2 ^ 40→R [.sl 1 4 xs.length (xs.flatMap CF),.sl 1 4 ys.length (ys.flatMap CF)] [] (B (decide (xs=ys))) []
theorem AA3 (D:Dn) (heq:AoH (D 249)):AhZ (Body D V4):=by
 intro xs ys h1 h2
 have hlen:=IK (f:=Ct) (xs:=xs)
 by_cases hl:xs.length=ys.length
 ·have hl':(xs.length:Int)=ys.length:=by omega
  simp -implicitDefEqProofs [hl']
  refine Ae (fun k s=>∃j,j+k=xs.length∧xs.take j=ys.take j∧s=⟨[.sl 1 4 xs.length (xs.flatMap CF),.sl 1 4 ys.length (ys.flatMap CF),.undef,.sc (.int .i64 j),.undef,.undef,.undef],[]⟩) ?_ xs.length _ ⟨0,by simp,by simp,by simp⟩
  intro k s ⟨j,hj,hp,hs⟩
  subst hs
  by_cases hjn:j<xs.length
  ·have hw:IntKind.i64.wrap ((j:Int)+1)=(j+1:Nat):=by rw[Ad (by omega) (by omega)];simp
   have hy:j<ys.length:=by omega
   have hsx:=size_at (f:=Ct) hjn
   have hsy:=size_at (f:=Ct) hy
   simp -implicitDefEqProofs [hjn,hy]
   refine Aa (heq xs[j] ys[j] (by omega) (by omega)) ?_
   by_cases he:xs[j]=ys[j]
   ·simp -implicitDefEqProofs [he]
    exact⟨k-1,by omega,j+1,by omega,J5 hjn hy hp he,by simp[hw]⟩
   ·have hne:xs≠ys:=fun h=>he (by simp[h])
    simp -implicitDefEqProofs [he,hne]
  ·obtain rfl:xs=ys:=Mq (by omega) hl hp
   simp -implicitDefEqProofs [hjn]
 ·have hl':¬(xs.length:Int)=ys.length:=by omega
  have:xs≠ys:=fun h=>hl (by rw[h])
  simp -implicitDefEqProofs [hl',this]
abbrev SQ (R:Rel):Prop:=∀x y:AL,Ac x≤2 ^ 40→Ac y≤2 ^ 40→R [arg (Ak x),arg (Ak y)] [] (B (decide (x=y))) []
theorem App (D:Dn) (heqIntS:F4 (D 47)) (heqBoxS:AhZ (D 204)):SQ (Body D NR):=by
 intro x y h1 h2
 simp only[Ac]at h1 h2
 simp -implicitDefEqProofs
 refine Aa (heqIntS x.versions y.versions (by unfold maxLen;omega) (by unfold maxLen;omega)) ?_
 by_cases g_versions:x.versions=y.versions
 rotate_left
 ·have hne:x≠y:=fun h=>g_versions (by rw[h])
  simp -implicitDefEqProofs [g_versions,hne]
 simp -implicitDefEqProofs [g_versions]
 refine Aa (heqIntS x.tags y.tags (by unfold maxLen;omega) (by unfold maxLen;omega)) ?_
 by_cases g_tags:x.tags=y.tags
 rotate_left
 ·have hne:x≠y:=fun h=>g_tags (by rw[h])
  simp -implicitDefEqProofs [g_tags,hne]
 simp -implicitDefEqProofs [g_tags]
 refine Aa (heqBoxS x.path y.path (by omega) (by omega)) ?_
 by_cases g_path:x.path=y.path
 rotate_left
 ·have hne:x≠y:=fun h=>g_path (by rw[h])
  simp -implicitDefEqProofs [g_path,hne]
 simp -implicitDefEqProofs [g_path]
 by_cases g_cls:x.cls=y.cls
 rotate_left
 ·have hne:x≠y:=fun h=>g_cls (by rw[h])
  simp -implicitDefEqProofs [g_cls,hne]
 simp -implicitDefEqProofs [g_cls]
 have hxy:x=y:=by cases x;cases y;simp_all
 simp -implicitDefEqProofs [hxy]
abbrev QM (R:Rel):Prop:=∀xs ys:List AL,Bw Ac xs≤2 ^ 40→Bw Ac ys≤2 ^ 40→R [.sl 1 4 xs.length (xs.flatMap Ak),.sl 1 4 ys.length (ys.flatMap Ak)] [] (B (decide (xs=ys))) []
theorem Ani (D:Dn) (heq:SQ (D 134)):QM (Body D MI):=by
 intro xs ys h1 h2
 have hlen:=IK (f:=Ac) (xs:=xs)
 by_cases hl:xs.length=ys.length
 ·have hl':(xs.length:Int)=ys.length:=by omega
  simp -implicitDefEqProofs [hl']
  refine Ae (fun k s=>∃j,j+k=xs.length∧xs.take j=ys.take j∧s=⟨[.sl 1 4 xs.length (xs.flatMap Ak),.sl 1 4 ys.length (ys.flatMap Ak),.undef,.sc (.int .i64 j),.undef,.undef,.undef],[]⟩) ?_ xs.length _ ⟨0,by simp,by simp,by simp⟩
  intro k s ⟨j,hj,hp,hs⟩
  subst hs
  by_cases hjn:j<xs.length
  ·have hw:IntKind.i64.wrap ((j:Int)+1)=(j+1:Nat):=by rw[Ad (by omega) (by omega)];simp
   have hy:j<ys.length:=by omega
   have hsx:=size_at (f:=Ac) hjn
   have hsy:=size_at (f:=Ac) hy
   simp -implicitDefEqProofs [hjn,hy]
   refine Aa (heq xs[j] ys[j] (by omega) (by omega)) ?_
   by_cases he:xs[j]=ys[j]
   ·simp -implicitDefEqProofs [he]
    exact⟨k-1,by omega,j+1,by omega,J5 hjn hy hp he,by simp[hw]⟩
   ·have hne:xs≠ys:=fun h=>he (by simp[h])
    simp -implicitDefEqProofs [he,hne]
  ·obtain rfl:xs=ys:=Mq (by omega) hl hp
   simp -implicitDefEqProofs [hjn]
 ·have hl':¬(xs.length:Int)=ys.length:=by omega
  have:xs≠ys:=fun h=>hl (by rw[h])
  simp -implicitDefEqProofs [hl',this]
end Go.Eng.T
namespace Go.Eng.T
abbrev Ah4 (R:Rel):Prop:=∀xs:List Gu,Bw Ct xs≤4194304→R [.sl 1 4 xs.length (xs.flatMap CF)] [] (.sl 0 4 xs.length (xs.flatMap CF)) []
theorem AAh (D:Dn) (hto:ApL (D 226)):Ah4 (Body D Vv):=by
 intro xs h
 have hlen:=IK (f:=Ct) (xs:=xs)
 have h1:((xs.length:Nat):Int)*64≤1099511627776:=by omega
 simp -implicitDefEqProofs [h1]
 refine Ae (fun k s=>∃j o1 o2,j+k=xs.length∧s=⟨[.sl 1 4 xs.length (xs.flatMap CF),.undef,.arr 0,.sc (.int .i64 j),.undef],[.arr 4 0 xs.length ((mix (⟨0,[],[],false⟩:Gu) xs j).flatMap CF),o1,o2]⟩) ?_ xs.length _ ⟨0,.free,.free,by simp,by simp[XC];exact Adx (f:=CF) (⟨0,[],[],false⟩:Gu) _⟩
 intro k s ⟨j,o1,o2,hj,hs⟩
 subst hs
 by_cases hjn:j<xs.length
 ·have hw:IntKind.i64.wrap ((j:Int)+1)=(j+1:Nat):=by rw[Ad (by omega) (by omega)];simp
  have hsz:=size_at (f:=Ct) hjn
  have hfit:j*4+4≤xs.length*4:=by omega
  have hjl:j≤xs.length:=by omega
  simp -implicitDefEqProofs [hjn]
  refine Aa (hto xs[j] (by omega)) ?_
  simp -implicitDefEqProofs [hjn,hfit,hjl]
  exact⟨k-1,by omega,j+1,by omega,by simp[hw],by rw[←AcL hjn]⟩
 ·have hje:mix (⟨0,[],[],false⟩:Gu) xs j=xs:=AcE (by omega)
  simp -implicitDefEqProofs [hjn,hje]
abbrev AhY (R:Rel):Prop:=∀(xs:List Gu) (l:Int),0≤l→l≤4194304→lnS Hw xs→R [.sl 1 4 xs.length (xs.flatMap CF),I l] [] (I (szl (Bw Ct xs) l)) []
theorem AAB (D:Dn) (hsz:AoI (D 206)):AhY (Body D VE):=by
 intro xs l h1 h2 hln
 have h3:=hln.1
 unfold maxLen at h3
 have hw:IntKind.i64.wrap (l-(xs.length:Int))=l-xs.length:=Ad (by omega) (by omega)
 by_cases h:l<(xs.length:Int)
 ·have h':l-(xs.length:Int)<0:=by omega
  have e2:szl (Bw Ct xs) l= -1:=by unfold szl Bw;rw[if_pos (by omega)]
  simp -implicitDefEqProofs [hw,h',e2]
 ·have h':¬l-(xs.length:Int)<0:=by omega
  simp -implicitDefEqProofs [hw,h']
  refine Ae (fun k s=>∃j,j+k=xs.length∧((xs.take j).map Ct).sum+xs.length≤l∧s=⟨[.sl 1 4 xs.length (xs.flatMap CF),.sc (.int .i64 (l-xs.length-((((xs.take j).map Ct).sum:Nat):Int))),.undef,.sc (.int .i64 j),.undef,.undef,.undef],[]⟩) ?_ xs.length _ ⟨0,by simp,by simp;omega,by simp⟩
  intro k s ⟨j,hj,hp,hs⟩
  subst hs
  by_cases hjn:j<xs.length
  ·have hw:IntKind.i64.wrap ((j:Int)+1)=(j+1:Nat):=by rw[Ad (by omega) (by omega)];simp
   have ht:=Ye (f:=Ct) hjn
   have htl:=OT (f:=Ct) (xs:=xs) (j:=j+1)
   simp -implicitDefEqProofs [hjn, -List.map_take]
   refine Aa (hsz xs[j] _ (by omega) (by omega) (hln.2 j hjn)) ?_
   by_cases he:l-xs.length-((((xs.take j).map Ct).sum:Nat):Int)<Ct xs[j]
   ·have e1:szl (Ct xs[j]) (l-xs.length-((((xs.take j).map Ct).sum:Nat):Int))= -1:=by unfold szl;rw[if_pos he]
    have e2:szl (Bw Ct xs) l= -1:=by unfold szl Bw;rw[if_pos (by omega)]
    simp -implicitDefEqProofs [e1,e2, -List.map_take]
   ·have e1:szl (Ct xs[j]) (l-xs.length-((((xs.take j).map Ct).sum:Nat):Int))=l-xs.length-((((xs.take j).map Ct).sum:Nat):Int)-Ct xs[j]:=by unfold szl;rw[if_neg he]
    have e3:¬l-xs.length-((((xs.take j).map Ct).sum:Nat):Int)-Ct xs[j]<0:=by omega
    simp -implicitDefEqProofs [e1,e3, -List.map_take]
    refine⟨k-1,by omega,j+1,by omega,by omega,?_,by simp[hw]⟩
    rw[ht];omega
  ·have hsm:=Ah2 (f:=Ct) (xs:=xs) (j:=j) (by omega)
   have e2:szl (Bw Ct xs) l=l-xs.length-((((xs.take j).map Ct).sum:Nat):Int):=by unfold szl Bw;rw[if_neg (by omega)];omega
   simp -implicitDefEqProofs [hjn,e2, -List.map_take]
abbrev Tj (R:Rel):Prop:=∀(x:AL) (l:Int),0≤l→l≤4194304→Ir x→R [arg (Ak x),I l] [] (I (szl (Ac x) l)) []
theorem Aqj (D:Dn) (hszIntS:QH (D 16)) (hszBoxS:AhY (D 139)):Tj (Body D Nu):=by
 intro x l hl1 hl2 hln
 simp only[Ir]at hln
 simp -implicitDefEqProofs
 refine Aa (hszIntS x.versions (l) (by omega) (by omega) hln.1) ?_
 by_cases g0:l<((x.versions.length:Nat):Int)
 ·have gg:l<((Ac x:Nat):Int):=by simp only[Ac];omega
  have e1:szl (x.versions.length) (l)= -1:=by unfold szl;rw[if_pos g0]
  have e2:szl (Ac x) l= -1:=by unfold szl;rw[if_pos gg]
  simp -implicitDefEqProofs [e1,e2]
 have e3:szl (x.versions.length) (l)=l-((x.versions.length:Nat):Int):=by unfold szl;rw[if_neg g0]
 have p0:¬l-((x.versions.length:Nat):Int)<0:=by omega
 simp -implicitDefEqProofs [e3,p0]
 refine Aa (hszIntS x.tags (l-((x.versions.length:Nat):Int)) (by omega) (by omega) hln.2.1) ?_
 by_cases g1:l-((x.versions.length:Nat):Int)<((x.tags.length:Nat):Int)
 ·have gg:l<((Ac x:Nat):Int):=by simp only[Ac];omega
  have e1:szl (x.tags.length) (l-((x.versions.length:Nat):Int))= -1:=by unfold szl;rw[if_pos g1]
  have e2:szl (Ac x) l= -1:=by unfold szl;rw[if_pos gg]
  simp -implicitDefEqProofs [e1,e2]
 have e4:szl (x.tags.length) (l-((x.versions.length:Nat):Int))=l-((x.versions.length:Nat):Int)-((x.tags.length:Nat):Int):=by unfold szl;rw[if_neg g1]
 have p1:¬l-((x.versions.length:Nat):Int)-((x.tags.length:Nat):Int)<0:=by omega
 simp -implicitDefEqProofs [e4,p1]
 refine Aa (hszBoxS x.path (l-((x.versions.length:Nat):Int)-((x.tags.length:Nat):Int)) (by omega) (by omega) hln.2.2) ?_
 by_cases g2:l-((x.versions.length:Nat):Int)-((x.tags.length:Nat):Int)<((Bw Ct x.path:Nat):Int)
 ·have gg:l<((Ac x:Nat):Int):=by simp only[Ac];omega
  have e1:szl (Bw Ct x.path) (l-((x.versions.length:Nat):Int)-((x.tags.length:Nat):Int))= -1:=by unfold szl;rw[if_pos g2]
  have e2:szl (Ac x) l= -1:=by unfold szl;rw[if_pos gg]
  simp -implicitDefEqProofs [e1,e2]
 have e5:szl (Bw Ct x.path) (l-((x.versions.length:Nat):Int)-((x.tags.length:Nat):Int))=l-((x.versions.length:Nat):Int)-((x.tags.length:Nat):Int)-((Bw Ct x.path:Nat):Int):=by unfold szl;rw[if_neg g2]
 have p2:¬l-((x.versions.length:Nat):Int)-((x.tags.length:Nat):Int)-((Bw Ct x.path:Nat):Int)<0:=by omega
 simp -implicitDefEqProofs [e5,p2]
 have gg:¬l<((Ac x:Nat):Int):=by simp only[Ac];omega
 unfold szl;rw[if_neg gg];simp only[Ac]<;>omega
abbrev Tk (R:Rel):Prop:=∀x:AL,Ac x≤4194304→R [arg (Ak x)] [] (.agg (Ak x)) []
theorem ApN (D:Dn) (htoIntS:QX (D 31)) (htoBoxS:Ah4 (D 170)):Tk (Body D NK):=by
 intro x h
 simp only[Ac]at h
 simp -implicitDefEqProofs
 refine Aa (htoIntS x.versions (by omega)) ?_
 simp -implicitDefEqProofs
 refine Aa (htoIntS x.tags (by omega)) ?_
 simp -implicitDefEqProofs
 refine Aa (htoBoxS x.path (by omega)) ?_
 simp -implicitDefEqProofs
abbrev QZ (R:Rel):Prop:=∀(xs:List AL) (l:Int),0≤l→l≤4194304→lnS Ir xs→R [.sl 1 4 xs.length (xs.flatMap Ak),I l] [] (I (szl (Bw Ac xs) l)) []
theorem Al9 (D:Dn) (hsz:Tj (D 62)):QZ (Body D M5):=by
 intro xs l h1 h2 hln
 have h3:=hln.1
 unfold maxLen at h3
 have hw:IntKind.i64.wrap (l-(xs.length:Int))=l-xs.length:=Ad (by omega) (by omega)
 by_cases h:l<(xs.length:Int)
 ·have h':l-(xs.length:Int)<0:=by omega
  have e2:szl (Bw Ac xs) l= -1:=by unfold szl Bw;rw[if_pos (by omega)]
  simp -implicitDefEqProofs [hw,h',e2]
 ·have h':¬l-(xs.length:Int)<0:=by omega
  simp -implicitDefEqProofs [hw,h']
  refine Ae (fun k s=>∃j,j+k=xs.length∧((xs.take j).map Ac).sum+xs.length≤l∧s=⟨[.sl 1 4 xs.length (xs.flatMap Ak),.sc (.int .i64 (l-xs.length-((((xs.take j).map Ac).sum:Nat):Int))),.undef,.sc (.int .i64 j),.undef,.undef,.undef],[]⟩) ?_ xs.length _ ⟨0,by simp,by simp;omega,by simp⟩
  intro k s ⟨j,hj,hp,hs⟩
  subst hs
  by_cases hjn:j<xs.length
  ·have hw:IntKind.i64.wrap ((j:Int)+1)=(j+1:Nat):=by rw[Ad (by omega) (by omega)];simp
   have ht:=Ye (f:=Ac) hjn
   have htl:=OT (f:=Ac) (xs:=xs) (j:=j+1)
   simp -implicitDefEqProofs [hjn, -List.map_take]
   refine Aa (hsz xs[j] _ (by omega) (by omega) (hln.2 j hjn)) ?_
   by_cases he:l-xs.length-((((xs.take j).map Ac).sum:Nat):Int)<Ac xs[j]
   ·have e1:szl (Ac xs[j]) (l-xs.length-((((xs.take j).map Ac).sum:Nat):Int))= -1:=by unfold szl;rw[if_pos he]
    have e2:szl (Bw Ac xs) l= -1:=by unfold szl Bw;rw[if_pos (by omega)]
    simp -implicitDefEqProofs [e1,e2, -List.map_take]
   ·have e1:szl (Ac xs[j]) (l-xs.length-((((xs.take j).map Ac).sum:Nat):Int))=l-xs.length-((((xs.take j).map Ac).sum:Nat):Int)-Ac xs[j]:=by unfold szl;rw[if_neg he]
    have e3:¬l-xs.length-((((xs.take j).map Ac).sum:Nat):Int)-Ac xs[j]<0:=by omega
    simp -implicitDefEqProofs [e1,e3, -List.map_take]
    refine⟨k-1,by omega,j+1,by omega,by omega,?_,by simp[hw]⟩
    rw[ht];omega
  ·have hsm:=Ah2 (f:=Ac) (xs:=xs) (j:=j) (by omega)
   have e2:szl (Bw Ac xs) l=l-xs.length-((((xs.take j).map Ac).sum:Nat):Int):=by unfold szl Bw;rw[if_neg (by omega)];omega
   simp -implicitDefEqProofs [hjn,e2, -List.map_take]
abbrev QG (R:Rel):Prop:=∀xs:List AL,Bw Ac xs≤4194304→R [.sl 1 4 xs.length (xs.flatMap Ak)] [] (.sl 0 4 xs.length (xs.flatMap Ak)) []
theorem Ame (D:Dn) (hto:Tk (D 98)):QG (Body D MX):=by
 intro xs h
 have hlen:=IK (f:=Ac) (xs:=xs)
 have h1:((xs.length:Nat):Int)*80≤1099511627776:=by omega
 simp -implicitDefEqProofs [h1]
 refine Ae (fun k s=>∃j o1 o2 o3,j+k=xs.length∧s=⟨[.sl 1 4 xs.length (xs.flatMap Ak),.undef,.arr 0,.sc (.int .i64 j),.undef],[.arr 4 0 xs.length ((mix (⟨[],[],[],0⟩:AL) xs j).flatMap Ak),o1,o2,o3]⟩) ?_ xs.length _ ⟨0,.free,.free,.free,by simp,by simp[XC];exact Adx (f:=Ak) (⟨[],[],[],0⟩:AL) _⟩
 intro k s ⟨j,o1,o2,o3,hj,hs⟩
 subst hs
 by_cases hjn:j<xs.length
 ·have hw:IntKind.i64.wrap ((j:Int)+1)=(j+1:Nat):=by rw[Ad (by omega) (by omega)];simp
  have hsz:=size_at (f:=Ac) hjn
  have hfit:j*4+4≤xs.length*4:=by omega
  have hjl:j≤xs.length:=by omega
  simp -implicitDefEqProofs [hjn]
  refine Aa (hto xs[j] (by omega)) ?_
  simp -implicitDefEqProofs [hjn,hfit,hjl]
  exact⟨k-1,by omega,j+1,by omega,by simp[hw],by rw[←AcL hjn]⟩
 ·have hje:mix (⟨[],[],[],0⟩:AL) xs j=xs:=AcE (by omega)
  simp -implicitDefEqProofs [hjn,hje]
abbrev V8 (R:Rel):Prop:=∀(x:EH) (l:Int),0≤l→l≤4194304→YH x→R [arg (Gx x),I l] [] (I (szl (Bg x) l)) []
theorem Arz (D:Dn) (hszIntS:QH (D 16)):V8 (Body D Ql):=by
 intro x l hl1 hl2 hln
 simp only[YH]at hln
 simp -implicitDefEqProofs
 refine Aa (hszIntS x.stages (l) (by omega) (by omega) hln) ?_
 by_cases g0:l<((x.stages.length:Nat):Int)
 ·have gg:l<((Bg x:Nat):Int):=by simp only[Bg];omega
  have e1:szl (x.stages.length) (l)= -1:=by unfold szl;rw[if_pos g0]
  have e2:szl (Bg x) l= -1:=by unfold szl;rw[if_pos gg]
  simp -implicitDefEqProofs [e1,e2]
 have e3:szl (x.stages.length) (l)=l-((x.stages.length:Nat):Int):=by unfold szl;rw[if_neg g0]
 have p0:¬l-((x.stages.length:Nat):Int)<0:=by omega
 simp -implicitDefEqProofs [e3,p0]
 have gg:¬l<((Bg x:Nat):Int):=by simp only[Bg];omega
 unfold szl;rw[if_neg gg];simp only[Bg]<;>omega
abbrev Vs (R:Rel):Prop:=∀x:EH,Bg x≤4194304→R [arg (Gx x)] [] (.agg (Gx x)) []
theorem AqQ (D:Dn) (htoIntS:QX (D 31)):Vs (Body D PI):=by
 intro x h
 simp only[Bg]at h
 simp -implicitDefEqProofs
 refine Aa (htoIntS x.stages (by omega)) ?_
 simp -implicitDefEqProofs
abbrev Vl (R:Rel):Prop:=∀x y:EH,Bg x≤2 ^ 40→Bg y≤2 ^ 40→R [arg (Gx x),arg (Gx y)] [] (B (decide (x=y))) []
theorem Aq0 (D:Dn) (heqIntS:F4 (D 47)):Vl (Body D Px):=by
 intro x y h1 h2
 simp only[Bg]at h1 h2
 by_cases g_version:x.version=y.version
 rotate_left
 ·have hne:x≠y:=fun h=>g_version (by rw[h])
  simp -implicitDefEqProofs [g_version,hne]
 simp -implicitDefEqProofs [g_version]
 refine Aa (heqIntS x.stages y.stages (by unfold maxLen;omega) (by unfold maxLen;omega)) ?_
 by_cases g_stages:x.stages=y.stages
 rotate_left
 ·have hne:x≠y:=fun h=>g_stages (by rw[h])
  simp -implicitDefEqProofs [g_stages,hne]
 simp -implicitDefEqProofs [g_stages]
 by_cases g_pos:x.pos=y.pos
 rotate_left
 ·have hne:x≠y:=fun h=>g_pos (by rw[h])
  simp -implicitDefEqProofs [g_pos,hne]
 simp -implicitDefEqProofs [g_pos]
 by_cases g_off:x.off=y.off
 rotate_left
 ·have hne:x≠y:=fun h=>g_off (by rw[h])
  simp -implicitDefEqProofs [g_off,hne]
 simp -implicitDefEqProofs [g_off]
 have hxy:x=y:=by cases x;cases y;simp_all
 simp -implicitDefEqProofs [hxy]
end Go.Eng.T
namespace Go.Eng.T
abbrev Aig (R:Rel):Prop:=∀(x:AfW) (l:Int),0≤l→l≤4194304→ApE x→R [arg (X7 x),I l] [] (I (szl (E9 x) l)) []
theorem AAC (D:Dn) (hszIntS:QH (D 16)):Aig (Body D VY):=by
 intro x l hl1 hl2 hln
 simp only[ApE]at hln
 simp -implicitDefEqProofs
 refine Aa (hszIntS x.tags (l) (by omega) (by omega) hln) ?_
 by_cases g0:l<((x.tags.length:Nat):Int)
 ·have gg:l<((E9 x:Nat):Int):=by simp only[E9];omega
  have e1:szl (x.tags.length) (l)= -1:=by unfold szl;rw[if_pos g0]
  have e2:szl (E9 x) l= -1:=by unfold szl;rw[if_pos gg]
  simp -implicitDefEqProofs [e1,e2]
 have e3:szl (x.tags.length) (l)=l-((x.tags.length:Nat):Int):=by unfold szl;rw[if_neg g0]
 have p0:¬l-((x.tags.length:Nat):Int)<0:=by omega
 simp -implicitDefEqProofs [e3,p0]
 have gg:¬l<((E9 x:Nat):Int):=by simp only[E9];omega
 unfold szl;rw[if_neg gg];simp only[E9]<;>omega
abbrev Ah1 (R:Rel):Prop:=∀x:AfW,E9 x≤4194304→R [arg (X7 x)] [] (.agg (X7 x)) []
theorem AB0 (D:Dn) (htoIntS:QX (D 31)):Ah1 (Body D Vj):=by
 intro x h
 simp only[E9]at h
 simp -implicitDefEqProofs
 refine Aa (htoIntS x.tags (by omega)) ?_
 simp -implicitDefEqProofs
abbrev Aih (R:Rel):Prop:=∀x y:AfW,E9 x≤2 ^ 40→E9 y≤2 ^ 40→R [arg (X7 x),arg (X7 y)] [] (B (decide (x=y))) []
theorem ABl (D:Dn) (heqIntS:F4 (D 47)):Aih (Body D Vi):=by
 intro x y h1 h2
 simp only[E9]at h1 h2
 by_cases g_ok:x.ok=y.ok
 rotate_left
 ·have hne:x≠y:=fun h=>g_ok (by rw[h])
  simp -implicitDefEqProofs [g_ok,hne]
 simp -implicitDefEqProofs [g_ok]
 by_cases g_version:x.version=y.version
 rotate_left
 ·have hne:x≠y:=fun h=>g_version (by rw[h])
  simp -implicitDefEqProofs [g_version,hne]
 simp -implicitDefEqProofs [g_version]
 refine Aa (heqIntS x.tags y.tags (by unfold maxLen;omega) (by unfold maxLen;omega)) ?_
 by_cases g_tags:x.tags=y.tags
 rotate_left
 ·have hne:x≠y:=fun h=>g_tags (by rw[h])
  simp -implicitDefEqProofs [g_tags,hne]
 simp -implicitDefEqProofs [g_tags]
 have hxy:x=y:=by cases x;cases y;simp_all
 simp -implicitDefEqProofs [hxy]
abbrev UW (R:Rel):Prop:=∀(x:Cw) (l:Int),0≤l→l≤4194304→OV x→R [arg (AP x),I l] [] (I (szl (Al x) l)) []
theorem AuW (D:Dn) (hszDeal:Aig (D 140)) (hszIntS:QH (D 16)):UW (Body D RX):=by
 intro x l hl1 hl2 hln
 simp only[OV]at hln
 simp -implicitDefEqProofs
 refine Aa (hszDeal x.deal (l) (by omega) (by omega) hln.1) ?_
 by_cases g0:l<((E9 x.deal:Nat):Int)
 ·have gg:l<((Al x:Nat):Int):=by simp only[Al];omega
  have e1:szl (E9 x.deal) (l)= -1:=by unfold szl;rw[if_pos g0]
  have e2:szl (Al x) l= -1:=by unfold szl;rw[if_pos gg]
  simp -implicitDefEqProofs [e1,e2]
 have e3:szl (E9 x.deal) (l)=l-((E9 x.deal:Nat):Int):=by unfold szl;rw[if_neg g0]
 have p0:¬l-((E9 x.deal:Nat):Int)<0:=by omega
 simp -implicitDefEqProofs [e3,p0]
 refine Aa (hszIntS x.up (l-((E9 x.deal:Nat):Int)) (by omega) (by omega) hln.2) ?_
 by_cases g1:l-((E9 x.deal:Nat):Int)<((x.up.length:Nat):Int)
 ·have gg:l<((Al x:Nat):Int):=by simp only[Al];omega
  have e1:szl (x.up.length) (l-((E9 x.deal:Nat):Int))= -1:=by unfold szl;rw[if_pos g1]
  have e2:szl (Al x) l= -1:=by unfold szl;rw[if_pos gg]
  simp -implicitDefEqProofs [e1,e2]
 have e4:szl (x.up.length) (l-((E9 x.deal:Nat):Int))=l-((E9 x.deal:Nat):Int)-((x.up.length:Nat):Int):=by unfold szl;rw[if_neg g1]
 have p1:¬l-((E9 x.deal:Nat):Int)-((x.up.length:Nat):Int)<0:=by omega
 simp -implicitDefEqProofs [e4,p1]
 have gg:¬l<((Al x:Nat):Int):=by simp only[Al];omega
 unfold szl;rw[if_neg gg];simp only[Al]<;>omega
abbrev Vf (R:Rel):Prop:=∀x:Cw,Al x≤4194304→R [arg (AP x)] [] (.agg (AP x)) []
theorem Avb (D:Dn) (htoDeal:Ah1 (D 171)) (htoIntS:QX (D 31)):Vf (Body D RS):=by
 intro x h
 simp only[Al]at h
 simp -implicitDefEqProofs
 refine Aa (htoDeal x.deal (by omega)) ?_
 simp -implicitDefEqProofs
 refine Aa (htoIntS x.up (by omega)) ?_
 simp -implicitDefEqProofs
abbrev Ve (R:Rel):Prop:=∀x y:Cw,Al x≤2 ^ 40→Al y≤2 ^ 40→R [arg (AP x),arg (AP y)] [] (B (decide (x=y))) []
theorem Avp (D:Dn) (heqDeal:Aih (D 205)) (heqIntS:F4 (D 47)):Ve (Body D R7):=by
 intro x y h1 h2
 simp only[Al]at h1 h2
 simp -implicitDefEqProofs
 refine Aa (heqDeal x.deal y.deal (by omega) (by omega)) ?_
 by_cases g_deal:x.deal=y.deal
 rotate_left
 ·have hne:x≠y:=fun h=>g_deal (by rw[h])
  simp -implicitDefEqProofs [g_deal,hne]
 simp -implicitDefEqProofs [g_deal]
 by_cases g_tries:x.tries=y.tries
 rotate_left
 ·have hne:x≠y:=fun h=>g_tries (by rw[h])
  simp -implicitDefEqProofs [g_tries,hne]
 simp -implicitDefEqProofs [g_tries]
 refine Aa (heqIntS x.up y.up (by unfold maxLen;omega) (by unfold maxLen;omega)) ?_
 by_cases g_up:x.up=y.up
 rotate_left
 ·have hne:x≠y:=fun h=>g_up (by rw[h])
  simp -implicitDefEqProofs [g_up,hne]
 simp -implicitDefEqProofs [g_up]
 have hxy:x=y:=by cases x;cases y;simp_all
 simp -implicitDefEqProofs [hxy]
end Go.Eng.T
namespace Go.Eng.T
abbrev V9 (R:Rel):Prop:=∀(xs:List Cw) (l:Int),0≤l→l≤4194304→lnS OV xs→R [.sl 1 5 xs.length (xs.flatMap AP),I l] [] (I (szl (Bw Al xs) l)) []
theorem Arx (D:Dn) (hsz:UW (D 63)):V9 (Body D QA):=by
 intro xs l h1 h2 hln
 have h3:=hln.1
 unfold maxLen at h3
 have hw:IntKind.i64.wrap (l-(xs.length:Int))=l-xs.length:=Ad (by omega) (by omega)
 by_cases h:l<(xs.length:Int)
 ·have h':l-(xs.length:Int)<0:=by omega
  have e2:szl (Bw Al xs) l= -1:=by unfold szl Bw;rw[if_pos (by omega)]
  simp -implicitDefEqProofs [hw,h',e2]
 ·have h':¬l-(xs.length:Int)<0:=by omega
  simp -implicitDefEqProofs [hw,h']
  refine Ae (fun k s=>∃j,j+k=xs.length∧((xs.take j).map Al).sum+xs.length≤l∧s=⟨[.sl 1 5 xs.length (xs.flatMap AP),.sc (.int .i64 (l-xs.length-((((xs.take j).map Al).sum:Nat):Int))),.undef,.sc (.int .i64 j),.undef,.undef,.undef],[]⟩) ?_ xs.length _ ⟨0,by simp,by simp;omega,by simp⟩
  intro k s ⟨j,hj,hp,hs⟩
  subst hs
  by_cases hjn:j<xs.length
  ·have hw:IntKind.i64.wrap ((j:Int)+1)=(j+1:Nat):=by rw[Ad (by omega) (by omega)];simp
   have ht:=Ye (f:=Al) hjn
   have htl:=OT (f:=Al) (xs:=xs) (j:=j+1)
   simp -implicitDefEqProofs [hjn, -List.map_take]
   refine Aa (hsz xs[j] _ (by omega) (by omega) (hln.2 j hjn)) ?_
   by_cases he:l-xs.length-((((xs.take j).map Al).sum:Nat):Int)<Al xs[j]
   ·have e1:szl (Al xs[j]) (l-xs.length-((((xs.take j).map Al).sum:Nat):Int))= -1:=by unfold szl;rw[if_pos he]
    have e2:szl (Bw Al xs) l= -1:=by unfold szl Bw;rw[if_pos (by omega)]
    simp -implicitDefEqProofs [e1,e2, -List.map_take]
   ·have e1:szl (Al xs[j]) (l-xs.length-((((xs.take j).map Al).sum:Nat):Int))=l-xs.length-((((xs.take j).map Al).sum:Nat):Int)-Al xs[j]:=by unfold szl;rw[if_neg he]
    have e3:¬l-xs.length-((((xs.take j).map Al).sum:Nat):Int)-Al xs[j]<0:=by omega
    simp -implicitDefEqProofs [e1,e3, -List.map_take]
    refine⟨k-1,by omega,j+1,by omega,by omega,?_,by simp[hw]⟩
    rw[ht];omega
  ·have hsm:=Ah2 (f:=Al) (xs:=xs) (j:=j) (by omega)
   have e2:szl (Bw Al xs) l=l-xs.length-((((xs.take j).map Al).sum:Nat):Int):=by unfold szl Bw;rw[if_neg (by omega)];omega
   simp -implicitDefEqProofs [hjn,e2, -List.map_take]
abbrev VW (R:Rel):Prop:=∀xs:List Cw,Bw Al xs≤4194304→R [.sl 1 5 xs.length (xs.flatMap AP)] [] (.sl 0 5 xs.length (xs.flatMap AP)) []
theorem ArK (D:Dn) (hto:Vf (D 99)):VW (Body D Pp):=by
 intro xs h
 have hlen:=IK (f:=Al) (xs:=xs)
 have h1:((xs.length:Nat):Int)*72≤1099511627776:=by omega
 simp -implicitDefEqProofs [h1]
 refine Ae (fun k s=>∃j o1 o2,j+k=xs.length∧s=⟨[.sl 1 5 xs.length (xs.flatMap AP),.undef,.arr 0,.sc (.int .i64 j),.undef],[.arr 5 0 xs.length ((mix (⟨⟨false,0,[]⟩,0,[]⟩:Cw) xs j).flatMap AP),o1,o2]⟩) ?_ xs.length _ ⟨0,.free,.free,by simp,by simp[XC];exact Adx (f:=AP) (⟨⟨false,0,[]⟩,0,[]⟩:Cw) _⟩
 intro k s ⟨j,o1,o2,hj,hs⟩
 subst hs
 by_cases hjn:j<xs.length
 ·have hw:IntKind.i64.wrap ((j:Int)+1)=(j+1:Nat):=by rw[Ad (by omega) (by omega)];simp
  have hsz:=size_at (f:=Al) hjn
  have hfit:j*5+5≤xs.length*5:=by omega
  have hjl:j≤xs.length:=by omega
  simp -implicitDefEqProofs [hjn]
  refine Aa (hto xs[j] (by omega)) ?_
  simp -implicitDefEqProofs [hjn,hfit,hjl]
  exact⟨k-1,by omega,j+1,by omega,by simp[hw],by rw[←AcL hjn]⟩
 ·have hje:mix (⟨⟨false,0,[]⟩,0,[]⟩:Cw) xs j=xs:=AcE (by omega)
  simp -implicitDefEqProofs [hjn,hje]
abbrev VX (R:Rel):Prop:=∀xs ys:List Cw,Bw Al xs≤2 ^ 40→Bw Al ys≤2 ^ 40→R [.sl 1 5 xs.length (xs.flatMap AP),.sl 1 5 ys.length (ys.flatMap AP)] [] (B (decide (xs=ys))) []
theorem Arr (D:Dn) (heq:Ve (D 135)):VX (Body D Qg):=by
 intro xs ys h1 h2
 have hlen:=IK (f:=Al) (xs:=xs)
 by_cases hl:xs.length=ys.length
 ·have hl':(xs.length:Int)=ys.length:=by omega
  simp -implicitDefEqProofs [hl']
  refine Ae (fun k s=>∃j,j+k=xs.length∧xs.take j=ys.take j∧s=⟨[.sl 1 5 xs.length (xs.flatMap AP),.sl 1 5 ys.length (ys.flatMap AP),.undef,.sc (.int .i64 j),.undef,.undef,.undef],[]⟩) ?_ xs.length _ ⟨0,by simp,by simp,by simp⟩
  intro k s ⟨j,hj,hp,hs⟩
  subst hs
  by_cases hjn:j<xs.length
  ·have hw:IntKind.i64.wrap ((j:Int)+1)=(j+1:Nat):=by rw[Ad (by omega) (by omega)];simp
   have hy:j<ys.length:=by omega
   have hsx:=size_at (f:=Al) hjn
   have hsy:=size_at (f:=Al) hy
   simp -implicitDefEqProofs [hjn,hy]
   refine Aa (heq xs[j] ys[j] (by omega) (by omega)) ?_
   by_cases he:xs[j]=ys[j]
   ·simp -implicitDefEqProofs [he]
    exact⟨k-1,by omega,j+1,by omega,J5 hjn hy hp he,by simp[hw]⟩
   ·have hne:xs≠ys:=fun h=>he (by simp[h])
    simp -implicitDefEqProofs [he,hne]
  ·obtain rfl:xs=ys:=Mq (by omega) hl hp
   simp -implicitDefEqProofs [hjn]
 ·have hl':¬(xs.length:Int)=ys.length:=by omega
  have:xs≠ys:=fun h=>hl (by rw[h])
  simp -implicitDefEqProofs [hl',this]
abbrev YQ (R:Rel):Prop:=∀(x:BA) (l:Int),0≤l→l≤4194304→Sj x→R [arg (Ar x),I l] [] (I (szl (Av x) l)) []
theorem Aup (D:Dn) (hszDialed:UW (D 63)):YQ (Body D RP):=by
 intro x l hl1 hl2 hln
 simp only[Sj]at hln
 simp -implicitDefEqProofs
 refine Aa (hszDialed x.dialed (l) (by omega) (by omega) hln) ?_
 by_cases g0:l<((Al x.dialed:Nat):Int)
 ·have gg:l<((Av x:Nat):Int):=by simp only[Av];omega
  have e1:szl (Al x.dialed) (l)= -1:=by unfold szl;rw[if_pos g0]
  have e2:szl (Av x) l= -1:=by unfold szl;rw[if_pos gg]
  simp -implicitDefEqProofs [e1,e2]
 have e3:szl (Al x.dialed) (l)=l-((Al x.dialed:Nat):Int):=by unfold szl;rw[if_neg g0]
 have p0:¬l-((Al x.dialed:Nat):Int)<0:=by omega
 simp -implicitDefEqProofs [e3,p0]
 have gg:¬l<((Av x:Nat):Int):=by simp only[Av];omega
 unfold szl;rw[if_neg gg];simp only[Av]<;>omega
abbrev Yx (R:Rel):Prop:=∀x:BA,Av x≤4194304→R [arg (Ar x)] [] (.agg (Ar x)) []
theorem At0 (D:Dn) (htoDialed:Vf (D 99)):Yx (Body D RV):=by
 intro x h
 simp only[Av]at h
 simp -implicitDefEqProofs
 refine Aa (htoDialed x.dialed (by omega)) ?_
 simp -implicitDefEqProofs
abbrev YP (R:Rel):Prop:=∀x y:BA,Av x≤2 ^ 40→Av y≤2 ^ 40→R [arg (Ar x),arg (Ar y)] [] (B (decide (x=y))) []
theorem Avv (D:Dn) (heqDialed:Ve (D 135)):YP (Body D R4):=by
 intro x y h1 h2
 simp only[Av]at h1 h2
 by_cases g_fin:x.fin=y.fin
 rotate_left
 ·have hne:x≠y:=fun h=>g_fin (by rw[h])
  simp -implicitDefEqProofs [g_fin,hne]
 simp -implicitDefEqProofs [g_fin]
 by_cases g_tick:x.tick=y.tick
 rotate_left
 ·have hne:x≠y:=fun h=>g_tick (by rw[h])
  simp -implicitDefEqProofs [g_tick,hne]
 simp -implicitDefEqProofs [g_tick]
 by_cases g_on:x.on=y.on
 rotate_left
 ·have hne:x≠y:=fun h=>g_on (by rw[h])
  simp -implicitDefEqProofs [g_on,hne]
 simp -implicitDefEqProofs [g_on]
 refine Aa (heqDialed x.dialed y.dialed (by omega) (by omega)) ?_
 by_cases g_dialed:x.dialed=y.dialed
 rotate_left
 ·have hne:x≠y:=fun h=>g_dialed (by rw[h])
  simp -implicitDefEqProofs [g_dialed,hne]
 simp -implicitDefEqProofs [g_dialed]
 have hxy:x=y:=by cases x;cases y;simp_all
 simp -implicitDefEqProofs [hxy]
abbrev Vr (R:Rel):Prop:=∀(xs:List BA) (l:Int),0≤l→l≤4194304→lnS Sj xs→R [.sl 1 8 xs.length (xs.flatMap Ar),I l] [] (I (szl (Bw Av xs) l)) []
theorem ArI (D:Dn) (hsz:YQ (D 64)):Vr (Body D Ps):=by
 intro xs l h1 h2 hln
 have h3:=hln.1
 unfold maxLen at h3
 have hw:IntKind.i64.wrap (l-(xs.length:Int))=l-xs.length:=Ad (by omega) (by omega)
 by_cases h:l<(xs.length:Int)
 ·have h':l-(xs.length:Int)<0:=by omega
  have e2:szl (Bw Av xs) l= -1:=by unfold szl Bw;rw[if_pos (by omega)]
  simp -implicitDefEqProofs [hw,h',e2]
 ·have h':¬l-(xs.length:Int)<0:=by omega
  simp -implicitDefEqProofs [hw,h']
  refine Ae (fun k s=>∃j,j+k=xs.length∧((xs.take j).map Av).sum+xs.length≤l∧s=⟨[.sl 1 8 xs.length (xs.flatMap Ar),.sc (.int .i64 (l-xs.length-((((xs.take j).map Av).sum:Nat):Int))),.undef,.sc (.int .i64 j),.undef,.undef,.undef],[]⟩) ?_ xs.length _ ⟨0,by simp,by simp;omega,by simp⟩
  intro k s ⟨j,hj,hp,hs⟩
  subst hs
  by_cases hjn:j<xs.length
  ·have hw:IntKind.i64.wrap ((j:Int)+1)=(j+1:Nat):=by rw[Ad (by omega) (by omega)];simp
   have ht:=Ye (f:=Av) hjn
   have htl:=OT (f:=Av) (xs:=xs) (j:=j+1)
   simp -implicitDefEqProofs [hjn, -List.map_take]
   refine Aa (hsz xs[j] _ (by omega) (by omega) (hln.2 j hjn)) ?_
   by_cases he:l-xs.length-((((xs.take j).map Av).sum:Nat):Int)<Av xs[j]
   ·have e1:szl (Av xs[j]) (l-xs.length-((((xs.take j).map Av).sum:Nat):Int))= -1:=by unfold szl;rw[if_pos he]
    have e2:szl (Bw Av xs) l= -1:=by unfold szl Bw;rw[if_pos (by omega)]
    simp -implicitDefEqProofs [e1,e2, -List.map_take]
   ·have e1:szl (Av xs[j]) (l-xs.length-((((xs.take j).map Av).sum:Nat):Int))=l-xs.length-((((xs.take j).map Av).sum:Nat):Int)-Av xs[j]:=by unfold szl;rw[if_neg he]
    have e3:¬l-xs.length-((((xs.take j).map Av).sum:Nat):Int)-Av xs[j]<0:=by omega
    simp -implicitDefEqProofs [e1,e3, -List.map_take]
    refine⟨k-1,by omega,j+1,by omega,by omega,?_,by simp[hw]⟩
    rw[ht];omega
  ·have hsm:=Ah2 (f:=Av) (xs:=xs) (j:=j) (by omega)
   have e2:szl (Bw Av xs) l=l-xs.length-((((xs.take j).map Av).sum:Nat):Int):=by unfold szl Bw;rw[if_neg (by omega)];omega
   simp -implicitDefEqProofs [hjn,e2, -List.map_take]
abbrev Wp (R:Rel):Prop:=∀xs:List BA,Bw Av xs≤4194304→R [.sl 1 8 xs.length (xs.flatMap Ar)] [] (.sl 0 8 xs.length (xs.flatMap Ar)) []
theorem ArO (D:Dn) (hto:Yx (D 100)):Wp (Body D P9):=by
 intro xs h
 have hlen:=IK (f:=Av) (xs:=xs)
 have h1:((xs.length:Nat):Int)*96≤1099511627776:=by omega
 simp -implicitDefEqProofs [h1]
 refine Ae (fun k s=>∃j o1 o2,j+k=xs.length∧s=⟨[.sl 1 8 xs.length (xs.flatMap Ar),.undef,.arr 0,.sc (.int .i64 j),.undef],[.arr 8 0 xs.length ((mix (⟨0,0,false,⟨⟨false,0,[]⟩,0,[]⟩⟩:BA) xs j).flatMap Ar),o1,o2]⟩) ?_ xs.length _ ⟨0,.free,.free,by simp,by simp[XC];exact Adx (f:=Ar) (⟨0,0,false,⟨⟨false,0,[]⟩,0,[]⟩⟩:BA) _⟩
 intro k s ⟨j,o1,o2,hj,hs⟩
 subst hs
 by_cases hjn:j<xs.length
 ·have hw:IntKind.i64.wrap ((j:Int)+1)=(j+1:Nat):=by rw[Ad (by omega) (by omega)];simp
  have hsz:=size_at (f:=Av) hjn
  have hfit:j*8+8≤xs.length*8:=by omega
  have hjl:j≤xs.length:=by omega
  simp -implicitDefEqProofs [hjn]
  refine Aa (hto xs[j] (by omega)) ?_
  simp -implicitDefEqProofs [hjn,hfit,hjl]
  exact⟨k-1,by omega,j+1,by omega,by simp[hw],by rw[←AcL hjn]⟩
 ·have hje:mix (⟨0,0,false,⟨⟨false,0,[]⟩,0,[]⟩⟩:BA) xs j=xs:=AcE (by omega)
  simp -implicitDefEqProofs [hjn,hje]
abbrev VF (R:Rel):Prop:=∀xs ys:List BA,Bw Av xs≤2 ^ 40→Bw Av ys≤2 ^ 40→R [.sl 1 8 xs.length (xs.flatMap Ar),.sl 1 8 ys.length (ys.flatMap Ar)] [] (B (decide (xs=ys))) []
theorem ArX (D:Dn) (heq:YP (D 136)):VF (Body D QC):=by
 intro xs ys h1 h2
 have hlen:=IK (f:=Av) (xs:=xs)
 by_cases hl:xs.length=ys.length
 ·have hl':(xs.length:Int)=ys.length:=by omega
  simp -implicitDefEqProofs [hl']
  refine Ae (fun k s=>∃j,j+k=xs.length∧xs.take j=ys.take j∧s=⟨[.sl 1 8 xs.length (xs.flatMap Ar),.sl 1 8 ys.length (ys.flatMap Ar),.undef,.sc (.int .i64 j),.undef,.undef,.undef],[]⟩) ?_ xs.length _ ⟨0,by simp,by simp,by simp⟩
  intro k s ⟨j,hj,hp,hs⟩
  subst hs
  by_cases hjn:j<xs.length
  ·have hw:IntKind.i64.wrap ((j:Int)+1)=(j+1:Nat):=by rw[Ad (by omega) (by omega)];simp
   have hy:j<ys.length:=by omega
   have hsx:=size_at (f:=Av) hjn
   have hsy:=size_at (f:=Av) hy
   simp -implicitDefEqProofs [hjn,hy]
   refine Aa (heq xs[j] ys[j] (by omega) (by omega)) ?_
   by_cases he:xs[j]=ys[j]
   ·simp -implicitDefEqProofs [he]
    exact⟨k-1,by omega,j+1,by omega,J5 hjn hy hp he,by simp[hw]⟩
   ·have hne:xs≠ys:=fun h=>he (by simp[h])
    simp -implicitDefEqProofs [he,hne]
  ·obtain rfl:xs=ys:=Mq (by omega) hl hp
   simp -implicitDefEqProofs [hjn]
 ·have hl':¬(xs.length:Int)=ys.length:=by omega
  have:xs≠ys:=fun h=>hl (by rw[h])
  simp -implicitDefEqProofs [hl',this]
end Go.Eng.T
namespace Go.Eng.T
set_option maxRecDepth 20000
abbrev AbL (R:Rel):Prop:=∀(x:World) (l:Int),0≤l→l≤4194304→AcK x→R [arg (EF x),I l] [] (I (szl (Ay x) l)) []
theorem Ayc (D:Dn) (hszIntS:QH (D 16)) (hszEndpointS:QZ (D 17)) (hszRollout:V8 (D 18)) (hszDialedS:V9 (D 19)) (hszLoggedS:Vr (D 20)):AbL (Body D TM):=by
 intro x l hl1 hl2 hln
 simp only[AcK]at hln
 simp -implicitDefEqProofs
 refine Aa (hszIntS x.server (l) (by omega) (by omega) hln.1) ?_
 by_cases g0:l<((x.server.length:Nat):Int)
 ·have gg:l<((Ay x:Nat):Int):=by simp only[Ay];omega
  have e1:szl (x.server.length) (l)= -1:=by unfold szl;rw[if_pos g0]
  have e2:szl (Ay x) l= -1:=by unfold szl;rw[if_pos gg]
  simp -implicitDefEqProofs [e1,e2]
 have e3:szl (x.server.length) (l)=l-((x.server.length:Nat):Int):=by unfold szl;rw[if_neg g0]
 have p0:¬l-((x.server.length:Nat):Int)<0:=by omega
 simp -implicitDefEqProofs [e3,p0]
 refine Aa (hszIntS x.tags (l-((x.server.length:Nat):Int)) (by omega) (by omega) hln.2.1) ?_
 by_cases g1:l-((x.server.length:Nat):Int)<((x.tags.length:Nat):Int)
 ·have gg:l<((Ay x:Nat):Int):=by simp only[Ay];omega
  have e1:szl (x.tags.length) (l-((x.server.length:Nat):Int))= -1:=by unfold szl;rw[if_pos g1]
  have e2:szl (Ay x) l= -1:=by unfold szl;rw[if_pos gg]
  simp -implicitDefEqProofs [e1,e2]
 have e4:szl (x.tags.length) (l-((x.server.length:Nat):Int))=l-((x.server.length:Nat):Int)-((x.tags.length:Nat):Int):=by unfold szl;rw[if_neg g1]
 have p1:¬l-((x.server.length:Nat):Int)-((x.tags.length:Nat):Int)<0:=by omega
 simp -implicitDefEqProofs [e4,p1]
 refine Aa (hszEndpointS x.ends (l-((x.server.length:Nat):Int)-((x.tags.length:Nat):Int)) (by omega) (by omega) hln.2.2.1) ?_
 by_cases g2:l-((x.server.length:Nat):Int)-((x.tags.length:Nat):Int)<((Bw Ac x.ends:Nat):Int)
 ·have gg:l<((Ay x:Nat):Int):=by simp only[Ay];omega
  have e1:szl (Bw Ac x.ends) (l-((x.server.length:Nat):Int)-((x.tags.length:Nat):Int))= -1:=by unfold szl;rw[if_pos g2]
  have e2:szl (Ay x) l= -1:=by unfold szl;rw[if_pos gg]
  simp -implicitDefEqProofs [e1,e2]
 have e5:szl (Bw Ac x.ends) (l-((x.server.length:Nat):Int)-((x.tags.length:Nat):Int))=l-((x.server.length:Nat):Int)-((x.tags.length:Nat):Int)-((Bw Ac x.ends:Nat):Int):=by unfold szl;rw[if_neg g2]
 have p2:¬l-((x.server.length:Nat):Int)-((x.tags.length:Nat):Int)-((Bw Ac x.ends:Nat):Int)<0:=by omega
 simp -implicitDefEqProofs [e5,p2]
 refine Aa (hszRollout x.rollout (l-((x.server.length:Nat):Int)-((x.tags.length:Nat):Int)-((Bw Ac x.ends:Nat):Int)) (by omega) (by omega) hln.2.2.2.1) ?_
 by_cases g3:l-((x.server.length:Nat):Int)-((x.tags.length:Nat):Int)-((Bw Ac x.ends:Nat):Int)<((Bg x.rollout:Nat):Int)
 ·have gg:l<((Ay x:Nat):Int):=by simp only[Ay];omega
  have e1:szl (Bg x.rollout) (l-((x.server.length:Nat):Int)-((x.tags.length:Nat):Int)-((Bw Ac x.ends:Nat):Int))= -1:=by unfold szl;rw[if_pos g3]
  have e2:szl (Ay x) l= -1:=by unfold szl;rw[if_pos gg]
  simp -implicitDefEqProofs [e1,e2]
 have e6:szl (Bg x.rollout) (l-((x.server.length:Nat):Int)-((x.tags.length:Nat):Int)-((Bw Ac x.ends:Nat):Int))=l-((x.server.length:Nat):Int)-((x.tags.length:Nat):Int)-((Bw Ac x.ends:Nat):Int)-((Bg x.rollout:Nat):Int):=by unfold szl;rw[if_neg g3]
 have p3:¬l-((x.server.length:Nat):Int)-((x.tags.length:Nat):Int)-((Bw Ac x.ends:Nat):Int)-((Bg x.rollout:Nat):Int)<0:=by omega
 simp -implicitDefEqProofs [e6,p3]
 refine Aa (hszDialedS x.stage (l-((x.server.length:Nat):Int)-((x.tags.length:Nat):Int)-((Bw Ac x.ends:Nat):Int)-((Bg x.rollout:Nat):Int)) (by omega) (by omega) hln.2.2.2.2.1) ?_
 by_cases g4:l-((x.server.length:Nat):Int)-((x.tags.length:Nat):Int)-((Bw Ac x.ends:Nat):Int)-((Bg x.rollout:Nat):Int)<((Bw Al x.stage:Nat):Int)
 ·have gg:l<((Ay x:Nat):Int):=by simp only[Ay];omega
  have e1:szl (Bw Al x.stage) (l-((x.server.length:Nat):Int)-((x.tags.length:Nat):Int)-((Bw Ac x.ends:Nat):Int)-((Bg x.rollout:Nat):Int))= -1:=by unfold szl;rw[if_pos g4]
  have e2:szl (Ay x) l= -1:=by unfold szl;rw[if_pos gg]
  simp -implicitDefEqProofs [e1,e2]
 have e7:szl (Bw Al x.stage) (l-((x.server.length:Nat):Int)-((x.tags.length:Nat):Int)-((Bw Ac x.ends:Nat):Int)-((Bg x.rollout:Nat):Int))=l-((x.server.length:Nat):Int)-((x.tags.length:Nat):Int)-((Bw Ac x.ends:Nat):Int)-((Bg x.rollout:Nat):Int)-((Bw Al x.stage:Nat):Int):=by unfold szl;rw[if_neg g4]
 have p4:¬l-((x.server.length:Nat):Int)-((x.tags.length:Nat):Int)-((Bw Ac x.ends:Nat):Int)-((Bg x.rollout:Nat):Int)-((Bw Al x.stage:Nat):Int)<0:=by omega
 simp -implicitDefEqProofs [e7,p4]
 refine Aa (hszLoggedS x.log (l-((x.server.length:Nat):Int)-((x.tags.length:Nat):Int)-((Bw Ac x.ends:Nat):Int)-((Bg x.rollout:Nat):Int)-((Bw Al x.stage:Nat):Int)) (by omega) (by omega) hln.2.2.2.2.2) ?_
 by_cases g5:l-((x.server.length:Nat):Int)-((x.tags.length:Nat):Int)-((Bw Ac x.ends:Nat):Int)-((Bg x.rollout:Nat):Int)-((Bw Al x.stage:Nat):Int)<((Bw Av x.log:Nat):Int)
 ·have gg:l<((Ay x:Nat):Int):=by simp only[Ay];omega
  have e1:szl (Bw Av x.log) (l-((x.server.length:Nat):Int)-((x.tags.length:Nat):Int)-((Bw Ac x.ends:Nat):Int)-((Bg x.rollout:Nat):Int)-((Bw Al x.stage:Nat):Int))= -1:=by unfold szl;rw[if_pos g5]
  have e2:szl (Ay x) l= -1:=by unfold szl;rw[if_pos gg]
  simp -implicitDefEqProofs [e1,e2]
 have e8:szl (Bw Av x.log) (l-((x.server.length:Nat):Int)-((x.tags.length:Nat):Int)-((Bw Ac x.ends:Nat):Int)-((Bg x.rollout:Nat):Int)-((Bw Al x.stage:Nat):Int))=l-((x.server.length:Nat):Int)-((x.tags.length:Nat):Int)-((Bw Ac x.ends:Nat):Int)-((Bg x.rollout:Nat):Int)-((Bw Al x.stage:Nat):Int)-((Bw Av x.log:Nat):Int):=by unfold szl;rw[if_neg g5]
 have p5:¬l-((x.server.length:Nat):Int)-((x.tags.length:Nat):Int)-((Bw Ac x.ends:Nat):Int)-((Bg x.rollout:Nat):Int)-((Bw Al x.stage:Nat):Int)-((Bw Av x.log:Nat):Int)<0:=by omega
 simp -implicitDefEqProofs [e8,p5]
 have gg:¬l<((Ay x:Nat):Int):=by simp only[Ay];omega
 unfold szl;rw[if_neg gg];simp only[Ay]<;>omega
abbrev AbH (R:Rel):Prop:=∀x:World,Ay x≤4194304→R [arg (EF x)] [] (.agg (EF x)) []
theorem Ayq (D:Dn) (htoIntS:QX (D 31)) (htoEndpointS:QG (D 32)) (htoRollout:Vs (D 33)) (htoDialedS:VW (D 34)) (htoLoggedS:Wp (D 35)):AbH (Body D Ua):=by
 intro x h
 simp only[Ay]at h
 simp -implicitDefEqProofs
 refine Aa (htoIntS x.server (by omega)) ?_
 simp -implicitDefEqProofs
 refine Aa (htoIntS x.tags (by omega)) ?_
 simp -implicitDefEqProofs
 refine Aa (htoEndpointS x.ends (by omega)) ?_
 simp -implicitDefEqProofs
 refine Aa (htoRollout x.rollout (by omega)) ?_
 simp -implicitDefEqProofs
 refine Aa (htoDialedS x.stage (by omega)) ?_
 simp -implicitDefEqProofs
 refine Aa (htoLoggedS x.log (by omega)) ?_
 simp -implicitDefEqProofs
abbrev AbK (R:Rel):Prop:=∀x y:World,Ay x≤2 ^ 40→Ay y≤2 ^ 40→R [arg (EF x),arg (EF y)] [] (B (decide (x=y))) []
theorem AxO (D:Dn) (heqIntS:F4 (D 47)) (heqEndpointS:QM (D 48)) (heqRollout:Vl (D 49)) (heqDialedS:VX (D 50)) (heqLoggedS:VF (D 51)):AbK (Body D Uc):=by
 intro x y h1 h2
 simp only[Ay]at h1 h2
 simp -implicitDefEqProofs
 refine Aa (heqIntS x.server y.server (by unfold maxLen;omega) (by unfold maxLen;omega)) ?_
 by_cases g_server:x.server=y.server
 rotate_left
 ·have hne:x≠y:=fun h=>g_server (by rw[h])
  simp -implicitDefEqProofs [g_server,hne]
 simp -implicitDefEqProofs [g_server]
 refine Aa (heqIntS x.tags y.tags (by unfold maxLen;omega) (by unfold maxLen;omega)) ?_
 by_cases g_tags:x.tags=y.tags
 rotate_left
 ·have hne:x≠y:=fun h=>g_tags (by rw[h])
  simp -implicitDefEqProofs [g_tags,hne]
 simp -implicitDefEqProofs [g_tags]
 by_cases g_key:x.key=y.key
 rotate_left
 ·have hne:x≠y:=fun h=>g_key (by rw[h])
  simp -implicitDefEqProofs [g_key,hne]
 simp -implicitDefEqProofs [g_key]
 refine Aa (heqEndpointS x.ends y.ends (by omega) (by omega)) ?_
 by_cases g_ends:x.ends=y.ends
 rotate_left
 ·have hne:x≠y:=fun h=>g_ends (by rw[h])
  simp -implicitDefEqProofs [g_ends,hne]
 simp -implicitDefEqProofs [g_ends]
 refine Aa (heqRollout x.rollout y.rollout (by omega) (by omega)) ?_
 by_cases g_rollout:x.rollout=y.rollout
 rotate_left
 ·have hne:x≠y:=fun h=>g_rollout (by rw[h])
  simp -implicitDefEqProofs [g_rollout,hne]
 simp -implicitDefEqProofs [g_rollout]
 by_cases g_least:x.least=y.least
 rotate_left
 ·have hne:x≠y:=fun h=>g_least (by rw[h])
  simp -implicitDefEqProofs [g_least,hne]
 simp -implicitDefEqProofs [g_least]
 by_cases g_percent:x.percent=y.percent
 rotate_left
 ·have hne:x≠y:=fun h=>g_percent (by rw[h])
  simp -implicitDefEqProofs [g_percent,hne]
 simp -implicitDefEqProofs [g_percent]
 refine Aa (heqDialedS x.stage y.stage (by omega) (by omega)) ?_
 by_cases g_stage:x.stage=y.stage
 rotate_left
 ·have hne:x≠y:=fun h=>g_stage (by rw[h])
  simp -implicitDefEqProofs [g_stage,hne]
 simp -implicitDefEqProofs [g_stage]
 refine Aa (heqLoggedS x.log y.log (by omega) (by omega)) ?_
 by_cases g_log:x.log=y.log
 rotate_left
 ·have hne:x≠y:=fun h=>g_log (by rw[h])
  simp -implicitDefEqProofs [g_log,hne]
 simp -implicitDefEqProofs [g_log]
 by_cases g_now:x.now=y.now
 rotate_left
 ·have hne:x≠y:=fun h=>g_now (by rw[h])
  simp -implicitDefEqProofs [g_now,hne]
 simp -implicitDefEqProofs [g_now]
 by_cases g_hurt:x.hurt=y.hurt
 rotate_left
 ·have hne:x≠y:=fun h=>g_hurt (by rw[h])
  simp -implicitDefEqProofs [g_hurt,hne]
 simp -implicitDefEqProofs [g_hurt]
 by_cases g_reached:x.reached=y.reached
 rotate_left
 ·have hne:x≠y:=fun h=>g_reached (by rw[h])
  simp -implicitDefEqProofs [g_reached,hne]
 simp -implicitDefEqProofs [g_reached]
 have hxy:x=y:=by cases x;cases y;simp_all
 simp -implicitDefEqProofs [hxy]
end Go.Eng.T
namespace Go.Eng.T
theorem AcR {xs:List Int} {v:Int} {j:Nat} (h:j<xs.length) (hp:v∉xs.take j) (hv:¬xs[j]=v):v∉xs.take (j+1):=by
 rw[List.take_add_one,List.getElem?_eq_getElem h]
 intro hm
 rcases List.mem_append.1 hm with hm | hm
 ·exact hp hm
 ·simp at hm;exact hv hm.symm
theorem AfS {xs:List Int} {v:Int} {j:Nat} (h:xs.length≤j) (hp:v∉xs.take j):v∉xs:=by rwa [List.take_of_length_le h]at hp
theorem As5 {xs:List Int} {v:Int} {j:Nat} (h:j<xs.length) (hv:xs[j]=v):v∈xs:=by rw[←hv];exact List.getElem_mem h
def AuZ (xs:List Int) (v:Int):Int:=if v∈xs then(xs.idxOf v:Nat)else -1
theorem AAv {xs:List Int} {v:Int} {j:Nat} (h:j<xs.length) (hp:v∉xs.take j) (hv:xs[j]=v):AuZ xs v=j:=by
 unfold AuZ
 rw[if_pos (As5 h hv)]
 congr 1
 have e:xs=xs.take j++v::xs.drop (j+1):=by
  conv=>lhs;rw[←List.take_append_drop j xs,List.drop_eq_getElem_cons h,hv]
 rw[e,List.idxOf_append,if_neg hp]
 simp
 omega
theorem AEa {xs:List Int} {v:Int}:(0≤AuZ xs v)=(v∈xs):=by
 unfold AuZ
 by_cases h:v∈xs<;>simp[h]
abbrev AoD (R:Rel):Prop:=∀(xs:List Int) (v:Int),xs.length≤maxLen→R [.sl 1 1 xs.length (ints xs),I v] [] (I (AuZ xs v)) []
theorem ADo (D:Dn):AoD (Body D Ho):=by
 intro xs v hl
 unfold maxLen at hl
 simp -implicitDefEqProofs
 refine Ae (fun k s=>∃j,j+k=xs.length∧v∉xs.take j∧s=⟨[.sl 1 1 xs.length (ints xs),.sc (.int .i64 v),.undef,.undef,.sc (.int .i64 xs.length),.sc (.int .i64 j),.undef,.undef],[]⟩) ?_ xs.length _ ⟨0,by simp,by simp,by simp⟩
 intro k s ⟨j,hj,hp,hs⟩
 subst hs
 by_cases hjn:j<xs.length
 ·have hw:IntKind.i64.wrap ((j:Int)+1)=(j+1:Nat):=by rw[Ad (by omega) (by omega)];simp
  by_cases he:v=xs[j]
  ·have hx:=AAv hjn hp he.symm
   simp -implicitDefEqProofs [hjn,←he,hx]
  ·simp -implicitDefEqProofs [hjn,he]
   exact⟨k-1,by omega,j+1,by omega,AcR hjn hp (fun h=>he h.symm),by simp[hw]⟩
 ·have hx:AuZ xs v= -1:=by unfold AuZ;rw[if_neg (AfS (by omega) hp)]
  simp -implicitDefEqProofs [hjn,hx]
abbrev R6 (R:Rel):Prop:=∀(xs:List Int) (v:Int),xs.length≤maxLen→R [.sl 1 1 xs.length (ints xs),I v] [] (B (decide (v∈xs))) []
theorem AuO (D:Dn) (hI:AoD (D 389)):R6 (Body D F3):=by
 intro xs v hl
 simp -implicitDefEqProofs
 refine Aa (hI xs v hl) ?_
 simp -implicitDefEqProofs [AEa]
theorem AEg (D:Dn):R6 (Body D Xv):=by
 intro xs v hl
 unfold maxLen at hl
 simp -implicitDefEqProofs
 refine Ae (fun k s=>∃j,j+k=xs.length∧v∉xs.take j∧s=⟨[.sl 1 1 xs.length (ints xs),.sc (.int .i64 v),.undef,.sc (.int .i64 j),.undef,.undef],[]⟩) ?_ xs.length _ ⟨0,by simp,by simp,by simp⟩
 intro k s ⟨j,hj,hp,hs⟩
 subst hs
 by_cases hjn:j<xs.length
 ·have hw:IntKind.i64.wrap ((j:Int)+1)=(j+1:Nat):=by rw[Ad (by omega) (by omega)];simp
  by_cases he:xs[j]=v
  ·have hx:=As5 hjn he
   simp -implicitDefEqProofs [hjn,he,hx]
  ·simp -implicitDefEqProofs [hjn,he]
   exact⟨k-1,by omega,j+1,by omega,AcR hjn hp he,by simp[hw]⟩
 ·have hx:=AfS (by omega) hp
  simp -implicitDefEqProofs [hjn,hx]
def Pe (v:Int) (d:Cw):Bool:= !d.deal.ok||(decide (d.deal.version<v)&&decide (v∈d.up))
def goodD (v:Int) (d:Cw):Bool:= !Pe v d&&decide (v≤d.deal.version)
def cntF {α:Type} (f:α→Bool) (xs:List α):Nat:=(xs.filter f).length
theorem Adn {α:Type} {f:α→Bool} {xs:List α} {j:Nat} (h:j<xs.length):cntF f (xs.take (j+1))=cntF f (xs.take j)+(if f xs[j]then 1 else 0):=by
 unfold cntF
 rw[List.take_add_one,List.getElem?_eq_getElem h,List.filter_append,List.length_append]
 congr 1
 by_cases hf:f xs[j]<;>simp[hf]
theorem ApG {α:Type} {f:α→Bool} {xs:List α} {j:Nat} (h:j≤xs.length):cntF f (xs.take j)≤j:=by
 unfold cntF
 have:=List.length_filter_le f (xs.take j)
 simp at this
 omega
theorem Aia {α:Type} {f:α→Bool} {xs:List α} {j:Nat} (h:xs.length≤j):cntF f (xs.take j)=cntF f xs:=by rw[List.take_of_length_le h]
end Go.Eng.T
namespace Go.Eng.T
abbrev YR (R:Rel):Prop:=∀(xs:List Cw) (v:Int),xs.length≤maxLen→(∀(j:Nat) (h:j<xs.length),xs[j].up.length≤maxLen)→
 R [.sl 1 5 xs.length (xs.flatMap AP),I v] [] (.tup [I (cntF (goodD v) xs),I (cntF (Pe v) xs)]) []
theorem AsM (D:Dn) (hH:R6 (D 166)):YR (Body D RD):=by
 intro xs v hl hu
 unfold maxLen at hl
 simp -implicitDefEqProofs
 refine Ae (fun k s=>∃j o0,j+k=xs.length∧s=⟨[.sl 1 5 xs.length (xs.flatMap AP),.sc (.int .i64 v),.undef,.undef,.sc (.int .i64 (cntF (goodD v) (xs.take j))),.sc (.int .i64 (cntF (Pe v) (xs.take j))),.sc (.int .i64 j),.undef,.undef,.undef,.undef],[o0]⟩) ?_ xs.length _ ⟨0,.free,by simp,by simp[cntF]⟩
 intro k s ⟨j,o0,hj,hs⟩
 subst hs
 by_cases hjn:j<xs.length
 ·have hw:IntKind.i64.wrap ((j:Int)+1)=(j+1:Nat):=by rw[Ad (by omega) (by omega)];simp
  have hc:=Adn (f:=goodD v) hjn
  have hb:=Adn (f:=Pe v) hjn
  have hcl:=ApG (f:=goodD v) (xs:=xs) (j:=j) (by omega)
  have hbl:=ApG (f:=Pe v) (xs:=xs) (j:=j) (by omega)
  have hw2:IntKind.i64.wrap ((cntF (goodD v) (xs.take j):Int)+1)=(cntF (goodD v) (xs.take j)+1:Nat):=by rw[Ad (by omega) (by omega)];simp
  have hw3:IntKind.i64.wrap ((cntF (Pe v) (xs.take j):Int)+1)=(cntF (Pe v) (xs.take j)+1:Nat):=by rw[Ad (by omega) (by omega)];simp
  have fin:∀(a b:Bool),goodD v xs[j]=a→Pe v xs[j]=b→∀x y:Int,x=((cntF (goodD v) (xs.take j)+(if a then 1 else 0):Nat):Int)→y=((cntF (Pe v) (xs.take j)+(if b then 1 else 0):Nat):Int)→
   x=cntF (goodD v) (xs.take (j+1))∧y=cntF (Pe v) (xs.take (j+1)):=by
   intro a b ha hb' x y hx hy
   rw[hc,hb,ha,hb']
   exact⟨hx,hy⟩
  by_cases h1:xs[j].deal.ok=true
  ·by_cases h2:xs[j].deal.version<v
   ·simp -implicitDefEqProofs [hjn,h1,h2]
    refine Aa (hH xs[j].up v (hu j hjn)) ?_
    by_cases h3:v∈xs[j].up
    ·have g:=fin false true (by simp[goodD,Pe,h1,h2,h3]) (by simp[Pe,h1,h2,h3]) _ _ rfl rfl
     simp -implicitDefEqProofs [h3]
     exact⟨k-1,by omega,j+1,by omega,by simpa using g.1,by rw[hw3];simpa using g.2,by simp[hw]⟩
    ·have h4:¬v≤xs[j].deal.version:=by omega
     have g:=fin false false (by simp[goodD,Pe,h1,h2,h3,h4]) (by simp[Pe,h1,h2,h3]) _ _ rfl rfl
     simp -implicitDefEqProofs [h3,h4]
     exact⟨k-1,by omega,j+1,by omega,by simpa using g.1,by simpa using g.2,by simp[hw]⟩
   ·have h4:v≤xs[j].deal.version:=by omega
    have g:=fin true false (by simp[goodD,Pe,h1,h2,h4]) (by simp[Pe,h1,h2]) _ _ rfl rfl
    simp -implicitDefEqProofs [hjn,h1,h2,h4]
    exact⟨k-1,by omega,j+1,by omega,by rw[hw2];simpa using g.1,by simpa using g.2,by simp[hw]⟩
  ·have g:=fin false true (by simp[goodD,Pe,h1]) (by simp[Pe,h1]) _ _ rfl rfl
   simp -implicitDefEqProofs [hjn,h1]
   exact⟨k-1,by omega,j+1,by omega,by simpa using g.1,by rw[hw3];simpa using g.2,by simp[hw]⟩
 ·have hx:=Aia (f:=goodD v) (xs:=xs) (j:=j) (by omega)
  have hy:=Aia (f:=Pe v) (xs:=xs) (j:=j) (by omega)
  simp -implicitDefEqProofs [hjn,hx,hy]
abbrev FU (R:Rel):Prop:=∀(d:Cw) (v:Int),d.up.length≤maxLen→R [arg (AP d),I v] [] (B (Pe v d)) []
theorem AoG (D:Dn) (hM:YR (D 155)):FU (Body D PK):=by
 intro d v hu
 simp -implicitDefEqProofs
 refine Aa (hM [d] v (by unfold maxLen;simp) (fun j h=>by have e:j=0:=(by simpa using h);subst e;exact hu)) ?_
 by_cases h:Pe v d<;>simp -implicitDefEqProofs [cntF,h]
theorem ADg (D:Dn) (hH:R6 (D 188)):FU (Body D WZ):=by
 intro d v hu
 by_cases h1:d.deal.ok=true
 ·by_cases h2:d.deal.version<v
  ·simp -implicitDefEqProofs [h1,h2]
   refine Aa (hH d.up v hu) ?_
   simp -implicitDefEqProofs [Pe,h1,h2]
  ·simp -implicitDefEqProofs [h1,h2,Pe]
 ·simp -implicitDefEqProofs [h1,Pe]
theorem Apx (D:Dn) (hB:FU (D 229)):FU (Body D QB):=by
 intro d v hu
 simp -implicitDefEqProofs
 refine Aa (hB d v hu) ?_
 simp -implicitDefEqProofs
end Go.Eng.T
namespace Go.Eng.T
def nums:Nat→Int→List Int
 | 0,_=> []
 | n+1,k=>k::nums n (k+1)
@[simp] theorem AAE:∀(n:Nat) (k:Int),(nums n k).length=n
 | 0,_=>rfl
 | n+1,k=>by simp[nums,AAE n]
theorem ABH:∀(n:Nat) (k:Int) (j:Nat) (h:j<(nums n k).length),(nums n k)[j]=k+j
 | 0,k,j,h=>by simp[nums]at h
 | n+1,k,0,h=>by simp[nums]
 | n+1,k,j+1,h=>by
  simp only[nums,List.getElem_cons_succ]
  rw[ABH n (k+1) j (by simpa[nums]using h)]
  simp;omega
def mkL {α:Type} (mc:α→Nat) (mk:α→Int→α):List α→Int→List α
 | [],_=> []
 | x::r,k=>mk x k::mkL mc mk r (k+mc x)
def mcL {α:Type} (mc:α→Nat) (xs:List α):Nat:=(xs.map mc).sum
section
variable {α:Type} {mc:α→Nat} {mk:α→Int→α}
@[simp] theorem AEv:∀(xs:List α) (k:Int),(mkL mc mk xs k).length=xs.length
 | [],_=>rfl
 | x::r,k=>by simp[mkL,AEv r]
theorem AD0:∀(xs:List α) (k:Int) (j:Nat) (h:j<xs.length),(mkL mc mk xs k)[j]'(by simpa using h)=mk xs[j] (k+(mcL mc (xs.take j):Nat))
 | [],k,j,h=>by simp at h
 | x::r,k,0,h=>by simp[mkL,mcL]
 | x::r,k,j+1,h=>by
  simp only[mkL,List.getElem_cons_succ]
  rw[AD0 r (k+mc x) j (by simpa using h)]
  simp[mcL];congr 1;omega
theorem At6 (ys:List α):∀(xs:List α) (k:Int),mkL mc mk (xs++ys) k=mkL mc mk xs k++mkL mc mk ys (k+(mcL mc xs:Nat))
 | [],k=>by simp[mkL,mcL]
 | x::r,k=>by
  simp only[List.cons_append,mkL,At6 ys r]
  simp[mcL];congr 1;omega
def mkJ (mc:α→Nat) (mk:α→Int→α) (xs:List α) (k:Int) (j:Nat):List α:=mkL mc mk (xs.take j) k++xs.drop j
@[simp] theorem AHt {xs:List α} {k:Int} {j:Nat} (h:j≤xs.length):(mkJ mc mk xs k j).length=xs.length:=by simp[mkJ];omega
end
theorem Cv {α:Type} {f:α→List V} {e:Nat} (hf:∀x,(f x).length=e) {o:Nat} (ho:o<e) {v:V} {y:α}:∀ {xs:List α} {j:Nat} (h:j<xs.length),f y=(f xs[j]).set o v→(xs.flatMap f).set (j*e+o) v=(xs.set j y).flatMap f
 | [],j,h,_=>by simp at h
 | x::xs,0,_,hy=>by
  simp only[List.flatMap_cons,List.set_cons_zero,Nat.zero_mul,Nat.zero_add]
  rw[List.set_append_left _ _ (by rw[hf];exact ho),hy]
  rfl
 | x::xs,j+1,h,hy=>by
  simp only[List.flatMap_cons,List.set_cons_succ]
  have e1:(j+1)*e+o=(f x).length+(j*e+o):=by rw[hf,Nat.add_mul];omega
  rw[e1,List.set_append_right _ _ (by omega),Nat.add_sub_cancel_left,Cv hf ho (by simpa using h) (by simpa using hy)]
@[simp high] theorem AHs {xs:List Gu} {j:Nat} (h:j<xs.length) (a:Int):(xs.flatMap CF).set (j*4) (.sc (.int .i64 a))=(xs.set j ⟨a,xs[j].drops,xs[j].strips,xs[j].lists⟩).flatMap CF:=Cv (o:=0) JC (by omega) h rfl
@[simp high] theorem AHC {xs:List Gu} {j:Nat} (h:j<xs.length) {n:Nat} (a:List Int) (hn:n=a.length):(xs.flatMap CF).set (j*4+1) (.sl 0 1 n (ints a))=(xs.set j ⟨xs[j].limit,a,xs[j].strips,xs[j].lists⟩).flatMap CF:=by subst hn;exact Cv (o:=1) JC (by omega) h rfl
@[simp high] theorem AHz {xs:List Gu} {j:Nat} (h:j<xs.length) {n:Nat} (a:List Int) (hn:n=a.length):(xs.flatMap CF).set (j*4+2) (.sl 0 1 n (ints a))=(xs.set j ⟨xs[j].limit,xs[j].drops,a,xs[j].lists⟩).flatMap CF:=by subst hn;exact Cv (o:=2) JC (by omega) h rfl
@[simp high] theorem AHh {xs:List Gu} {j:Nat} (h:j<xs.length) (a:Bool):(xs.flatMap CF).set (j*4+3) (.sc (.bool a))=(xs.set j ⟨xs[j].limit,xs[j].drops,xs[j].strips,a⟩).flatMap CF:=Cv (o:=3) JC (by omega) h rfl
@[simp high] theorem AGb {xs:List Cw} {j:Nat} (h:j<xs.length) (a:Bool):(xs.flatMap AP).set (j*5) (.sc (.bool a))=(xs.set j ⟨⟨a,xs[j].deal.version,xs[j].deal.tags⟩,xs[j].tries,xs[j].up⟩).flatMap AP:=Cv (o:=0) DX (by omega) h rfl
@[simp high] theorem AFN {xs:List Cw} {j:Nat} (h:j<xs.length) (a:Int):(xs.flatMap AP).set (j*5+1) (.sc (.int .i64 a))=(xs.set j ⟨⟨xs[j].deal.ok,a,xs[j].deal.tags⟩,xs[j].tries,xs[j].up⟩).flatMap AP:=Cv (o:=1) DX (by omega) h rfl
@[simp high] theorem AFU {xs:List Cw} {j:Nat} (h:j<xs.length) {n:Nat} (a:List Int) (hn:n=a.length):(xs.flatMap AP).set (j*5+2) (.sl 0 1 n (ints a))=(xs.set j ⟨⟨xs[j].deal.ok,xs[j].deal.version,a⟩,xs[j].tries,xs[j].up⟩).flatMap AP:=by subst hn;exact Cv (o:=2) DX (by omega) h rfl
@[simp high] theorem AFE {xs:List Cw} {j:Nat} (h:j<xs.length) (a:Int):(xs.flatMap AP).set (j*5+3) (.sc (.int .i64 a))=(xs.set j ⟨⟨xs[j].deal.ok,xs[j].deal.version,xs[j].deal.tags⟩,a,xs[j].up⟩).flatMap AP:=Cv (o:=3) DX (by omega) h rfl
@[simp high] theorem AFG {xs:List Cw} {j:Nat} (h:j<xs.length) {n:Nat} (a:List Int) (hn:n=a.length):(xs.flatMap AP).set (j*5+4) (.sl 0 1 n (ints a))=(xs.set j ⟨⟨xs[j].deal.ok,xs[j].deal.version,xs[j].deal.tags⟩,xs[j].tries,a⟩).flatMap AP:=by subst hn;exact Cv (o:=4) DX (by omega) h rfl
@[simp high] theorem AEk {xs:List AL} {j:Nat} (h:j<xs.length) {n:Nat} (a:List Int) (hn:n=a.length):(xs.flatMap Ak).set (j*4) (.sl 0 1 n (ints a))=(xs.set j ⟨a,xs[j].tags,xs[j].path,xs[j].cls⟩).flatMap Ak:=by subst hn;exact Cv (o:=0) Ee (by omega) h rfl
@[simp high] theorem ADM {xs:List AL} {j:Nat} (h:j<xs.length) {n:Nat} (a:List Int) (hn:n=a.length):(xs.flatMap Ak).set (j*4+1) (.sl 0 1 n (ints a))=(xs.set j ⟨xs[j].versions,a,xs[j].path,xs[j].cls⟩).flatMap Ak:=by subst hn;exact Cv (o:=1) Ee (by omega) h rfl
@[simp high] theorem ADs {xs:List AL} {j:Nat} (h:j<xs.length) {n:Nat} (a:List Gu) (hn:n=a.length):(xs.flatMap Ak).set (j*4+2) (.sl 0 4 n (a.flatMap CF))=(xs.set j ⟨xs[j].versions,xs[j].tags,a,xs[j].cls⟩).flatMap Ak:=by subst hn;exact Cv (o:=2) Ee (by omega) h rfl
@[simp high] theorem ADq {xs:List AL} {j:Nat} (h:j<xs.length) (a:Int):(xs.flatMap Ak).set (j*4+3) (.sc (.int .i64 a))=(xs.set j ⟨xs[j].versions,xs[j].tags,xs[j].path,a⟩).flatMap Ak:=Cv (o:=3) Ee (by omega) h rfl
@[simp high] theorem AFI {xs:List BA} {j:Nat} (h:j<xs.length) (a:Int):(xs.flatMap Ar).set (j*8) (.sc (.int .i64 a))=(xs.set j ⟨a,xs[j].tick,xs[j].on,⟨⟨xs[j].dialed.deal.ok,xs[j].dialed.deal.version,xs[j].dialed.deal.tags⟩,xs[j].dialed.tries,xs[j].dialed.up⟩⟩).flatMap Ar:=Cv (o:=0) BL (by omega) h rfl
@[simp high] theorem AFH {xs:List BA} {j:Nat} (h:j<xs.length) (a:Int):(xs.flatMap Ar).set (j*8+1) (.sc (.int .i64 a))=(xs.set j ⟨xs[j].fin,a,xs[j].on,⟨⟨xs[j].dialed.deal.ok,xs[j].dialed.deal.version,xs[j].dialed.deal.tags⟩,xs[j].dialed.tries,xs[j].dialed.up⟩⟩).flatMap Ar:=Cv (o:=1) BL (by omega) h rfl
@[simp high] theorem AFh {xs:List BA} {j:Nat} (h:j<xs.length) (a:Bool):(xs.flatMap Ar).set (j*8+2) (.sc (.bool a))=(xs.set j ⟨xs[j].fin,xs[j].tick,a,⟨⟨xs[j].dialed.deal.ok,xs[j].dialed.deal.version,xs[j].dialed.deal.tags⟩,xs[j].dialed.tries,xs[j].dialed.up⟩⟩).flatMap Ar:=Cv (o:=2) BL (by omega) h rfl
@[simp high] theorem AFl {xs:List BA} {j:Nat} (h:j<xs.length) (a:Bool):(xs.flatMap Ar).set (j*8+3) (.sc (.bool a))=(xs.set j ⟨xs[j].fin,xs[j].tick,xs[j].on,⟨⟨a,xs[j].dialed.deal.version,xs[j].dialed.deal.tags⟩,xs[j].dialed.tries,xs[j].dialed.up⟩⟩).flatMap Ar:=Cv (o:=3) BL (by omega) h rfl
@[simp high] theorem AFd {xs:List BA} {j:Nat} (h:j<xs.length) (a:Int):(xs.flatMap Ar).set (j*8+4) (.sc (.int .i64 a))=(xs.set j ⟨xs[j].fin,xs[j].tick,xs[j].on,⟨⟨xs[j].dialed.deal.ok,a,xs[j].dialed.deal.tags⟩,xs[j].dialed.tries,xs[j].dialed.up⟩⟩).flatMap Ar:=Cv (o:=4) BL (by omega) h rfl
@[simp high] theorem AFF {xs:List BA} {j:Nat} (h:j<xs.length) {n:Nat} (a:List Int) (hn:n=a.length):(xs.flatMap Ar).set (j*8+5) (.sl 0 1 n (ints a))=(xs.set j ⟨xs[j].fin,xs[j].tick,xs[j].on,⟨⟨xs[j].dialed.deal.ok,xs[j].dialed.deal.version,a⟩,xs[j].dialed.tries,xs[j].dialed.up⟩⟩).flatMap Ar:=by subst hn;exact Cv (o:=5) BL (by omega) h rfl
@[simp high] theorem AFC {xs:List BA} {j:Nat} (h:j<xs.length) (a:Int):(xs.flatMap Ar).set (j*8+6) (.sc (.int .i64 a))=(xs.set j ⟨xs[j].fin,xs[j].tick,xs[j].on,⟨⟨xs[j].dialed.deal.ok,xs[j].dialed.deal.version,xs[j].dialed.deal.tags⟩,a,xs[j].dialed.up⟩⟩).flatMap Ar:=Cv (o:=6) BL (by omega) h rfl
@[simp high] theorem AFL {xs:List BA} {j:Nat} (h:j<xs.length) {n:Nat} (a:List Int) (hn:n=a.length):(xs.flatMap Ar).set (j*8+7) (.sl 0 1 n (ints a))=(xs.set j ⟨xs[j].fin,xs[j].tick,xs[j].on,⟨⟨xs[j].dialed.deal.ok,xs[j].dialed.deal.version,xs[j].dialed.deal.tags⟩,xs[j].dialed.tries,a⟩⟩).flatMap Ar:=by subst hn;exact Cv (o:=7) BL (by omega) h rfl
@[simp high] theorem AGF {xs:List Event} {j:Nat} (h:j<xs.length) (a:Int):(xs.flatMap CY).set (j*6) (.sc (.int .i64 a))=(xs.set j ⟨a,xs[j].n,⟨xs[j].box.limit,xs[j].box.drops,xs[j].box.strips,xs[j].box.lists⟩⟩).flatMap CY:=Cv (o:=0) DV (by omega) h rfl
@[simp high] theorem AGk {xs:List Event} {j:Nat} (h:j<xs.length) (a:Int):(xs.flatMap CY).set (j*6+1) (.sc (.int .i64 a))=(xs.set j ⟨xs[j].kind,a,⟨xs[j].box.limit,xs[j].box.drops,xs[j].box.strips,xs[j].box.lists⟩⟩).flatMap CY:=Cv (o:=1) DV (by omega) h rfl
@[simp high] theorem AGe {xs:List Event} {j:Nat} (h:j<xs.length) (a:Int):(xs.flatMap CY).set (j*6+2) (.sc (.int .i64 a))=(xs.set j ⟨xs[j].kind,xs[j].n,⟨a,xs[j].box.drops,xs[j].box.strips,xs[j].box.lists⟩⟩).flatMap CY:=Cv (o:=2) DV (by omega) h rfl
@[simp high] theorem AGc {xs:List Event} {j:Nat} (h:j<xs.length) {n:Nat} (a:List Int) (hn:n=a.length):(xs.flatMap CY).set (j*6+3) (.sl 0 1 n (ints a))=(xs.set j ⟨xs[j].kind,xs[j].n,⟨xs[j].box.limit,a,xs[j].box.strips,xs[j].box.lists⟩⟩).flatMap CY:=by subst hn;exact Cv (o:=3) DV (by omega) h rfl
@[simp high] theorem AGg {xs:List Event} {j:Nat} (h:j<xs.length) {n:Nat} (a:List Int) (hn:n=a.length):(xs.flatMap CY).set (j*6+4) (.sl 0 1 n (ints a))=(xs.set j ⟨xs[j].kind,xs[j].n,⟨xs[j].box.limit,xs[j].box.drops,a,xs[j].box.lists⟩⟩).flatMap CY:=by subst hn;exact Cv (o:=4) DV (by omega) h rfl
@[simp high] theorem AGC {xs:List Event} {j:Nat} (h:j<xs.length) (a:Bool):(xs.flatMap CY).set (j*6+5) (.sc (.bool a))=(xs.set j ⟨xs[j].kind,xs[j].n,⟨xs[j].box.limit,xs[j].box.drops,xs[j].box.strips,a⟩⟩).flatMap CY:=Cv (o:=5) DV (by omega) h rfl
end Go.Eng.T
namespace Go.Eng.T
theorem Bb {y:Ty} {ys:List Ty} {cs:List V} (h:Yn (y::ys) cs):∃a b,Dat y a∧Yn ys b∧cs=a++b:=by simp only[Yn]at h;exact h
theorem RH {cs:List V} (h:Yn [] cs):cs=[]:=by simp only[Yn]at h;exact h
theorem Aap {ys:List Ty} {cs:List V} (h:Dat (.st ys) cs):Yn ys cs:=by simp only[Dat]at h;exact h
def rgI (n:Int):Prop:= -9223372036854775808≤n∧n≤9223372036854775807
theorem rg_of {n:Int} (h:(Lit.int .i64 n).wf=true):rgI n:=by
 simp only[Lit.wf,IntKind.min,IntKind.max,IntKind.bits,IntKind.signed,Bool.and_eq_true,decide_eq_true_eq]at h
 exact⟨h.1,h.2⟩
theorem AaF {cs:List V} (h:Dat (.int .i64) cs):∃n,cs=[.sc (.int .i64 n)]∧rgI n:=by
 simp only[Dat]at h
 obtain⟨n,h1,h2⟩:=h
 exact⟨n,h2,rg_of h1⟩
theorem ADY {cs:List V} (h:Dat .bool cs):∃b,cs=[.sc (.bool b)]:=by simp only[Dat]at h;exact h
theorem Alb {α:Type} {f:α→List V} {p:α→Prop}:∀ {xs:List (List V)},(∀x,x∈xs→∃d,x=f d∧p d)→∃ds:List α,xs=ds.map f∧∀d,d∈ds→p d
 | [],_=>⟨[],rfl,by simp⟩
 | x::xs,h=>by
  obtain⟨d,rfl,hd⟩:=h x (by simp)
  obtain⟨ds,rfl,hds⟩:=Alb (xs:=xs) fun y hy=>h y (by simp[hy])
  exact⟨d::ds,rfl,by intro y hy;rcases List.mem_cons.1 hy with rfl | hy;exact hd;exact hds y hy⟩
theorem Akz {α:Type} {y:Ty} {f:α→List V} {p:α→Prop} (hf:∀cs,Dat y cs→∃d,cs=f d∧p d) {cs:List V} (h:Dat (.sl y) cs):
 ∃ds:List α,cs=[.sl 0 y.cells ds.length (ds.flatMap f)]∧ds.length≤maxLen∧∀d,d∈ds→p d:=by
 simp only[Dat]at h
 obtain⟨xs,h1,h2,rfl⟩:=h
 obtain⟨ds,rfl,h3⟩:=Alb (f:=f) (p:=p) (xs:=xs) fun x hx=>hf x (h2 x hx)
 exact⟨ds,by simp[List.flatMap_def],by simpa using h1,h3⟩
def TF (xs:List Int):Prop:=∀x,x∈xs→rgI x
def rgS {α:Type} (f:α→Prop) (xs:List α):Prop:=∀x,x∈xs→f x
theorem QO {cs:List V} (h:Dat (.sl (.int .i64)) cs):∃xs:List Int,cs=[.sl 0 1 xs.length (ints xs)]∧Jr xs∧TF xs:=by
 obtain⟨ds,h1,h2,h3⟩:=Akz (f:=fun n=> [V.sc (.int .i64 n)]) (p:=rgI) (fun cs h=>AaF h) h
 refine⟨ds,?_,h2,h3⟩
 have e:ds.flatMap (fun n=> [V.sc (.int .i64 n)])=ints ds:=by
  clear h1 h2 h3
  induction ds with
  | nil=>rfl
  | cons a ds ih=>rw[List.flatMap_cons,ih];rfl
 rw[h1,e]
 rfl
def AAf:Ty:= .st [.bool,.int .i64,.sl (.int .i64)]
def AAu (d:AfW):Prop:=rgI d.version∧TF d.tags
theorem ACY {cs:List V} (h:Dat AAf cs):∃x:AfW,cs=X7 x∧ApE x∧AAu x:=by
 have h0:=Aap h
 obtain⟨a0,r0,g0,h1,e0⟩:=Bb h0
 obtain⟨x0,rfl⟩:=ADY g0
 obtain⟨a1,r1,g1,h2,e1⟩:=Bb h1
 obtain⟨x1,rfl,w1⟩:=AaF g1
 obtain⟨a2,r2,g2,h3,e2⟩:=Bb h2
 obtain⟨x2,rfl,l2,w2⟩:=QO g2
 have z:=RH h3
 subst z;subst e2;subst e1;subst e0
 exact⟨⟨x0,x1,x2⟩,rfl,l2,⟨w1,w2⟩⟩
def AB7:Ty:= .st [.int .i64,.sl (.int .i64),.sl (.int .i64),.bool]
def Awi (d:Gu):Prop:=rgI d.limit∧TF d.drops∧TF d.strips
theorem AF8 {cs:List V} (h:Dat AB7 cs):∃x:Gu,cs=CF x∧Hw x∧Awi x:=by
 have h0:=Aap h
 obtain⟨a0,r0,g0,h1,e0⟩:=Bb h0
 obtain⟨x0,rfl,w0⟩:=AaF g0
 obtain⟨a1,r1,g1,h2,e1⟩:=Bb h1
 obtain⟨x1,rfl,l1,w1⟩:=QO g1
 obtain⟨a2,r2,g2,h3,e2⟩:=Bb h2
 obtain⟨x2,rfl,l2,w2⟩:=QO g2
 obtain⟨a3,r3,g3,h4,e3⟩:=Bb h3
 obtain⟨x3,rfl⟩:=ADY g3
 have z:=RH h4
 subst z;subst e3;subst e2;subst e1;subst e0
 exact⟨⟨x0,x1,x2,x3⟩,rfl,⟨l1,l2⟩,⟨w0,w1,w2⟩⟩
theorem AEn {cs:List V} (h:Dat (.sl AB7) cs):∃xs:List Gu,cs=[.sl 0 4 xs.length (xs.flatMap CF)]∧lnS Hw xs∧rgS Awi xs:=by
 obtain⟨ds,h1,h2,h3⟩:=Akz (f:=CF) (p:=fun x=>Hw x∧Awi x) (fun cs h=>AF8 h) h
 exact⟨ds,h1,⟨h2,fun j hj=>(h3 _ (List.getElem_mem hj)).1⟩,fun x hx=>(h3 x hx).2⟩
def Adc:Ty:= .st [AAf,.int .i64,.sl (.int .i64)]
def XF (d:Cw):Prop:=AAu d.deal∧rgI d.tries∧TF d.up
theorem AnP {cs:List V} (h:Dat Adc cs):∃x:Cw,cs=AP x∧OV x∧XF x:=by
 have h0:=Aap h
 obtain⟨a0,r0,g0,h1,e0⟩:=Bb h0
 obtain⟨x0,rfl,l0,w0⟩:=ACY g0
 obtain⟨a1,r1,g1,h2,e1⟩:=Bb h1
 obtain⟨x1,rfl,w1⟩:=AaF g1
 obtain⟨a2,r2,g2,h3,e2⟩:=Bb h2
 obtain⟨x2,rfl,l2,w2⟩:=QO g2
 have z:=RH h3
 subst z;subst e2;subst e1;subst e0
 exact⟨⟨x0,x1,x2⟩,rfl,⟨l0,l2⟩,⟨w0,w1,w2⟩⟩
theorem Avq {cs:List V} (h:Dat (.sl Adc) cs):∃xs:List Cw,cs=[.sl 0 5 xs.length (xs.flatMap AP)]∧lnS OV xs∧rgS XF xs:=by
 obtain⟨ds,h1,h2,h3⟩:=Akz (f:=AP) (p:=fun x=>OV x∧XF x) (fun cs h=>AnP h) h
 exact⟨ds,h1,⟨h2,fun j hj=>(h3 _ (List.getElem_mem hj)).1⟩,fun x hx=>(h3 x hx).2⟩
def AnC:Ty:= .st [.int .i64,.sl (.int .i64),.int .i64,.bool]
def AnB (d:EH):Prop:=rgI d.version∧TF d.stages∧rgI d.pos
theorem Ava {cs:List V} (h:Dat AnC cs):∃x:EH,cs=Gx x∧YH x∧AnB x:=by
 have h0:=Aap h
 obtain⟨a0,r0,g0,h1,e0⟩:=Bb h0
 obtain⟨x0,rfl,w0⟩:=AaF g0
 obtain⟨a1,r1,g1,h2,e1⟩:=Bb h1
 obtain⟨x1,rfl,l1,w1⟩:=QO g1
 obtain⟨a2,r2,g2,h3,e2⟩:=Bb h2
 obtain⟨x2,rfl,w2⟩:=AaF g2
 obtain⟨a3,r3,g3,h4,e3⟩:=Bb h3
 obtain⟨x3,rfl⟩:=ADY g3
 have z:=RH h4
 subst z;subst e3;subst e2;subst e1;subst e0
 exact⟨⟨x0,x1,x2,x3⟩,rfl,l1,⟨w0,w1,w2⟩⟩
def AaY:Ty:= .st [.sl (.int .i64),.sl (.int .i64),.sl AB7,.int .i64]
def Wm (d:AL):Prop:=TF d.versions∧TF d.tags∧rgS Awi d.path∧rgI d.cls
theorem Ard {cs:List V} (h:Dat AaY cs):∃x:AL,cs=Ak x∧Ir x∧Wm x:=by
 have h0:=Aap h
 obtain⟨a0,r0,g0,h1,e0⟩:=Bb h0
 obtain⟨x0,rfl,l0,w0⟩:=QO g0
 obtain⟨a1,r1,g1,h2,e1⟩:=Bb h1
 obtain⟨x1,rfl,l1,w1⟩:=QO g1
 obtain⟨a2,r2,g2,h3,e2⟩:=Bb h2
 obtain⟨x2,rfl,l2,w2⟩:=AEn g2
 obtain⟨a3,r3,g3,h4,e3⟩:=Bb h3
 obtain⟨x3,rfl,w3⟩:=AaF g3
 have z:=RH h4
 subst z;subst e3;subst e2;subst e1;subst e0
 exact⟨⟨x0,x1,x2,x3⟩,rfl,⟨l0,l1,l2⟩,⟨w0,w1,w2,w3⟩⟩
theorem Aou {cs:List V} (h:Dat (.sl AaY) cs):∃xs:List AL,cs=[.sl 0 4 xs.length (xs.flatMap Ak)]∧lnS Ir xs∧rgS Wm xs:=by
 obtain⟨ds,h1,h2,h3⟩:=Akz (f:=Ak) (p:=fun x=>Ir x∧Wm x) (fun cs h=>Ard h) h
 exact⟨ds,h1,⟨h2,fun j hj=>(h3 _ (List.getElem_mem hj)).1⟩,fun x hx=>(h3 x hx).2⟩
def AiA:Ty:= .st [.int .i64,.int .i64,.bool,Adc]
def AcN (d:BA):Prop:=rgI d.fin∧rgI d.tick∧XF d.dialed
theorem Axx {cs:List V} (h:Dat AiA cs):∃x:BA,cs=Ar x∧Sj x∧AcN x:=by
 have h0:=Aap h
 obtain⟨a0,r0,g0,h1,e0⟩:=Bb h0
 obtain⟨x0,rfl,w0⟩:=AaF g0
 obtain⟨a1,r1,g1,h2,e1⟩:=Bb h1
 obtain⟨x1,rfl,w1⟩:=AaF g1
 obtain⟨a2,r2,g2,h3,e2⟩:=Bb h2
 obtain⟨x2,rfl⟩:=ADY g2
 obtain⟨a3,r3,g3,h4,e3⟩:=Bb h3
 obtain⟨x3,rfl,l3,w3⟩:=AnP g3
 have z:=RH h4
 subst z;subst e3;subst e2;subst e1;subst e0
 exact⟨⟨x0,x1,x2,x3⟩,rfl,l3,⟨w0,w1,w3⟩⟩
theorem Auo {cs:List V} (h:Dat (.sl AiA) cs):∃xs:List BA,cs=[.sl 0 8 xs.length (xs.flatMap Ar)]∧lnS Sj xs∧rgS AcN xs:=by
 obtain⟨ds,h1,h2,h3⟩:=Akz (f:=Ar) (p:=fun x=>Sj x∧AcN x) (fun cs h=>Axx h) h
 exact⟨ds,h1,⟨h2,fun j hj=>(h3 _ (List.getElem_mem hj)).1⟩,fun x hx=>(h3 x hx).2⟩
def Ah8:Ty:= .st [.sl (.int .i64),.sl (.int .i64),.int .i64,.sl AaY,AnC,.int .i64,.int .i64,.sl Adc,.sl AiA,.int .i64,.int .i64,.int .i64]
def Aqo (d:World):Prop:=TF d.server∧TF d.tags∧rgI d.key∧rgS Wm d.ends∧AnB d.rollout∧rgI d.least∧rgI d.percent∧rgS XF d.stage∧rgS AcN d.log∧rgI d.now∧rgI d.hurt∧rgI d.reached
theorem AAs {cs:List V} (h:Dat Ah8 cs):∃x:World,cs=EF x∧AcK x∧Aqo x:=by
 have h0:=Aap h
 obtain⟨a0,r0,g0,h1,e0⟩:=Bb h0
 obtain⟨x0,rfl,l0,w0⟩:=QO g0
 obtain⟨a1,r1,g1,h2,e1⟩:=Bb h1
 obtain⟨x1,rfl,l1,w1⟩:=QO g1
 obtain⟨a2,r2,g2,h3,e2⟩:=Bb h2
 obtain⟨x2,rfl,w2⟩:=AaF g2
 obtain⟨a3,r3,g3,h4,e3⟩:=Bb h3
 obtain⟨x3,rfl,l3,w3⟩:=Aou g3
 obtain⟨a4,r4,g4,h5,e4⟩:=Bb h4
 obtain⟨x4,rfl,l4,w4⟩:=Ava g4
 obtain⟨a5,r5,g5,h6,e5⟩:=Bb h5
 obtain⟨x5,rfl,w5⟩:=AaF g5
 obtain⟨a6,r6,g6,h7,e6⟩:=Bb h6
 obtain⟨x6,rfl,w6⟩:=AaF g6
 obtain⟨a7,r7,g7,h8,e7⟩:=Bb h7
 obtain⟨x7,rfl,l7,w7⟩:=Avq g7
 obtain⟨a8,r8,g8,h9,e8⟩:=Bb h8
 obtain⟨x8,rfl,l8,w8⟩:=Auo g8
 obtain⟨a9,r9,g9,h10,e9⟩:=Bb h9
 obtain⟨x9,rfl,w9⟩:=AaF g9
 obtain⟨a10,r10,g10,h11,e10⟩:=Bb h10
 obtain⟨x10,rfl,w10⟩:=AaF g10
 obtain⟨a11,r11,g11,h12,e11⟩:=Bb h11
 obtain⟨x11,rfl,w11⟩:=AaF g11
 have z:=RH h12
 subst z;subst e11;subst e10;subst e9;subst e8;subst e7;subst e6;subst e5;subst e4;subst e3;subst e2;subst e1;subst e0
 exact⟨⟨x0,x1,x2,x3,x4,x5,x6,x7,x8,x9,x10,x11⟩,rfl,⟨l0,l1,l3,l4,l7,l8⟩,⟨w0,w1,w2,w3,w4,w5,w6,w7,w8,w9,w10,w11⟩⟩
theorem ABV {v:V} (h:Az9 Ah8 v):∃x:World,v=arg (EF x)∧AcK x∧Aqo x:=by
 obtain⟨cs,hd,rfl⟩:=h
 obtain⟨x,rfl,w⟩:=AAs hd
 exact⟨x,rfl,w⟩
end Go.Eng.T
namespace Go.Eng.T
theorem AFA {n:Nat} {l:Int} (h:l<n):szl n l= -1:=by unfold szl;rw[if_pos h]
theorem Aa9 {n:Nat} {l:Int} (h:¬l<n):szl n l=l-n:=by unfold szl;rw[if_neg h]
theorem Rc {w:World} (h:Ay w≤4194304):w.log.length≤4194304:=by have:=IK (f:=Av) (xs:=w.log);unfold Ay at h;omega
theorem JQ {w:World} (h:Ay w≤4194304):w.ends.length≤4194304:=by have:=IK (f:=Ac) (xs:=w.ends);unfold Ay at h;omega
theorem WT (a b:Int):(a==b)=decide (a=b):=by by_cases h:a=b<;>simp[h]
end Go.Eng.T
namespace Go.Eng.T
set_option maxRecDepth 20000
theorem AGN {xs:List BA} {j:Nat} (h:j<xs.length):xs[j].dialed.up.length≤Bw Av xs:=by
 have:=size_at (f:=Av) h
 simp only[Av,Al]at this⊢
 omega
theorem AbN {w:World} (h:Ay w≤4194304) {j:Nat} (hj:j<w.log.length):w.log[j].dialed.up.length≤maxLen:=by
 have:=AGN hj
 unfold Ay at h
 unfold maxLen;omega
def Hy (w:World) (l:BA):Bool:=l.on&&Pe w.rollout.version l.dialed
abbrev ZH (R:Rel):Prop:=∀(w:World) (l:BA),l.dialed.up.length≤maxLen→R [arg (EF w),arg (Ar l)] [] (B (Hy w l)) []
theorem ABr (D:Dn) (hB:FU (D Ag5)):ZH (Body D VN):=by
 intro w l hl
 by_cases h:l.on=true
 ·simp -implicitDefEqProofs [h]
  refine Aa (hB l.dialed _ hl) ?_
  simp -implicitDefEqProofs [Hy,h]
 ·simp -implicitDefEqProofs [h,Hy]
theorem ABf (D:Dn) (hB:FU (D AhR)):ZH (Body D V5):=by
 intro w l hl
 by_cases h:l.on=true
 ·simp -implicitDefEqProofs [h]
  refine Aa (hB l.dialed _ hl) ?_
  simp -implicitDefEqProofs [Hy,h]
 ·simp -implicitDefEqProofs [h,Hy]
abbrev JM (R:Rel):Prop:=∀(w:World),Ay w≤4194304→R [arg (EF w)] [] (B (decide (w.hurt=cntF (Hy w) w.log))) []
theorem Ao4 (D:Dn) (hB:ZH (D AcV)):JM (Body D Qx):=by
 intro w hsz
 have hl:=Rc hsz
 simp -implicitDefEqProofs
 refine Ae (fun k s=>∃j,j+k=w.log.length∧s=⟨[.undef,.ptr 0 0,.undef,.sc (.int .i64 (cntF (Hy w) (w.log.take j))),.sc (.int .i64 j),.undef,.undef],[.var ((EF w).map (AZ 1))]⟩) ?_ w.log.length _ ⟨0,by simp,by simp[cntF]⟩
 intro k s ⟨j,hj,hs⟩
 subst hs
 by_cases hjn:j<w.log.length
 ·have hw:IntKind.i64.wrap ((j:Int)+1)=(j+1:Nat):=by rw[Ad (by omega) (by omega)];simp
  have hc:=Adn (f:=Hy w) hjn
  have hcl:=ApG (f:=Hy w) (xs:=w.log) (j:=j) (by omega)
  have hw2:IntKind.i64.wrap ((cntF (Hy w) (w.log.take j):Int)+1)=(cntF (Hy w) (w.log.take j)+1:Nat):=by rw[Ad (by omega) (by omega)];simp
  simp -implicitDefEqProofs [hjn]
  refine Aa (hB w w.log[j] (AbN hsz hjn)) ?_
  by_cases he:Hy w w.log[j]=true
  ·simp -implicitDefEqProofs [he]
   exact⟨k-1,by omega,j+1,by omega,by rw[hc,hw2];simp[he],by simp[hw]⟩
  ·simp -implicitDefEqProofs [he]
   exact⟨k-1,by omega,j+1,by omega,by rw[hc];simp[he],by simp[hw]⟩
 ·have hx:=Aia (f:=Hy w) (xs:=w.log) (j:=j) (by omega)
  simp -implicitDefEqProofs [hjn,hx]
  exact decide_eq_decide.2 eq_comm
theorem ApB (D:Dn) (hB:ZH (D AbS)):JM (Body D PS):=by
 intro w hsz
 have hl:=Rc hsz
 simp -implicitDefEqProofs
 refine Ae (fun k s=>∃j o,j+k=w.log.length∧s=⟨[.undef,.ptr 0 0,.undef,.sc (.int .i64 (cntF (Hy w) (w.log.take j))),.undef,.sl 1 8 w.log.length (w.log.flatMap Ar),.sc (.int .i64 w.log.length),.sc (.int .i64 j),.undef,.undef],[.var ((EF w).map (AZ 1)),o]⟩) ?_ w.log.length _ ⟨0,.free,by simp,by simp[cntF]⟩
 intro k s ⟨j,o,hj,hs⟩
 subst hs
 by_cases hjn:j<w.log.length
 ·have hw:IntKind.i64.wrap ((j:Int)+1)=(j+1:Nat):=by rw[Ad (by omega) (by omega)];simp
  have hc:=Adn (f:=Hy w) hjn
  have hcl:=ApG (f:=Hy w) (xs:=w.log) (j:=j) (by omega)
  have hw2:IntKind.i64.wrap ((cntF (Hy w) (w.log.take j):Int)+1)=(cntF (Hy w) (w.log.take j)+1:Nat):=by rw[Ad (by omega) (by omega)];simp
  simp -implicitDefEqProofs [hjn]
  refine Aa (hB w w.log[j] (AbN hsz hjn)) ?_
  by_cases he:Hy w w.log[j]=true
  ·simp -implicitDefEqProofs [he]
   exact⟨k-1,by omega,j+1,by omega,by rw[hc,hw2];simp[he],by simp[hw]⟩
  ·simp -implicitDefEqProofs [he]
   exact⟨k-1,by omega,j+1,by omega,by rw[hc];simp[he],by simp[hw]⟩
 ·have hx:=Aia (f:=Hy w) (xs:=w.log) (j:=j) (by omega)
  simp -implicitDefEqProofs [hjn,hx,WT]
end Go.Eng.T
namespace Go.Eng.T
set_option maxRecDepth 20000
abbrev Q5 (a b c:Int):Prop:=b≤a∧a≤c
end Go.Eng.T
namespace Go.Eng.T
set_option maxRecDepth 20000
def Gs {α:Type} (p:α→Bool):List α→Int→Int
 | [],_=> -1
 | x::r,i=>if p x then i else Gs p r (i+1)
theorem Nz {α:Type} {p:α→Bool} {xs:List α} {j:Nat} (h:j<xs.length):Gs p (xs.drop j) j=if p xs[j]then(j:Int)else Gs p (xs.drop (j+1)) ((j:Int)+1):=by
 rw[List.drop_eq_getElem_cons h];rfl
theorem Sm {α:Type} {p:α→Bool} {xs:List α} {j:Nat} (h:xs.length≤j):Gs p (xs.drop j) j= -1:=by rw[List.drop_eq_nil_of_le h];rfl
theorem QN {α:Type} {p:α→Bool}:∀ {xs:List α} {i:Int},0≤i→(0≤Gs p xs i)=(xs.any p=true)
 | [],i,_=>by simp[Gs]
 | x::r,i,h=>by
  by_cases hp:p x=true
  ·simp[Gs,hp,h]
  ·have:=QN (p:=p) (xs:=r) (i:=i+1) (by omega)
   simp[Gs,hp]at *
   exact this
def Ke (caps:List V):Prop:=(∀(H:Hp) (n:Nat),J4 H n (caps.map fun v=>(false,v))=some [])∧(∀(H Hr:Hp) (n:Nat),IV H Hr n (caps.map fun v=>(false,v))=some caps)∧∀H:Hp,AuC H caps=some caps
theorem ER:Ke []:=⟨fun _ _=>rfl,fun _ _ _=>rfl,fun _=>rfl⟩
theorem Aas {v:V} {r:List V} (hv:∀H,ro H v=some v) (hv2:∀H,ro2 H v=some v) (h:Ke r):Ke (v::r):=
 ⟨fun H n=>h.1 H n,fun H Hr n=>by simp only[List.map_cons,IV,hv,h.2.1],fun H=>by simp only[AuC,hv2,h.2.2]⟩
theorem Aem {a:Int} {r:List V} (h:Ke r):Ke (.rptr 1 [.sc (.int .i64 a)] 0::r):=Aas (fun H=>by simp) (fun H=>by simp) h
abbrev VO (D:Dn) (R:Rel):Prop:=∀(xs:List Int) (g:Nat) (caps:List V) (p:Int→Bool),xs.length≤maxLen→Ke caps→(∀x:Int,D g (I x::caps) [] (B (p x)) [])→
 R [.sl 1 1 xs.length (ints xs),.fn g caps] [] (I (Gs p xs 0)) []
theorem Arc (D:Dn):VO D (Body D FQ):=by
 intro xs g caps p hl hc hp
 unfold maxLen at hl
 simp -implicitDefEqProofs
 refine Ae (fun k s=>∃j,j+k=xs.length∧Gs p xs 0=Gs p (xs.drop j) j∧s=⟨[.sl 1 1 xs.length (ints xs),.fn g caps,.undef,.undef,.sc (.int .i64 xs.length),.sc (.int .i64 j),.undef,.undef],[]⟩) ?_ xs.length _ ⟨0,by simp,by simp,by simp⟩
 intro k s ⟨j,hj,hi,hs⟩
 subst hs
 by_cases hjn:j<xs.length
 ·have hw:IntKind.i64.wrap ((j:Int)+1)=(j+1:Nat):=by rw[Ad (by omega) (by omega)];simp
  rw[Nz hjn]at hi
  simp -implicitDefEqProofs [hjn,hc.1,hc.2.1]
  refine Aa (hp xs[j]) ?_
  by_cases he:p xs[j]=true
  ·rw[if_pos he]at hi
   simp -implicitDefEqProofs [he,hi]
  ·rw[if_neg he]at hi
   simp -implicitDefEqProofs [he]
   exact⟨k-1,by omega,j+1,by omega,by simpa using hi,by simp[hw]⟩
 ·rw[Sm (by omega)]at hi
  simp -implicitDefEqProofs [hjn,hi]
abbrev KF (D:Dn) (R:Rel):Prop:=∀(xs:List Int) (g:Nat) (caps:List V) (p:Int→Bool),xs.length≤maxLen→Ke caps→(∀x:Int,D g (I x::caps) [] (B (p x)) [])→
 R [.sl 1 1 xs.length (ints xs),.fn g caps] [] (B (xs.any p)) []
theorem AkL (D:Dn) (hI:VO D (D PZ)):KF D (Body D E8):=by
 intro xs g caps p hl hc hp
 simp -implicitDefEqProofs [hc.2.2]
 refine Aa (hI xs g caps p hl hc hp) ?_
 have e:decide (0≤Gs p xs 0)=xs.any p:=by rw[Bool.eq_iff_iff];simp only[decide_eq_true_eq];rw[QN (by omega)]
 simp -implicitDefEqProofs [e]
def allIn (xs:List Int) (lo hi:Int):Bool:=xs.all fun x=>decide (Q5 x lo hi)
abbrev Jv (R:Rel):Prop:=∀(xs:List Int) (lo hi:Int),xs.length≤maxLen→R [.sl 1 1 xs.length (ints xs),I lo,I hi] [] (B (allIn xs lo hi)) []
abbrev QL (R:Rel):Prop:=∀(x lo hi:Int),R [I x,.rptr 1 [I lo] 0,.rptr 1 [I hi] 0] [] (B (!decide (Q5 x lo hi))) []
theorem Amf (D:Dn) (hI:SG (D Bz)):QL (Body D Lh):=by
 intro x lo hi
 simp -implicitDefEqProofs
 refine Aa (hI _ _ _) ?_
 simp -implicitDefEqProofs
theorem Ap9 (D:Dn) (h1:QL (D AaS)) (hC:KF D (D HV)):Jv (Body D Ov):=by
 intro xs lo hi hl
 simp -implicitDefEqProofs
 refine Aa (hC xs 266 _ (fun x=> !decide (Q5 x lo hi)) hl (Aem (Aem ER)) (fun x=>h1 x lo hi)) ?_
 have e:(xs.any fun x=> !decide (Q5 x lo hi))= !allIn xs lo hi:=by unfold allIn;rw[List.all_eq_not_any_not];simp
 generalize(xs.any fun x=> !decide (Q5 x lo hi))=b at e⊢
 subst e
 simp -implicitDefEqProofs
end Go.Eng.T
namespace Go.Eng.T
set_option maxRecDepth 20000
abbrev SH (a b c:Int):Prop:=b≤a∧a≤c
def Nv (xs:List Int) (j:Nat):Bool:=(List.range j).all fun i=>decide (SH (xs.getD i 0) 1 100)&&(decide (i=0)||decide (xs.getD (i-1) 0<xs.getD i 0))
theorem Xi (xs:List Int) (j:Nat):Nv xs (j+1)=(Nv xs j&&(decide (SH (xs.getD j 0) 1 100)&&(decide (j=0)||decide (xs.getD (j-1) 0<xs.getD j 0)))):=by
 unfold Nv
 rw[List.range_succ,List.all_append]
 simp
theorem Adi {xs:List Int} {j:Nat} (h:j<xs.length) (hn:Nv xs (j+1)=false):Nv xs xs.length=false:=by
 have:∀n,Nv xs (j+1+n)=false:=by
  intro n
  induction n with
  | zero=>exact hn
  | succ n ih=>rw[show j+1+(n+1)=(j+1+n)+1 by omega,Xi,ih];rfl
 have:=this (xs.length-(j+1))
 rwa [show j+1+(xs.length-(j+1))=xs.length by omega]at this
def Bp (r:EH):Bool:=
 Nv r.stages r.stages.length&&(decide (SH r.version 1 9)&&decide (SH r.stages.length 1 5)&&decide (r.stages.getD (r.stages.length-1) 0=100)&&decide (SH r.pos 0 (r.stages.length-1)))
abbrev FR (R:Rel):Prop:=∀r:EH,r.stages.length≤4194304→R [arg (Gx r)] [] (B (Bp r)) []
theorem getD_at {xs:List Int} {j:Nat} (h:j<xs.length):xs.getD j 0=xs[j]:=by simp[h]
theorem AoM (D:Dn) (hI:SG (D CB)):FR (Body D Pt):=by
 intro r hl
 simp -implicitDefEqProofs
 refine Ae (fun k s=>∃j,j+k=r.stages.length∧Nv r.stages j=true∧s=⟨[.undef,.ptr 0 0,.undef,.sc (.int .i64 j),.undef,.undef],[.var ((Gx r).map (AZ 1))]⟩) ?_ r.stages.length _ ⟨0,by simp,by simp[Nv],by simp⟩
 intro k s ⟨j,hj,hr,hs⟩
 subst hs
 by_cases hjn:j<r.stages.length
 ·have hw:IntKind.i64.wrap ((j:Int)+1)=(j+1:Nat):=by rw[Ad (by omega) (by omega)];simp
  have hst:=Xi r.stages j
  rw[hr,Bool.true_and,getD_at hjn]at hst
  simp -implicitDefEqProofs [hjn]
  refine Aa (hI _ _ _) ?_
  by_cases h1:SH r.stages[j] 1 100
  rotate_left
  ·have e:Bp r=false:=by unfold Bp;rw[Adi hjn (by rw[hst];simp[h1])];rfl
   simp -implicitDefEqProofs [h1,e]
  by_cases h0:j=0
  ·subst h0
   simp -implicitDefEqProofs [h1]
   exact⟨k-1,by omega,1,by omega,by rw[hst];simp[h1],by simpa using hw⟩
  ·have hp:((j-1:Nat):Int)=(j:Int)-1:=by omega
   have hw2:IntKind.i64.wrap ((j:Int)-1)=((j-1:Nat):Int):=by rw[Ad (by omega) (by omega)];omega
   have h2:(0:Int)<j:=by omega
   have h2':0<j:=by omega
   have h3:j-1<r.stages.length:=by omega
   rw[getD_at h3]at hst
   by_cases h4:r.stages[j-1]<r.stages[j]
   ·have h4':¬r.stages[j]≤r.stages[j-1]:=by omega
    simp -implicitDefEqProofs [h1,h2,h2',hw2,h3,hjn,h4']
    exact⟨k-1,by omega,j+1,by omega,by rw[hst];simp[h1,h0,h4],by simp[hw]⟩
   ·have e:Bp r=false:=by unfold Bp;rw[Adi hjn (by rw[hst];simp[h1,h0,h4])];rfl
    have h4':r.stages[j]≤r.stages[j-1]:=by omega
    simp -implicitDefEqProofs [h1,h2,h2',hw2,h3,hjn,h4',e]
 ·obtain rfl:j=r.stages.length:=by omega
  simp -implicitDefEqProofs
  refine Aa (hI _ _ _) ?_
  by_cases h1:SH r.version 1 9
  rotate_left
  ·simp -implicitDefEqProofs [h1,Bp]
  simp -implicitDefEqProofs [h1]
  refine Aa (hI _ _ _) ?_
  by_cases h2:SH r.stages.length 1 5
  rotate_left
  ·simp -implicitDefEqProofs [h2,Bp]
  have hw2:IntKind.i64.wrap ((r.stages.length:Int)-1)=((r.stages.length-1:Nat):Int):=by rw[Ad (by omega) (by omega)];omega
  have h3:r.stages.length-1<r.stages.length:=by omega
  have h5:0<r.stages.length:=by omega
  by_cases h4:r.stages[r.stages.length-1]=100
  rotate_left
  ·simp -implicitDefEqProofs [h2,hw2,h3,h4,h5,Bp]
  simp -implicitDefEqProofs [h2,hw2,h3,h4,h5]
  refine Aa (hI _ _ _) ?_
  have hc:((r.stages.length-1:Nat):Int)=(r.stages.length:Int)-1:=by omega
  have e:Bp r=decide (SH r.pos 0 ((r.stages.length-1:Nat):Int)):=by unfold Bp;rw[hr,getD_at h3,h4,hc];simp[h1,h2]
  simp -implicitDefEqProofs [e]
theorem Aqq (D:Dn) (hI:SG (D Bz)):FR (Body D PU):=by
 intro r hl
 simp -implicitDefEqProofs
 refine Ae (fun k s=>∃j v3 v4,j+k=r.stages.length∧Nv r.stages j=true∧s=⟨[.undef,.ptr 0 0,.undef,v3,v4,.sl 1 1 r.stages.length (ints r.stages),.sc (.int .i64 r.stages.length),.sc (.int .i64 j),.undef,.undef],[.var ((Gx r).map (AZ 1))]⟩) ?_ r.stages.length _ ⟨0,.undef,.undef,by simp,by simp[Nv],by simp⟩
 intro k s ⟨j,v3,v4,hj,hr,hs⟩
 subst hs
 by_cases hjn:j<r.stages.length
 ·have hw:IntKind.i64.wrap ((j:Int)+1)=(j+1:Nat):=by rw[Ad (by omega) (by omega)];simp
  have hst:=Xi r.stages j
  rw[hr,Bool.true_and,getD_at hjn]at hst
  simp -implicitDefEqProofs [hjn]
  refine Aa (hI _ _ _) ?_
  by_cases h1:SH r.stages[j] 1 100
  rotate_left
  ·have e:Bp r=false:=by unfold Bp;rw[Adi hjn (by rw[hst];simp[h1])];rfl
   simp -implicitDefEqProofs [h1,e]
  by_cases h0:j=0
  ·subst h0
   simp -implicitDefEqProofs [h1]
   exact⟨k-1,by omega,1,by omega,by rw[hst];simp[h1],by simpa using hw⟩
  ·have hp:((j-1:Nat):Int)=(j:Int)-1:=by omega
   have hw2:IntKind.i64.wrap ((j:Int)-1)=((j-1:Nat):Int):=by rw[Ad (by omega) (by omega)];omega
   have h2:(0:Int)<j:=by omega
   have h2':0<j:=by omega
   have h3:j-1<r.stages.length:=by omega
   rw[getD_at h3]at hst
   by_cases h4:r.stages[j-1]<r.stages[j]
   ·have h4':¬r.stages[j]≤r.stages[j-1]:=by omega
    simp -implicitDefEqProofs [h1,h2,h2',hw2,h3,hjn,h4']
    exact⟨k-1,by omega,j+1,by omega,by rw[hst];simp[h1,h0,h4],by simp[hw]⟩
   ·have e:Bp r=false:=by unfold Bp;rw[Adi hjn (by rw[hst];simp[h1,h0,h4])];rfl
    have h4':r.stages[j]≤r.stages[j-1]:=by omega
    simp -implicitDefEqProofs [h1,h2,h2',hw2,h3,hjn,h4',e]
 ·obtain rfl:j=r.stages.length:=by omega
  simp -implicitDefEqProofs
  refine Aa (hI _ _ _) ?_
  by_cases h1:SH r.version 1 9
  rotate_left
  ·simp -implicitDefEqProofs [h1,Bp]
  simp -implicitDefEqProofs [h1]
  refine Aa (hI _ _ _) ?_
  by_cases h2:SH r.stages.length 1 5
  rotate_left
  ·simp -implicitDefEqProofs [h2,Bp]
  have hw2:IntKind.i64.wrap ((r.stages.length:Int)-1)=((r.stages.length-1:Nat):Int):=by rw[Ad (by omega) (by omega)];omega
  have h3:r.stages.length-1<r.stages.length:=by omega
  have h5:0<r.stages.length:=by omega
  by_cases h4:r.stages[r.stages.length-1]=100
  rotate_left
  ·simp -implicitDefEqProofs [h2,hw2,h3,h4,h5,Bp]
  simp -implicitDefEqProofs [h2,hw2,h3,h4,h5]
  refine Aa (hI _ _ _) ?_
  have hc:((r.stages.length-1:Nat):Int)=(r.stages.length:Int)-1:=by omega
  have e:Bp r=decide (SH r.pos 0 ((r.stages.length-1:Nat):Int)):=by unfold Bp;rw[hr,getD_at h3,h4,hc];simp[h1,h2]
  simp -implicitDefEqProofs [e]
def KW (a b:Int):Int:=if SH a 0 1000000000000∧SH b 1 1000000000000 then(a+b-1).tdiv b else 0
abbrev O5 (R:Rel):Prop:=∀a b:Int,R [I a,I b] [] (I (KW a b)) []
theorem Ar9 {a b:Int} (h1:0≤a) (h2:a≤4000000000000) (h3:1≤b):IntKind.i64.wrap (a.tdiv b)=a.tdiv b:=by
 have a1:0≤a.tdiv b:=Int.tdiv_nonneg h1 (by omega)
 have a2:a.tdiv b≤a:=Int.tdiv_le_self _ h1
 exact Ad (by omega) (by omega)
theorem AuL (D:Dn) (hI:SG (D CB)):O5 (Body D Uv):=by
 intro a b
 simp -implicitDefEqProofs
 refine Aa (hI _ _ _) ?_
 by_cases h1:SH a 0 1000000000000
 rotate_left
 ·simp -implicitDefEqProofs [h1,KW]
 simp -implicitDefEqProofs [h1]
 refine Aa (hI _ _ _) ?_
 by_cases h2:SH b 1 1000000000000
 rotate_left
 ·simp -implicitDefEqProofs [h2,KW]
 have w1:IntKind.i64.wrap (a+b)=a+b:=Ad (by omega) (by omega)
 have w2:IntKind.i64.wrap (a+b-1)=a+b-1:=Ad (by omega) (by omega)
 have w3:=Ar9 (a:=a+b-1) (b:=b) (by omega) (by omega) (by omega)
 have h0:¬b=0:=by omega
 have e:KW a b=(a+b-1).tdiv b:=by unfold KW;rw[if_pos ⟨h1,h2⟩]
 simp -implicitDefEqProofs [h2,w1,w2,w3,h0,e]
theorem Aux (D:Dn) (hI:SG (D Bz)):O5 (Body D Uq):=by
 intro a b
 simp -implicitDefEqProofs
 refine Aa (hI _ _ _) ?_
 by_cases h1:SH a 0 1000000000000
 rotate_left
 ·simp -implicitDefEqProofs [h1,KW]
 simp -implicitDefEqProofs [h1]
 refine Aa (hI _ _ _) ?_
 by_cases h2:SH b 1 1000000000000
 rotate_left
 ·simp -implicitDefEqProofs [h2,KW]
 have w1:IntKind.i64.wrap (a+b)=a+b:=Ad (by omega) (by omega)
 have w2:IntKind.i64.wrap (a+b-1)=a+b-1:=Ad (by omega) (by omega)
 have w3:=Ar9 (a:=a+b-1) (b:=b) (by omega) (by omega) (by omega)
 have h0:¬b=0:=by omega
 have e:KW a b=(a+b-1).tdiv b:=by unfold KW;rw[if_pos ⟨h1,h2⟩]
 simp -implicitDefEqProofs [h2,w1,w2,w3,h0,e]
end Go.Eng.T
namespace Go.Eng.T
set_option maxRecDepth 20000
theorem AAr {xs:List Int} {n:Nat} (h:Nv xs n=true) {i:Nat} (hi:i<n):SH (xs.getD i 0) 1 100:=by
 unfold Nv at h
 have:=List.all_eq_true.1 h i (List.mem_range.2 hi)
 simp at this
 exact⟨this.1.1,this.1.2⟩
theorem ArH {r:EH} (h:Bp r=true):0≤r.pos∧r.pos<r.stages.length∧r.stages.length≤5∧SH (r.stages.getD r.pos.toNat 0) 1 100:=by
 unfold Bp at h
 simp only[Bool.and_eq_true,decide_eq_true_eq]at h
 obtain⟨h1,⟨⟨h2,h3⟩,h4⟩,h5⟩:=h
 refine⟨h5.1,by omega,by omega,AAr h1 (by omega)⟩
def countIn (r:EH) (n:Int):Int:=if Bp r=true∧r.off=false∧SH n 0 10000 then KW (n*r.stages.getD r.pos.toNat 0) 100 else 0
abbrev OW (R:Rel):Prop:=∀(r:EH) (n:Int),r.stages.length≤4194304→R [arg (Gx r),I n] [] (I (countIn r n)) []
theorem AvX {n x:Int} (h1:SH n 0 10000) (h2:SH x 1 100):IntKind.i64.wrap (n*x)=n*x:=by
 have a1:0≤n*x:=Int.mul_nonneg h1.1 (by omega)
 have a2:n*x≤10000*100:=Int.mul_le_mul h1.2 h2.2 (by omega) (by omega)
 exact Ad (by omega) (by omega)
theorem Avx (D:Dn) (hR:FR (D Qo)) (hI:SG (D CB)) (hC:O5 (D AmH)):OW (Body D TS):=by
 intro r n hl
 simp -implicitDefEqProofs
 refine Aa (hR r hl) ?_
 by_cases h1:Bp r=true
 rotate_left
 ·simp -implicitDefEqProofs [h1,countIn]
 by_cases h2:r.off=true
 ·simp -implicitDefEqProofs [h1,h2,countIn]
 simp -implicitDefEqProofs [h1,h2]
 refine Aa (hI _ _ _) ?_
 by_cases h3:SH n 0 10000
 rotate_left
 ·simp -implicitDefEqProofs [h3,countIn]
 obtain⟨p1,p2,p3,p4⟩:=ArH h1
 obtain⟨q,hq⟩:∃q:Nat,r.pos=q:=⟨r.pos.toNat,by omega⟩
 have hq2:q<r.stages.length:=by omega
 have e:countIn r n=KW (n*r.stages[q]) 100:=by unfold countIn;rw[if_pos ⟨h1,by simpa using h2,h3⟩,hq];simp[hq2]
 have p4':SH r.stages[q] 1 100:=by rw[hq]at p4;simpa[hq2]using p4
 have hw:=AvX h3 p4'
 simp -implicitDefEqProofs [h3,hq,hq2,hw]
 refine Aa (hC _ _) ?_
 simp -implicitDefEqProofs [e]
theorem AtU (D:Dn) (hR:FR (D Qk)) (hI:SG (D Bz)) (hC:O5 (D Ams)):OW (Body D TI):=by
 intro r n hl
 simp -implicitDefEqProofs
 refine Aa (hR r hl) ?_
 by_cases h1:Bp r=true
 rotate_left
 ·simp -implicitDefEqProofs [h1,countIn]
 by_cases h2:r.off=true
 ·simp -implicitDefEqProofs [h1,h2,countIn]
 simp -implicitDefEqProofs [h1,h2]
 refine Aa (hI _ _ _) ?_
 by_cases h3:SH n 0 10000
 rotate_left
 ·simp -implicitDefEqProofs [h3,countIn]
 obtain⟨p1,p2,p3,p4⟩:=ArH h1
 obtain⟨q,hq⟩:∃q:Nat,r.pos=q:=⟨r.pos.toNat,by omega⟩
 have hq2:q<r.stages.length:=by omega
 have e:countIn r n=KW (n*r.stages[q]) 100:=by unfold countIn;rw[if_pos ⟨h1,by simpa using h2,h3⟩,hq];simp[hq2]
 have p4':SH r.stages[q] 1 100:=by rw[hq]at p4;simpa[hq2]using p4
 have hw:=AvX h3 p4'
 simp -implicitDefEqProofs [h3,hq,hq2,hw]
 refine Aa (hC _ _) ?_
 simp -implicitDefEqProofs [e]
def isIn (r:EH) (i n:Int):Bool:=decide (0≤i)&&decide (i<n)&&decide (i<countIn r n)
abbrev Aid (R:Rel):Prop:=∀(w:World) (i:Int),w.ends.length≤4194304→R [arg (EF w),I i] [] (B (decide (SH i 0 ((w.ends.length:Int)-1)))) []
theorem ABa (D:Dn) (hI:SG (D Bz)):Aid (Body D VD):=by
 intro w i hl
 have hw:IntKind.i64.wrap ((w.ends.length:Int)-1)=(w.ends.length:Int)-1:=Ad (by omega) (by omega)
 simp -implicitDefEqProofs [hw]
 refine Aa (hI _ _ _) ?_
 simp -implicitDefEqProofs
def ADC (w:World) (i:Int):Bool:=decide (SH i 0 ((w.ends.length:Int)-1))&&isIn w.rollout i w.ends.length&&(match w.ends[i.toNat]? with | some e=>decide (w.rollout.version∈e.versions) | none=>false)
theorem Ro {w:World} (h:Ay w≤4194304):w.rollout.stages.length≤4194304:=by unfold Ay Bg at h;omega
end Go.Eng.T
namespace Go.Eng.T
set_option maxRecDepth 20000
abbrev Sv (R:Rel):Prop:=∀r:EH,Bg r≤4194304→R [arg (Gx r)] [] (.agg (Gx r)) []
theorem Ayi (D:Dn):Sv (Body D Tw):=by
 intro r h
 have hb:r.stages.length*8≤1099511627776:=by unfold Bg at h;omega
 simp -implicitDefEqProofs [hb]
end Go.Eng.T
namespace Go.Eng.T
set_option maxRecDepth 20000
theorem NZ {w:World} (h:Ay w≤4194304):w.server.length≤4194304∧w.tags.length≤4194304∧Bw Ac w.ends≤4194304∧Bw Al w.stage≤4194304∧Bw Av w.log≤4194304:=by unfold Ay at h;omega
end Go.Eng.T
namespace Go.Eng.T
set_option maxRecDepth 20000
theorem AC5 {α:Type} {f:α→Nat}:∀ {xs:List α} {j:Nat} (h:j<xs.length) (y:α),((xs.set j y).map f).sum+f xs[j]=(xs.map f).sum+f y
 | [],j,h,_=>by simp at h
 | x::r,0,h,y=>by simp;omega
 | x::r,j+1,h,y=>by
  have:=AC5 (f:=f) (xs:=r) (j:=j) (by simpa using h) y
  simp at *
  omega
end Go.Eng.T
namespace Go.Eng.T
set_option maxRecDepth 20000
theorem Sw {xs:List Int} {lo hi:Int} {j:Nat} (h:j<xs.length):allIn (xs.take (j+1)) lo hi=(allIn (xs.take j) lo hi&&decide (Q5 xs[j] lo hi)):=by
 have e:xs.take (j+1)=xs.take j++ [xs[j]]:=by simp
 unfold allIn
 rw[e,List.all_append];simp
theorem AqU {xs:List Int} {lo hi:Int} {j:Nat} (h:j<xs.length) (hn:¬Q5 xs[j] lo hi):allIn xs lo hi=false:=by
 unfold allIn
 rw[List.all_eq_false]
 exact⟨xs[j],List.getElem_mem h,by simp[hn]⟩
theorem Ae1 {xs:List Int} {lo hi:Int} {j:Nat} (h:xs.length≤j) (ha:allIn (xs.take j) lo hi=true):allIn xs lo hi=true:=by rwa [List.take_of_length_le h]at ha
abbrev Yr (R:Rel):Prop:=∀xs:List Int,xs.length≤maxLen→R [.sl 1 1 xs.length (ints xs)] [] (B (allIn xs 0 255)) []
theorem ACc (D:Dn) (hI:SG (D CB)):Yr (Body D VG):=by
 intro xs hl
 unfold maxLen at hl
 simp -implicitDefEqProofs
 refine Ae (fun k s=>∃j,j+k=xs.length∧allIn (xs.take j) 0 255=true∧s=⟨[.sl 1 1 xs.length (ints xs),.undef,.sc (.int .i64 j),.undef,.undef],[]⟩) ?_ xs.length _ ⟨0,by simp,by simp[allIn],by simp⟩
 intro k s ⟨j,hj,hp,hs⟩
 subst hs
 by_cases hjn:j<xs.length
 ·have hw:IntKind.i64.wrap ((j:Int)+1)=(j+1:Nat):=by rw[Ad (by omega) (by omega)];simp
  simp -implicitDefEqProofs [hjn]
  refine Aa (hI _ _ _) ?_
  by_cases h1:Q5 xs[j] 0 255
  ·simp -implicitDefEqProofs [h1]
   exact⟨k-1,by omega,j+1,by omega,by rw[Sw hjn,hp];simp[h1],by simp[hw]⟩
  ·simp -implicitDefEqProofs [h1,AqU hjn h1]
 ·simp -implicitDefEqProofs [hjn,Ae1 (by omega) hp]
def Hz (b:Gu):Bool:=decide (Q5 b.limit 0 9)&&decide (b.drops.length≤6)&&decide (b.strips.length≤6)&&allIn b.drops 0 255&&allIn b.strips 0 255
abbrev RQ (R:Rel):Prop:=∀b:Gu,Hw b→R [arg (CF b)] [] (B (Hz b)) []
theorem AB1 (D:Dn) (hI:SG (D CB)) (hB:Yr (D Vw)):RQ (Body D Xo):=by
 intro b hl
 simp -implicitDefEqProofs
 refine Aa (hI _ _ _) ?_
 by_cases h1:Q5 b.limit 0 9
 rotate_left
 ·simp -implicitDefEqProofs [h1,Hz]
 by_cases h2:b.drops.length≤6
 rotate_left
 ·have h2':¬(b.drops.length:Int)≤6:=by omega
  simp -implicitDefEqProofs [h1,h2',h2,Hz]
 have h2':(b.drops.length:Int)≤6:=by omega
 by_cases h3:b.strips.length≤6
 rotate_left
 ·have h3':¬(b.strips.length:Int)≤6:=by omega
  simp -implicitDefEqProofs [h1,h2',h3',h3,Hz]
 have h3':(b.strips.length:Int)≤6:=by omega
 simp -implicitDefEqProofs [h1,h2',h3']
 refine Aa (hB _ hl.1) ?_
 by_cases h4:allIn b.drops 0 255=true
 rotate_left
 ·simp -implicitDefEqProofs [h4,Hz]
 simp -implicitDefEqProofs [h4]
 refine Aa (hB _ hl.2) ?_
 simp -implicitDefEqProofs [Hz,h1,h2,h3,h4]
theorem ABX (D:Dn) (hI:SG (D Bz)) (hB:Jv (D Kb)):RQ (Body D Ya):=by
 intro b hl
 simp -implicitDefEqProofs
 refine Aa (hI _ _ _) ?_
 by_cases h1:Q5 b.limit 0 9
 rotate_left
 ·simp -implicitDefEqProofs [h1,Hz]
 by_cases h2:b.drops.length≤6
 rotate_left
 ·have h2':¬(b.drops.length:Int)≤6:=by omega
  simp -implicitDefEqProofs [h1,h2',h2,Hz]
 have h2':(b.drops.length:Int)≤6:=by omega
 by_cases h3:b.strips.length≤6
 rotate_left
 ·have h3':¬(b.strips.length:Int)≤6:=by omega
  simp -implicitDefEqProofs [h1,h2',h3',h3,Hz]
 have h3':(b.strips.length:Int)≤6:=by omega
 simp -implicitDefEqProofs [h1,h2',h3']
 refine Aa (hB _ _ _ hl.1) ?_
 by_cases h4:allIn b.drops 0 255=true
 rotate_left
 ·simp -implicitDefEqProofs [h4,Hz]
 simp -implicitDefEqProofs [h4]
 refine Aa (hB _ _ _ hl.2) ?_
 simp -implicitDefEqProofs [Hz,h1,h2,h3,h4]
end Go.Eng.T
namespace Go.Eng.T
set_option maxRecDepth 20000
abbrev II (D:Dn) (R:Rel):Prop:=∀(xs:List AL) (g:Nat) (caps:List V) (p:AL→Bool),xs.length≤maxLen→Ke caps→(∀(j:Nat) (h:j<xs.length),D g (arg (Ak xs[j])::caps) [] (B (p xs[j])) [])→R [.sl 1 4 xs.length (xs.flatMap Ak),.fn g caps] [] (I (Gs p xs 0)) []
theorem YZ (D:Dn):II D (Body D Ce):=by
 intro xs g caps p hl hc hp
 unfold maxLen at hl
 simp -implicitDefEqProofs
 refine Ae (fun k s=>∃j,j+k=xs.length∧Gs p xs 0=Gs p (xs.drop j) j∧s=⟨[.sl 1 4 xs.length (xs.flatMap Ak),.fn g caps,.undef,.undef,.sc (.int .i64 xs.length),.sc (.int .i64 j),.undef,.undef],[]⟩) ?_ xs.length _ ⟨0,by simp,by simp,by simp⟩
 intro k s ⟨j,hj,hi,hs⟩
 subst hs
 by_cases hjn:j<xs.length
 ·have hw:IntKind.i64.wrap ((j:Int)+1)=(j+1:Nat):=by rw[Ad (by omega) (by omega)];simp
  rw[Nz hjn]at hi
  simp -implicitDefEqProofs [hjn,hc.1,hc.2.1]
  refine Aa (hp j hjn) ?_
  by_cases he:p xs[j]=true
  ·rw[if_pos he]at hi
   simp -implicitDefEqProofs [he,hi]
  ·rw[if_neg he]at hi
   simp -implicitDefEqProofs [he]
   exact⟨k-1,by omega,j+1,by omega,by simpa using hi,by simp[hw]⟩
 ·rw[Sm (by omega)]at hi
  simp -implicitDefEqProofs [hjn,hi]
abbrev GK (D:Dn) (R:Rel):Prop:=∀(xs:List AL) (g:Nat) (caps:List V) (p:AL→Bool),xs.length≤maxLen→Ke caps→(∀(j:Nat) (h:j<xs.length),D g (arg (Ak xs[j])::caps) [] (B (p xs[j])) [])→R [.sl 1 4 xs.length (xs.flatMap Ak),.fn g caps] [] (B (xs.any p)) []
theorem Vt (D:Dn) (hI:II D (D GU)):GK D (Body D BN):=by
 intro xs g caps p hl hc hp
 simp -implicitDefEqProofs [hc.2.2]
 refine Aa (hI xs g caps p hl hc hp) ?_
 have e:decide (0≤Gs p xs 0)=xs.any p:=by rw[Bool.eq_iff_iff];simp only[decide_eq_true_eq];rw[QN (by omega)]
 simp -implicitDefEqProofs [e]
abbrev JZ (D:Dn) (R:Rel):Prop:=∀(xs:List BA) (g:Nat) (caps:List V) (p:BA→Bool),xs.length≤maxLen→Ke caps→(∀(j:Nat) (h:j<xs.length),D g (arg (Ar xs[j])::caps) [] (B (p xs[j])) [])→R [.sl 1 8 xs.length (xs.flatMap Ar),.fn g caps] [] (I (Gs p xs 0)) []
theorem AcM (D:Dn):JZ D (Body D Cz):=by
 intro xs g caps p hl hc hp
 unfold maxLen at hl
 simp -implicitDefEqProofs
 refine Ae (fun k s=>∃j,j+k=xs.length∧Gs p xs 0=Gs p (xs.drop j) j∧s=⟨[.sl 1 8 xs.length (xs.flatMap Ar),.fn g caps,.undef,.undef,.sc (.int .i64 xs.length),.sc (.int .i64 j),.undef,.undef],[]⟩) ?_ xs.length _ ⟨0,by simp,by simp,by simp⟩
 intro k s ⟨j,hj,hi,hs⟩
 subst hs
 by_cases hjn:j<xs.length
 ·have hw:IntKind.i64.wrap ((j:Int)+1)=(j+1:Nat):=by rw[Ad (by omega) (by omega)];simp
  rw[Nz hjn]at hi
  simp -implicitDefEqProofs [hjn,hc.1,hc.2.1]
  refine Aa (hp j hjn) ?_
  by_cases he:p xs[j]=true
  ·rw[if_pos he]at hi
   simp -implicitDefEqProofs [he,hi]
  ·rw[if_neg he]at hi
   simp -implicitDefEqProofs [he]
   exact⟨k-1,by omega,j+1,by omega,by simpa using hi,by simp[hw]⟩
 ·rw[Sm (by omega)]at hi
  simp -implicitDefEqProofs [hjn,hi]
abbrev H7 (D:Dn) (R:Rel):Prop:=∀(xs:List BA) (g:Nat) (caps:List V) (p:BA→Bool),xs.length≤maxLen→Ke caps→(∀(j:Nat) (h:j<xs.length),D g (arg (Ar xs[j])::caps) [] (B (p xs[j])) [])→R [.sl 1 8 xs.length (xs.flatMap Ar),.fn g caps] [] (B (xs.any p)) []
theorem XU (D:Dn) (hI:JZ D (D Ig)):H7 D (Body D Cq):=by
 intro xs g caps p hl hc hp
 simp -implicitDefEqProofs [hc.2.2]
 refine Aa (hI xs g caps p hl hc hp) ?_
 have e:decide (0≤Gs p xs 0)=xs.any p:=by rw[Bool.eq_iff_iff];simp only[decide_eq_true_eq];rw[QN (by omega)]
 simp -implicitDefEqProofs [e]
abbrev OH (D:Dn) (R:Rel):Prop:=∀(xs:List Gu) (g:Nat) (caps:List V) (p:Gu→Bool),xs.length≤maxLen→Ke caps→(∀(j:Nat) (h:j<xs.length),D g (arg (CF xs[j])::caps) [] (B (p xs[j])) [])→R [.sl 1 4 xs.length (xs.flatMap CF),.fn g caps] [] (I (Gs p xs 0)) []
theorem Als (D:Dn):OH D (Body D Dv):=by
 intro xs g caps p hl hc hp
 unfold maxLen at hl
 simp -implicitDefEqProofs
 refine Ae (fun k s=>∃j,j+k=xs.length∧Gs p xs 0=Gs p (xs.drop j) j∧s=⟨[.sl 1 4 xs.length (xs.flatMap CF),.fn g caps,.undef,.undef,.sc (.int .i64 xs.length),.sc (.int .i64 j),.undef,.undef],[]⟩) ?_ xs.length _ ⟨0,by simp,by simp,by simp⟩
 intro k s ⟨j,hj,hi,hs⟩
 subst hs
 by_cases hjn:j<xs.length
 ·have hw:IntKind.i64.wrap ((j:Int)+1)=(j+1:Nat):=by rw[Ad (by omega) (by omega)];simp
  rw[Nz hjn]at hi
  simp -implicitDefEqProofs [hjn,hc.1,hc.2.1]
  refine Aa (hp j hjn) ?_
  by_cases he:p xs[j]=true
  ·rw[if_pos he]at hi
   simp -implicitDefEqProofs [he,hi]
  ·rw[if_neg he]at hi
   simp -implicitDefEqProofs [he]
   exact⟨k-1,by omega,j+1,by omega,by simpa using hi,by simp[hw]⟩
 ·rw[Sm (by omega)]at hi
  simp -implicitDefEqProofs [hjn,hi]
abbrev H9 (D:Dn) (R:Rel):Prop:=∀(xs:List Gu) (g:Nat) (caps:List V) (p:Gu→Bool),xs.length≤maxLen→Ke caps→(∀(j:Nat) (h:j<xs.length),D g (arg (CF xs[j])::caps) [] (B (p xs[j])) [])→R [.sl 1 4 xs.length (xs.flatMap CF),.fn g caps] [] (B (xs.any p)) []
theorem AcB (D:Dn) (hI:OH D (D JN)):H9 D (Body D C8):=by
 intro xs g caps p hl hc hp
 simp -implicitDefEqProofs [hc.2.2]
 refine Aa (hI xs g caps p hl hc hp) ?_
 have e:decide (0≤Gs p xs 0)=xs.any p:=by rw[Bool.eq_iff_iff];simp only[decide_eq_true_eq];rw[QN (by omega)]
 simp -implicitDefEqProofs [e]
end Go.Eng.T
namespace Go.Eng.T
set_option maxRecDepth 20000
def Am (t:Int):Bool:=decide (Q5 t 0 255)&&decide (t.tmod 16=10)
abbrev EW (R:Rel):Prop:=∀t:Int,R [I t] [] (B (Am t)) []
theorem AlF (D:Dn) (hI:SG (D CB)):EW (Body D OC):=by
 intro t
 simp -implicitDefEqProofs
 refine Aa (hI _ _ _) ?_
 by_cases h:Q5 t 0 255
 ·simp -implicitDefEqProofs [h,Am,WT]
 ·simp -implicitDefEqProofs [h,Am]
theorem Ama (D:Dn) (hI:SG (D Bz)):EW (Body D NG):=by
 intro t
 simp -implicitDefEqProofs
 refine Aa (hI _ _ _) ?_
 by_cases h:Q5 t 0 255
 ·simp -implicitDefEqProofs [h,Am,WT]
 ·simp -implicitDefEqProofs [h,Am]
abbrev F9 (R:Rel):Prop:=∀xs:List Int,xs.length≤maxLen→R [.sl 1 1 xs.length (ints xs)] [] (B (xs.any Am)) []
theorem Ph {α:Type} {p:α→Bool} {xs:List α} {j:Nat} (h:j<xs.length) (hp:p xs[j]=true):xs.any p=true:=List.any_eq_true.2 ⟨_,List.getElem_mem h,hp⟩
theorem X5 {α:Type} {p:α→Bool} {xs:List α} {j:Nat} (h:j<xs.length):(xs.take (j+1)).any p=((xs.take j).any p||p xs[j]):=by
 have e:xs.take (j+1)=xs.take j++ [xs[j]]:=by simp
 rw[e,List.any_append];simp
theorem any_none {α:Type} {p:α→Bool} {xs:List α} {j:Nat} (h:xs.length≤j) (ha:(xs.take j).any p=false):xs.any p=false:=by rwa [List.take_of_length_le h]at ha
theorem Anb (D:Dn) (hR:EW (D J8)):F9 (Body D Nr):=by
 intro xs hl
 unfold maxLen at hl
 simp -implicitDefEqProofs
 refine Ae (fun k s=>∃j,j+k=xs.length∧(xs.take j).any Am=false∧s=⟨[.sl 1 1 xs.length (ints xs),.undef,.sc (.int .i64 j),.undef,.undef],[]⟩) ?_ xs.length _ ⟨0,by simp,by simp,by simp⟩
 intro k s ⟨j,hj,hp,hs⟩
 subst hs
 by_cases hjn:j<xs.length
 ·have hw:IntKind.i64.wrap ((j:Int)+1)=(j+1:Nat):=by rw[Ad (by omega) (by omega)];simp
  simp -implicitDefEqProofs [hjn]
  refine Aa (hR _) ?_
  by_cases h1:Am xs[j]=true
  ·have e:=Ph hjn h1
   generalize xs.any Am=b at e
   subst e
   simp -implicitDefEqProofs [h1]
  ·simp -implicitDefEqProofs [h1]
   exact⟨k-1,by omega,j+1,by omega,by have:=X5 (p:=Am) hjn;rw[hp]at this;simpa[h1]using this,by simp[hw]⟩
 ·have e:=any_none (by omega) hp
  generalize xs.any Am=b at e
  subst e
  simp -implicitDefEqProofs [hjn]
theorem AlS (D:Dn) (hR:EW (D UH)) (hC:KF D (D HV)):F9 (Body D ND):=by
 intro xs hl
 simp -implicitDefEqProofs
 refine Aa (hC xs 279 _ Am hl ER (fun x=>hR x)) ?_
 generalize xs.any Am=b
 simp -implicitDefEqProofs
def Ih (l:BA):Bool:=l.dialed.deal.ok&&(l.dialed.deal.tags.any Am|| !decide (Q5 l.dialed.deal.version 1 9))
abbrev O6 (R:Rel):Prop:=∀w:World,Ay w≤4194304→R [arg (EF w)] [] (B (!w.log.any Ih)) []
theorem AfP {w:World} (h:Ay w≤4194304) {j:Nat} (hj:j<w.log.length):w.log[j].dialed.deal.tags.length≤maxLen:=by
 have:=size_at (f:=Av) hj
 have e:Av w.log[j]=w.log[j].dialed.deal.tags.length+w.log[j].dialed.up.length:=rfl
 unfold Ay at h
 unfold maxLen;omega
theorem AtS (D:Dn) (hH:F9 (D Ad8)) (hI:SG (D CB)):O6 (Body D Tx):=by
 intro w hsz
 have hl:=Rc hsz
 simp -implicitDefEqProofs
 refine Ae (fun k s=>∃j o1,j+k=w.log.length∧(w.log.take j).any Ih=false∧s=⟨[.undef,.ptr 0 0,.undef,.sc (.int .i64 j),.undef,.undef,.undef],[.var ((EF w).map (AZ 1)),o1]⟩) ?_ w.log.length _ ⟨0,.free,by simp,by simp,by simp⟩
 intro k s ⟨j,o1,hj,hp,hs⟩
 subst hs
 by_cases hjn:j<w.log.length
 ·have hw:IntKind.i64.wrap ((j:Int)+1)=(j+1:Nat):=by rw[Ad (by omega) (by omega)];simp
  have hst:=X5 (p:=Ih) hjn
  rw[hp,Bool.false_or]at hst
  by_cases h1:w.log[j].dialed.deal.ok=true
  rotate_left
  ·simp -implicitDefEqProofs [hjn,h1]
   exact⟨k-1,by omega,j+1,by omega,by simpa[Ih,h1]using hst,by simp[hw]⟩
  simp -implicitDefEqProofs [hjn,h1]
  refine Aa (hH _ (AfP hsz hjn)) ?_
  by_cases h2:w.log[j].dialed.deal.tags.any Am=true
  ·have e:=Ph (p:=Ih) hjn (by unfold Ih;rw[h1,h2];rfl)
   generalize w.log.any Ih=b at e
   generalize w.log[j].dialed.deal.tags.any Am=c at h2
   subst e;subst h2
   simp -implicitDefEqProofs
  have h2':w.log[j].dialed.deal.tags.any Am=false:=by simpa only[Bool.not_eq_true]using h2
  have hd:Ih w.log[j]= !decide (Q5 w.log[j].dialed.deal.version 1 9):=by unfold Ih;rw[h1,h2'];rfl
  generalize w.log[j].dialed.deal.tags.any Am=c at h2'
  subst h2'
  simp -implicitDefEqProofs
  refine Aa (hI _ _ _) ?_
  by_cases h3:Q5 w.log[j].dialed.deal.version 1 9
  ·simp -implicitDefEqProofs [h3]
   exact⟨k-1,by omega,j+1,by omega,by have:=hst;rw[hd]at this;simpa[h3]using this,by simp[hw]⟩
  ·have e:=Ph (p:=Ih) hjn (by rw[hd];simp[h3])
   generalize w.log.any Ih=b at e
   subst e
   simp -implicitDefEqProofs [h3]
 ·have e:=any_none (by omega) hp
  generalize w.log.any Ih=b at e
  subst e
  simp -implicitDefEqProofs [hjn]
abbrev YG (R:Rel):Prop:=∀l:BA,l.dialed.deal.tags.length≤maxLen→R [arg (Ar l)] [] (B (Ih l)) []
theorem Aul (D:Dn) (hH:F9 (D Oe)) (hI:SG (D Bz)):YG (Body D Qq):=by
 intro l hl
 by_cases h1:l.dialed.deal.ok=true
 rotate_left
 ·simp -implicitDefEqProofs [h1,Ih]
 simp -implicitDefEqProofs [h1]
 refine Aa (hH _ hl) ?_
 unfold Ih
 rw[h1]
 generalize l.dialed.deal.tags.any Am=c
 cases c
 rotate_left
 ·simp -implicitDefEqProofs
 simp -implicitDefEqProofs
 refine Aa (hI _ _ _) ?_
 simp -implicitDefEqProofs
theorem Au2 (D:Dn) (h1:YG (D AfU)) (hC:H7 D (D G8)):O6 (Body D TG):=by
 intro w hsz
 simp -implicitDefEqProofs
 refine Aa (hC w.log 247 _ Ih (by have:=Rc hsz;unfold maxLen;omega) ER (fun j hj=>h1 _ (AfP hsz hj))) ?_
 generalize w.log.any Ih=b
 simp -implicitDefEqProofs
end Go.Eng.T
namespace Go.Eng.T
set_option maxRecDepth 20000
abbrev InV (a b c:Int):Prop:=b≤a∧a≤c
def K9 (xs:List Int) (j:Nat):Bool:=(List.range j).all fun i=>decide (InV (xs.getD i 0) 1 9)&&(decide (i=0)||decide (xs.getD (i-1) 0<xs.getD i 0))
theorem SK (xs:List Int) (j:Nat):K9 xs (j+1)=(K9 xs j&&(decide (InV (xs.getD j 0) 1 9)&&(decide (j=0)||decide (xs.getD (j-1) 0<xs.getD j 0)))):=by
 unfold K9
 rw[List.range_succ,List.all_append]
 simp
theorem YD {xs:List Int} {j:Nat} (h:j<xs.length) (hn:K9 xs (j+1)=false):K9 xs xs.length=false:=by
 have:∀n,K9 xs (j+1+n)=false:=by
  intro n
  induction n with
  | zero=>exact hn
  | succ n ih=>rw[show j+1+(n+1)=(j+1+n)+1 by omega,SK,ih];rfl
 have:=this (xs.length-(j+1))
 rwa [show j+1+(xs.length-(j+1))=xs.length by omega]at this
theorem Xm {xs:List Int} {j:Nat} (h:j<xs.length):xs.getD j 0=xs[j]:=by simp[h]
def A9 (xs:List Int):Bool:=K9 xs xs.length&&decide (0<xs.length)
abbrev BK (R:Rel):Prop:=∀xs:List Int,xs.length≤maxLen→R [.sl 1 1 xs.length (ints xs)] [] (B (A9 xs)) []
theorem Aj5 (D:Dn) (hI:SG (D CB)):BK (Body D MW):=by
 intro xs hl
 unfold maxLen at hl
 simp -implicitDefEqProofs
 refine Ae (fun k s=>∃j,j+k=xs.length∧K9 xs j=true∧s=⟨[.sl 1 1 xs.length (ints xs),.undef,.sc (.int .i64 j),.undef,.undef],[]⟩) ?_ xs.length _ ⟨0,by simp,by simp[K9],by simp⟩
 intro k s ⟨j,hj,hr,hs⟩
 subst hs
 by_cases hjn:j<xs.length
 ·have hw:IntKind.i64.wrap ((j:Int)+1)=(j+1:Nat):=by rw[Ad (by omega) (by omega)];simp
  have hst:=SK xs j
  rw[hr,Bool.true_and,Xm hjn]at hst
  simp -implicitDefEqProofs [hjn]
  refine Aa (hI _ _ _) ?_
  by_cases h1:InV xs[j] 1 9
  rotate_left
  ·have e:A9 xs=false:=by unfold A9;rw[YD hjn (by rw[hst];simp[h1])];rfl
   simp -implicitDefEqProofs [h1,e]
  by_cases h0:j=0
  ·subst h0
   simp -implicitDefEqProofs [h1]
   exact⟨k-1,by omega,1,by omega,by rw[hst];simp[h1],by simpa using hw⟩
  ·have hw2:IntKind.i64.wrap ((j:Int)-1)=((j-1:Nat):Int):=by rw[Ad (by omega) (by omega)];omega
   have h2:(0:Int)<j:=by omega
   have h2':0<j:=by omega
   have h3:j-1<xs.length:=by omega
   rw[Xm h3]at hst
   by_cases h4:xs[j-1]<xs[j]
   ·have h4':¬xs[j]≤xs[j-1]:=by omega
    simp -implicitDefEqProofs [h1,h2,h2',hw2,h3,hjn,h4']
    exact⟨k-1,by omega,j+1,by omega,by rw[hst];simp[h1,h0,h4],by simp[hw]⟩
   ·have e:A9 xs=false:=by unfold A9;rw[YD hjn (by rw[hst];simp[h1,h0,h4])];rfl
    have h4':xs[j]≤xs[j-1]:=by omega
    simp -implicitDefEqProofs [h1,h2,h2',hw2,h3,hjn,h4',e]
 ·obtain rfl:j=xs.length:=by omega
  have e:A9 xs=decide (0<xs.length):=by unfold A9;rw[hr];rfl
  by_cases h5:0<xs.length
  ·have h5':(0:Int)<xs.length:=by omega
   simp -implicitDefEqProofs [e,h5,h5']
  ·have h5':¬(0:Int)<xs.length:=by omega
   simp -implicitDefEqProofs [e,h5,h5']
theorem Alf (D:Dn) (hI:SG (D Bz)):BK (Body D Mx):=by
 intro xs hl
 unfold maxLen at hl
 simp -implicitDefEqProofs
 refine Ae (fun k s=>∃j v2 v3,j+k=xs.length∧K9 xs j=true∧s=⟨[.sl 1 1 xs.length (ints xs),.undef,v2,v3,.sl 1 1 xs.length (ints xs),.sc (.int .i64 xs.length),.sc (.int .i64 j),.undef,.undef],[]⟩) ?_ xs.length _ ⟨0,.undef,.undef,by simp,by simp[K9],by simp⟩
 intro k s ⟨j,v2,v3,hj,hr,hs⟩
 subst hs
 by_cases hjn:j<xs.length
 ·have hw:IntKind.i64.wrap ((j:Int)+1)=(j+1:Nat):=by rw[Ad (by omega) (by omega)];simp
  have hst:=SK xs j
  rw[hr,Bool.true_and,Xm hjn]at hst
  simp -implicitDefEqProofs [hjn]
  refine Aa (hI _ _ _) ?_
  by_cases h1:InV xs[j] 1 9
  rotate_left
  ·have e:A9 xs=false:=by unfold A9;rw[YD hjn (by rw[hst];simp[h1])];rfl
   simp -implicitDefEqProofs [h1,e]
  by_cases h0:j=0
  ·subst h0
   simp -implicitDefEqProofs [h1]
   exact⟨k-1,by omega,1,by omega,by rw[hst];simp[h1],by simpa using hw⟩
  ·have hw2:IntKind.i64.wrap ((j:Int)-1)=((j-1:Nat):Int):=by rw[Ad (by omega) (by omega)];omega
   have h2:(0:Int)<j:=by omega
   have h2':0<j:=by omega
   have h3:j-1<xs.length:=by omega
   rw[Xm h3]at hst
   by_cases h4:xs[j-1]<xs[j]
   ·have h4':¬xs[j]≤xs[j-1]:=by omega
    simp -implicitDefEqProofs [h1,h2,h2',hw2,h3,hjn,h4']
    exact⟨k-1,by omega,j+1,by omega,by rw[hst];simp[h1,h0,h4],by simp[hw]⟩
   ·have e:A9 xs=false:=by unfold A9;rw[YD hjn (by rw[hst];simp[h1,h0,h4])];rfl
    have h4':xs[j]≤xs[j-1]:=by omega
    simp -implicitDefEqProofs [h1,h2,h2',hw2,h3,hjn,h4',e]
 ·obtain rfl:j=xs.length:=by omega
  have e:A9 xs=decide (0<xs.length):=by unfold A9;rw[hr];rfl
  by_cases h5:0<xs.length
  ·have h5':(0:Int)<xs.length:=by omega
   simp -implicitDefEqProofs [e,h5,h5']
  ·have h5':¬(0:Int)<xs.length:=by omega
   simp -implicitDefEqProofs [e,h5,h5']
theorem LH {p:Int→Bool} {xs:List Int} {j:Nat} (h:j<xs.length):(xs.take (j+1)).filter p=(xs.take j).filter p++(if p xs[j]then [xs[j]]else []):=by
 have e:xs.take (j+1)=xs.take j++ [xs[j]]:=by simp
 rw[e,List.filter_append]
 by_cases hp:p xs[j]=true<;>simp[hp]
theorem Nh {p:Int→Bool} {xs:List Int} {j:Nat} (h:xs.length≤j):(xs.take j).filter p=xs.filter p:=by rw[List.take_of_length_le h]
theorem OM {p:Int→Bool} {xs:List Int} {j:Nat}:((xs.take j).filter p).length≤j:=by
 have:=List.length_filter_le p (xs.take j)
 have h2:(xs.take j).length≤j:=by simp;omega
 omega
def common (a b:List Int):List Int:=a.filter fun v=>decide (v∈b)
def AB3 (a:List Int) (v:Int):List Int:=a.filter fun x=> !decide (x=v)
abbrev Lu (R:Rel):Prop:=∀a b:List Int,a.length≤4194304→b.length≤maxLen→R [.sl 1 1 a.length (ints a),.sl 1 1 b.length (ints b)] [] (.sl 0 1 (common a b).length (ints (common a b))) []
theorem As0 (D:Dn) (hH:R6 (D Jl)):Lu (Body D RB):=by
 intro a b ha hb'
 have hres:common a b=a.filter (fun v=>decide (v∈b)):=rfl
 rw[hres]
 simp -implicitDefEqProofs
 refine Ae (fun k s=>∃j o1 o2,j+k=a.length∧s=⟨[.sl 1 1 a.length (ints a),.sl 1 1 b.length (ints b),.undef,.arr 3,.sc (.int .i64 j),.undef,.undef],[.free,o1,o2,.arr 1 0 ((a.take j).filter (fun v=>decide (v∈b))).length (ints ((a.take j).filter (fun v=>decide (v∈b))))]⟩) ?_ a.length _ ⟨0,by simp⟩
 intro k s ⟨j,o1,o2,hj,hs⟩
 subst hs
 by_cases hjn:j<a.length
 ·have hw:IntKind.i64.wrap ((j:Int)+1)=(j+1:Nat):=by rw[Ad (by omega) (by omega)];simp
  have hst:=LH (p:=fun v=>decide (v∈b)) hjn
  have hln:=OM (p:=fun v=>decide (v∈b)) (xs:=a) (j:=j)
  have hb:(((a.take j).filter (fun v=>decide (v∈b))).length+1)*8≤1099511627776:=by omega
  simp -implicitDefEqProofs [hjn]
  refine Aa (hH b _ hb') ?_
  by_cases h1:a[j]∈b
  ·rw[if_pos (by simp[h1])]at hst
   simp -implicitDefEqProofs [h1,hjn,hb]
   exact⟨k-1,by omega,j+1,by omega,by simp[hw],by rw[hst];simp,by rw[hst]⟩
  ·rw[if_neg (by simp[h1]),List.append_nil]at hst
   simp -implicitDefEqProofs [h1,hjn,hb]
   exact⟨k-1,by omega,j+1,by omega,by simp[hw],by rw[hst],by rw[hst]⟩
 ·have hx:=Nh (p:=fun v=>decide (v∈b)) (xs:=a) (j:=j) (by omega)
  simp -implicitDefEqProofs [hjn,hx]
theorem AsY (D:Dn) (hH:R6 (D Bn)):Lu (Body D R5):=by
 intro a b ha hb'
 have hres:common a b=a.filter (fun v=>decide (v∈b)):=rfl
 rw[hres]
 simp -implicitDefEqProofs
 refine Ae (fun k s=>∃j v4 o1 o2,j+k=a.length∧s=⟨[.undef,.sl 1 1 b.length (ints b),.undef,.arr 3,v4,.sl 1 1 a.length (ints a),.sc (.int .i64 a.length),.sc (.int .i64 j),.undef,.undef],[.free,o1,o2,.arr 1 0 ((a.take j).filter (fun v=>decide (v∈b))).length (ints ((a.take j).filter (fun v=>decide (v∈b))))]⟩) ?_ a.length _ ⟨0,by simp⟩
 intro k s ⟨j,v4,o1,o2,hj,hs⟩
 subst hs
 by_cases hjn:j<a.length
 ·have hw:IntKind.i64.wrap ((j:Int)+1)=(j+1:Nat):=by rw[Ad (by omega) (by omega)];simp
  have hst:=LH (p:=fun v=>decide (v∈b)) hjn
  have hln:=OM (p:=fun v=>decide (v∈b)) (xs:=a) (j:=j)
  have hb:(((a.take j).filter (fun v=>decide (v∈b))).length+1)*8≤1099511627776:=by omega
  simp -implicitDefEqProofs [hjn]
  refine Aa (hH b _ hb') ?_
  by_cases h1:a[j]∈b
  ·rw[if_pos (by simp[h1])]at hst
   simp -implicitDefEqProofs [h1,hjn,hb]
   exact⟨k-1,by omega,j+1,by omega,by simp[hw],by rw[hst];simp,by rw[hst]⟩
  ·rw[if_neg (by simp[h1]),List.append_nil]at hst
   simp -implicitDefEqProofs [h1,hjn,hb]
   exact⟨k-1,by omega,j+1,by omega,by simp[hw],by rw[hst],by rw[hst]⟩
 ·have hx:=Nh (p:=fun v=>decide (v∈b)) (xs:=a) (j:=j) (by omega)
  simp -implicitDefEqProofs [hjn,hx]
end Go.Eng.T
namespace Go.Eng.T
set_option maxRecDepth 20000
set_option maxHeartbeats 1000000
def Y0 (l:List Int):Int:=l.foldl (fun a v=>if v>a then v else a) 0
theorem Awm {x:Int}:∀(l:List Int) (a:Int),(∀y,y∈l→y<x)→a<x→l.foldl (fun a v=>if v>a then v else a) a<x
 | [],a,_,h=>h
 | y::l,a,hl,h=>by
  simp only[List.foldl_cons]
  refine Awm l _ (fun z hz=>hl z (by simp[hz])) ?_
  split
  ·exact hl y (by simp)
  ·exact h
theorem AiU {xs:List Int}:∀(n:Nat),K9 xs n=true→∀i j,i<j→j<n→xs.getD i 0<xs.getD j 0
 | 0,_,i,j,_,h=>by omega
 | n+1,hr,i,j,hij,hj=>by
  rw[SK]at hr
  simp only[Bool.and_eq_true,Bool.or_eq_true,decide_eq_true_eq]at hr
  obtain⟨h1,_,h3⟩:=hr
  by_cases hjn:j<n
  ·exact AiU n h1 i j hij hjn
  ·obtain rfl:j=n:=by omega
   have h4:xs.getD (j-1) 0<xs.getD j 0:=by
    rcases h3 with h3 | h3
    ·omega
    ·exact h3
   by_cases he:i=j-1
   ·rw[he];exact h4
   ·have:=AiU j h1 i (j-1) (by omega) (by omega)
    omega
theorem AAP {xs:List Int} {n i:Nat} (h:K9 xs n=true) (hi:i<n):InV (xs.getD i 0) 1 9:=by
 unfold K9 at h
 have:=List.all_eq_true.1 h i (List.mem_range.2 hi)
 simp at this
 exact⟨this.1.1,this.1.2⟩
theorem An0 {xs:List Int} (h:A9 xs=true):xs.Pairwise (· < ·):=by
 unfold A9 at h
 simp only[Bool.and_eq_true,decide_eq_true_eq]at h
 rw[List.pairwise_iff_getElem]
 intro i j hi hj hij
 have:=AiU _ h.1 i j hij hj
 rwa [Xm hi,Xm hj]at this
theorem Awj {xs:List Int} (h:A9 xs=true):∀x,x∈xs→InV x 1 9:=by
 unfold A9 at h
 simp only[Bool.and_eq_true,decide_eq_true_eq]at h
 intro x hx
 obtain⟨i,hi,rfl⟩:=List.getElem_of_mem hx
 have:=AAP h.1 hi
 rwa [Xm hi]at this
theorem Ayr {l:List Int} (hp:l.Pairwise (· < ·)) (h0:∀x,x∈l→0<x) (hn:0<l.length):Y0 l=l[l.length-1]:=by
 obtain⟨l',x,rfl⟩:∃l' x,l=l'++ [x]:=by
  rcases List.eq_nil_or_concat l with h | ⟨l',x,h⟩
  ·rw[h]at hn;simp at hn
  ·exact⟨l',x,by simpa using h⟩
 rw[List.pairwise_append]at hp
 have h1:Y0 l' <x:=Awm l' 0 (fun y hy=>hp.2.2 y hy x (by simp)) (h0 x (by simp))
 have h2:Y0 (l'++ [x])=if x>Y0 l' then x else Y0 l':=by unfold Y0;rw[List.foldl_append];rfl
 rw[h2,if_pos h1]
 simp
def BJ (a b:List Int):Int:=if A9 a=true∧A9 b=true then Y0 (common a b)else 0
abbrev EX (R:Rel):Prop:=∀a b:List Int,a.length≤4194304→b.length≤4194304→R [.sl 1 1 a.length (ints a),.sl 1 1 b.length (ints b)] [] (I (BJ a b)) []
theorem ml {n:Nat} (h:n≤4194304):n≤maxLen:=by unfold maxLen;omega
theorem AmY (D:Dn) (hC:Lu (D AjR)) (hA:BK (D EJ)):EX (Body D NI):=by
 intro a b ha hb
 have hcl:(common a b).length≤4194304:=Nat.le_trans (List.length_filter_le _ _) ha
 simp -implicitDefEqProofs
 refine Aa (hC a b ha (ml hb)) ?_
 simp -implicitDefEqProofs
 refine Aa (hA a (ml ha)) ?_
 by_cases h1:A9 a=true
 rotate_left
 ·simp -implicitDefEqProofs [h1,BJ]
 simp -implicitDefEqProofs [h1]
 refine Aa (hA b (ml hb)) ?_
 by_cases h2:A9 b=true
 rotate_left
 ·simp -implicitDefEqProofs [h2,BJ]
 have e:BJ a b=Y0 (common a b):=by unfold BJ;rw[if_pos ⟨h1,h2⟩]
 rw[e]
 by_cases h3:common a b=[]
 ·simp -implicitDefEqProofs [h2,h3,Y0]
 have h4:0<(common a b).length:=List.length_pos_iff.2 h3
 have h5:=Ayr (l:=common a b) ((An0 h1).filter _) (fun x hx=>by have:=Awj h1 x (List.mem_filter.1 hx).1;omega) h4
 rw[h5]
 generalize common a b=l at h3 h4 hcl
 have hw:IntKind.i64.wrap ((l.length:Int)-1)=((l.length-1:Nat):Int):=by rw[Ad (by omega) (by omega)];omega
 have h6:l.length-1<l.length:=by omega
 simp -implicitDefEqProofs [h2,h3,hw,h6,h4]
theorem AlB (D:Dn) (hC:Lu (D Ajn)) (hA:BK (D FM)):EX (Body D N7):=by
 intro a b ha hb
 have hcl:(common a b).length≤4194304:=Nat.le_trans (List.length_filter_le _ _) ha
 simp -implicitDefEqProofs
 refine Aa (hA a (ml ha)) ?_
 by_cases h1:A9 a=true
 rotate_left
 ·simp -implicitDefEqProofs [h1,BJ]
 simp -implicitDefEqProofs [h1]
 refine Aa (hA b (ml hb)) ?_
 by_cases h2:A9 b=true
 rotate_left
 ·simp -implicitDefEqProofs [h2,BJ]
 have e:BJ a b=Y0 (common a b):=by unfold BJ;rw[if_pos ⟨h1,h2⟩]
 rw[e]
 simp -implicitDefEqProofs [h2]
 refine Aa (hC a b ha (ml hb)) ?_
 generalize common a b=l at hcl
 simp -implicitDefEqProofs
 refine Ae (fun k s=>∃j,j+k=l.length∧s=⟨[.undef,.undef,.undef,.sc (.int .i64 (Y0 (l.take j))),.undef,.undef,.arr 0,.sc (.int .i64 l.length),.sc (.int .i64 j),.undef],[.arr 1 0 l.length (ints l)]⟩) ?_ l.length _ ⟨0,by simp,by simp[Y0]⟩
 intro k s ⟨j,hj,hs⟩
 subst hs
 by_cases hjn:j<l.length
 ·have hw:IntKind.i64.wrap ((j:Int)+1)=(j+1:Nat):=by rw[Ad (by omega) (by omega)];simp
  have hst:Y0 (l.take (j+1))=if l[j]>Y0 (l.take j)then l[j]else Y0 (l.take j):=by
   have e:l.take (j+1)=l.take j++ [l[j]]:=by simp
   unfold Y0
   rw[e,List.foldl_append];rfl
  simp -implicitDefEqProofs [hjn]
  exact⟨k-1,by omega,j+1,by omega,by rw[hst],by simp[hw]⟩
 ·have hx:l.take j=l:=List.take_of_length_le (by omega)
  simp -implicitDefEqProofs [hjn,hx]
end Go.Eng.T
namespace Go.Eng.T
set_option maxRecDepth 20000
def AgU {α:Type} (p:α→Bool):List α→Nat→List Int
 | [],_=> []
 | x::r,i=>if p x then(i:Int)::AgU p r (i+1)else AgU p r (i+1)
theorem AsT {α:Type} {p:α→Bool} (b:List α):∀(a:List α) (i:Nat),AgU p (a++b) i=AgU p a i++AgU p b (i+a.length)
 | [],i=>by simp[AgU]
 | x::r,i=>by
  have:=AsT (p:=p) b r (i+1)
  simp only[List.cons_append,AgU,this,List.length_cons]
  rw[show i+1+r.length=i+(r.length+1)by omega]
  by_cases h:p x=true<;>simp[h]
theorem Az6 {α:Type} {p:α→Bool}:∀(xs:List α) (i:Nat),(AgU p xs i).length≤xs.length
 | [],_=>by simp[AgU]
 | x::r,i=>by
  have:=Az6 (p:=p) r (i+1)
  by_cases h:p x=true
  ·simp[AgU,h];omega
  ·simp[AgU,h];omega
theorem Avd {w:World} (h:Ay w≤4194304) {j:Nat} (hj:j<w.ends.length):w.ends[j].versions.length≤maxLen:=by
 have:=size_at (f:=Ac) hj
 have e:Ac w.ends[j]=w.ends[j].versions.length+w.ends[j].tags.length+Bw Ct w.ends[j].path:=rfl
 unfold Ay at h
 unfold maxLen;omega
end Go.Eng.T
namespace Go.Eng.T
set_option maxRecDepth 20000
set_option maxHeartbeats 1000000
def Jh (xs:List (List Int)):List V:=xs.map fun l=> .sl 0 1 l.length (ints l)
@[simp high] theorem AGv (xs:List (List Int)):(Jh xs).length=xs.length:=by simp[Jh]
@[simp] theorem AGj:Jh []=[]:=rfl
@[simp] theorem AG8 (xs:List (List Int)):(Jh xs).map (AZ 0)=Jh xs:=by simp[Jh,Function.comp_def,AZ]
@[simp high] theorem AG4 {xs:List (List Int)} {j:Nat} (h:j<xs.length):(Jh xs)[j]? =some (V.sl 0 1 xs[j].length (ints xs[j])):=by simp[Jh,h]
theorem Auh (xs:List (List Int)) (l:List Int) {n:Nat} (h:n=l.length):Jh xs++ [.sl 0 1 n (ints l)]=Jh (xs++ [l]):=by subst h;simp[Jh]
def IA (xs:List (List Int)):Nat:=Bw List.length xs
theorem Yu {xs:List (List Int)} {j:Nat} (h:j<xs.length):xs[j].length≤IA xs:=size_at (f:=List.length) h
theorem Rv {xs:List (List Int)}:xs.length≤IA xs:=IK
def GY (w:World):List (List Int):=w.ends.map (·.versions)
abbrev Kz (R:Rel):Prop:=∀w:World,Ay w≤4194304→R [arg (EF w)] [] (.sl 0 1 (GY w).length (Jh (GY w))) []
theorem Aj0 {xs:List AL} {j:Nat} (h:j<xs.length):Jh ((xs.map (·.versions)).take j)++ [.sl 0 1 xs[j].versions.length (ints xs[j].versions)]=Jh ((xs.map (·.versions)).take (j+1)):=by
 have h':j<(xs.map (·.versions)).length:=by simpa using h
 have e:(xs.map (·.versions)).take (j+1)=(xs.map (·.versions)).take j++ [xs[j].versions]:=by
  have:=List.take_append_getElem h'
  rw[←this];simp
 rw[e,Auh _ _ rfl]
theorem AuR (D:Dn):Kz (Body D TU):=by
 intro w h
 have hl:=JQ h
 have hres:GY w=w.ends.map (·.versions):=rfl
 rw[hres]
 simp -implicitDefEqProofs
 refine Ae (fun k s=>∃j o2 o3 o4 o5,j+k=w.ends.length∧s=⟨[.undef,.ptr 0 0,.undef,.arr 6,.sc (.int .i64 j),.undef],[.var ((EF w).map (AZ 1)),.free,o2,o3,o4,o5,.arr 1 0 j (Jh ((w.ends.take j).map (·.versions)))]⟩) ?_ w.ends.length _ ⟨0,.free,.free,.free,.free,by simp,by simp⟩
 intro k s ⟨j,o2,o3,o4,o5,hj,hs⟩
 subst hs
 by_cases hjn:j<w.ends.length
 ·have hw:IntKind.i64.wrap ((j:Int)+1)=(j+1:Nat):=by rw[Ad (by omega) (by omega)];simp
  have hst:=Aj0 hjn
  have hvl:=Avd h hjn
  unfold maxLen at hvl
  have h2:w.ends[j].versions.length≤4194304:=by
   have:=size_at (f:=Ac) hjn
   have e:Ac w.ends[j]=w.ends[j].versions.length+w.ends[j].tags.length+Bw Ct w.ends[j].path:=rfl
   unfold Ay at h
   omega
  have hb:w.ends[j].versions.length*8≤1099511627776:=by omega
  have hb2:(j+1)*24≤1099511627776:=by omega
  have hjl:min j w.ends.length=j:=by omega
  simp -implicitDefEqProofs [hjn,hb,hb2,hjl]
  exact⟨k-1,by omega,j+1,by omega,by simp[hw],rfl,hst⟩
 ·obtain rfl:j=w.ends.length:=by omega
  simp -implicitDefEqProofs
theorem Avs (D:Dn):Kz (Body D TJ):=by
 intro w h
 have hl:=JQ h
 have hres:GY w=w.ends.map (·.versions):=rfl
 rw[hres]
 simp -implicitDefEqProofs
 refine Ae (fun k s=>∃j o2 o3 o4 o5 o6,j+k=w.ends.length∧s=⟨[.undef,.undef,.undef,.arr 7,.undef,.sl 1 4 w.ends.length (w.ends.flatMap Ak),.sc (.int .i64 w.ends.length),.sc (.int .i64 j),.undef],[.var ((EF w).map (AZ 1)),.free,o2,o3,o4,o5,o6,.arr 1 0 j (Jh ((w.ends.take j).map (·.versions)))]⟩) ?_ w.ends.length _ ⟨0,.free,.free,.free,.free,.free,by simp,by simp⟩
 intro k s ⟨j,o2,o3,o4,o5,o6,hj,hs⟩
 subst hs
 by_cases hjn:j<w.ends.length
 ·have hw:IntKind.i64.wrap ((j:Int)+1)=(j+1:Nat):=by rw[Ad (by omega) (by omega)];simp
  have hst:=Aj0 hjn
  have h2:w.ends[j].versions.length≤4194304:=by
   have:=size_at (f:=Ac) hjn
   have e:Ac w.ends[j]=w.ends[j].versions.length+w.ends[j].tags.length+Bw Ct w.ends[j].path:=rfl
   unfold Ay at h
   omega
  have hb:w.ends[j].versions.length*8≤1099511627776:=by omega
  have hb2:(j+1)*24≤1099511627776:=by omega
  have hjl:min j w.ends.length=j:=by omega
  simp -implicitDefEqProofs [hjn,hb,hb2,hjl]
  exact⟨k-1,by omega,j+1,by omega,by simp[hw],rfl,hst⟩
 ·obtain rfl:j=w.ends.length:=by omega
  simp -implicitDefEqProofs
abbrev Kh (ls:List (List Int)):V:= .sl 1 1 ls.length (Jh ls)
def AHJ (s:List Int) (v:Int) (l:List Int):Bool:=decide (0<BJ s l)&&decide (BJ (AB3 s v) l=0)
def AGY (s:List Int) (ls:List (List Int)) (v:Int):List Int:=AgU (AHJ s v) ls 0
theorem AFp (xs:List AL):IA (xs.map (·.versions))≤Bw Ac xs:=by
 induction xs with
 | nil=>simp[IA,Bw]
 | cons x r ih=>
  simp only[IA,Bw,List.map_cons,List.sum_cons,List.length_cons,Ac,List.length_map]at *
  omega
theorem AcH {w:World} (h:Ay w≤4194304):IA (GY w)≤4194304:=by
 have:=AFp w.ends
 unfold Ay at h
 unfold GY
 omega
end Go.Eng.T
namespace Go.Eng.T
structure Ext where
 tag:Int
 body:List Int
 deriving DecidableEq
structure Hello where
 versions:List Int
 exts:List Ext
 deriving DecidableEq
structure RY where
 version:Int
 exts:List Ext
 deriving DecidableEq
def Br (x:Ext):List V:=[.sc (.int .i64 x.tag),.sl 0 1 x.body.length (ints x.body)]
def CU (h:Hello):List V:=[.sl 0 1 h.versions.length (ints h.versions),.sl 0 2 h.exts.length (h.exts.flatMap Br)]
def Yw (a:RY):List V:=[.sc (.int .i64 a.version),.sl 0 2 a.exts.length (a.exts.flatMap Br)]
theorem Xf (x:Ext):(Br x).length=2:=rfl
@[simp] theorem AHq (xs:List Ext):(xs.flatMap Br).map (AZ 0)=xs.flatMap Br:=YU (fun _=>rfl) xs
@[simp high] theorem AHy {xs:List Ext} {j:Nat} (h:j<xs.length):Gj (xs.flatMap Br) (j*2) 2=some (Br xs[j]):=NT Xf h
@[simp high] theorem Rb (xs:List Ext):(xs.flatMap Br).length=xs.length*2:=Nj Xf xs
@[simp high] theorem AHE {xs:List Ext} {j:Nat} (h:j<xs.length):(xs.flatMap Br)[j*2]? =some (.sc (.int .i64 xs[j].tag)):=by
 have:=AO (o:=0) Xf h (by omega)
 simpa[Br]using this
@[simp high] theorem AHg {xs:List Ext} {j:Nat} (h:j<xs.length):(xs.flatMap Br)[j*2+1]? =some (.sl 0 1 xs[j].body.length (ints xs[j].body)):=by
 have:=AO (o:=1) Xf h (by omega)
 simpa[Br]using this
theorem Ax1 {α:Type} {f:α→List V} {e:Nat} (hf:∀x,(f x).length=e) (xs:List α) (i:Nat):(xs.flatMap f).take (i*e)=(xs.take i).flatMap f:=by
 induction xs generalizing i with
 | nil=>simp
 | cons x xs ih=>
  cases i with
  | zero=>simp
  | succ i=>
   simp only[List.flatMap_cons,List.take_succ_cons]
   rw[←ih i,show(i+1)*e=(f x).length+i*e by rw[hf,Nat.add_mul];omega,List.take_length_add_append]
theorem Axt {α:Type} {f:α→List V} {e:Nat} (hf:∀x,(f x).length=e) (xs:List α) (o n:Nat):part (xs.flatMap f) e o n=((xs.drop o).take n).flatMap f:=by
 unfold part
 rw[YE hf,Ax1 hf]
@[simp high] theorem AGd (xs:List Ext) (o n:Nat):part (xs.flatMap Br) 2 o n=((xs.drop o).take n).flatMap Br:=Axt Xf xs o n
attribute [simp] Br CU Yw
def Ub (l:List Ext):Prop:=l.length≤4194304∧∀x,x∈l→x.body.length≤4194304
theorem Mr {l:List Ext} (h:Ub l) {j:Nat} (hj:j<l.length):l[j].body.length≤4194304:=h.2 _ (List.getElem_mem hj)
theorem Adb:Ub []:=⟨by simp,by simp⟩
theorem Avo {l:List Ext} (h:Ub l) (p:Ext→Bool):Ub (l.filter p):=
 ⟨Nat.le_trans (List.length_filter_le p l) h.1,fun x hx=>h.2 x (List.mem_filter.1 hx).1⟩
def Nl (q:Nat→Bool) (j:Nat):Bool:=(List.range j).all q
@[simp] theorem AGa (q:Nat→Bool):Nl q 0=true:=rfl
theorem IC (q:Nat→Bool) (j:Nat):Nl q (j+1)=(Nl q j&&q j):=by
 unfold Nl
 rw[List.range_succ,List.all_append]
 simp
theorem AkG {q:Nat→Bool} {j n:Nat} (h:j<n) (hn:q j=false):Nl q n=false:=by
 have:∀m,Nl q (j+1+m)=false:=by
  intro m
  induction m with
  | zero=>rw[Nat.add_zero,IC,hn];simp
  | succ m ih=>rw[show j+1+(m+1)=(j+1+m)+1 by omega,IC,ih];rfl
 have:=this (n-(j+1))
 rwa [show j+1+(n-(j+1))=n by omega]at this
theorem Ayu {q:Nat→Bool} {n:Nat}:Nl q n=true↔∀i,i<n→q i=true:=by
 unfold Nl
 rw[List.all_eq_true]
 simp
theorem Aaf {α:Type} {p:α→Bool} {xs:List α} {j:Nat} (h:j<xs.length):(xs.take (j+1)).filter p=(xs.take j).filter p++(if p xs[j]then [xs[j]]else []):=by
 have e:xs.take (j+1)=xs.take j++ [xs[j]]:=by simp
 rw[e,List.filter_append]
 by_cases hp:p xs[j]=true<;>simp[hp]
theorem AdG {α:Type} {p:α→Bool} {xs:List α} {j:Nat} (h:xs.length≤j):(xs.take j).filter p=xs.filter p:=by rw[List.take_of_length_le h]
theorem AdH {α:Type} {p:α→Bool} {xs:List α} {j:Nat}:((xs.take j).filter p).length≤j:=by
 have:=List.length_filter_le p (xs.take j)
 have h2:(xs.take j).length≤j:=by simp;omega
 omega
end Go.Eng.T
namespace Go.Eng.T
open Go.Eng.X
def Cs:Nat→Bc
 |0=>R 0 [x 0 (s 0),m (z 1)] [(1,0)] [0,2]
 |1=>Q 1 [M 1 1 0 [],m (l 0)] [(3,1)] [] [] [w 1 6]
 |2=>R 2 [F (s 1) 11,L (l 0),e (l 1),m (i 0)] [(5,1),(6,2),(7,3)] []
 |3=>R 3 [y .lss (s 7) (s 6)] [(8,0)] []
 |4=>Q 4 [A 8 (s 5) (s 7),P 8 (l 0),a 2 zL,W 8 (l 2) (l 1)] [(4,2)] [] [2] []
 |5=>R 5 [P 15 (s 1),P 8 (s 4),C 196 [r (l 0),r (l 1)] []] [(9,2)] []
 |6=>Q 6 [m (s 3),F (s 4) 0,L (l 1),M 3 1 1 [l 2],q 4 1 8 (l 0) (l 3),m (l 4)] [(3,5)] [4] [3,4] [w 4 6]
 |7=>R 7 [y .add (s 7) (i 1),m (l 0)] [(7,1)] []
 |8=>R 8 [m (s 3),C 197 [v (l 0)] []] [] [1,5,6,7]
 |_=>R 9 [m (s 3),C 198 [v (l 0)] [5],m (l 1)] [(2,2)] [3]
def PE:Bh:=⟨10,7,[0],0,false,[],j (d (Cs 0)) (j (d (Cs 1)) (j (j (d (Cs 2)) (.block 0 (.loop (j (d (Cs 3)) (j (h 8 (.skip) (.exit 0)) (j (.block 1 (j (d (Cs 4)) (j (d (Cs 5)) (h 9 (d (Cs 6)) (.skip))))) (d (Cs 7)))))))) (j (d (Cs 8)) (j (d (Cs 9)) (.ret))))),[.slot 2]⟩
def Ade:List Tmp:=[0,1,2,3,5,8,9,10,11,16]
attribute [simp] Cs PE
end Go.Eng.T
namespace Go.Eng.T
set_option maxRecDepth 20000
abbrev KP (D:Dn) (R:Rel):Prop:=∀(xs:List Ext) (g:Nat) (caps:List V) (p:Ext→Bool),xs.length≤maxLen→Ke caps→(∀(j:Nat) (h:j<xs.length),D g (arg (Br xs[j])::caps) [] (B (p xs[j])) [])→R [.sl 1 2 xs.length (xs.flatMap Br),.fn g caps] [] (I (Gs p xs 0)) []
theorem AjN (D:Dn):KP D (Body D Dy):=by
 intro xs g caps p hl hc hp
 unfold maxLen at hl
 simp -implicitDefEqProofs
 refine Ae (fun k s=>∃j,j+k=xs.length∧Gs p xs 0=Gs p (xs.drop j) j∧s=⟨[.sl 1 2 xs.length (xs.flatMap Br),.fn g caps,.undef,.undef,.sc (.int .i64 xs.length),.sc (.int .i64 j),.undef,.undef],[]⟩) ?_ xs.length _ ⟨0,by simp,by simp,by simp⟩
 intro k s ⟨j,hj,hi,hs⟩
 subst hs
 by_cases hjn:j<xs.length
 ·have hw:IntKind.i64.wrap ((j:Int)+1)=(j+1:Nat):=by rw[Ad (by omega) (by omega)];simp
  rw[Nz hjn]at hi
  simp -implicitDefEqProofs [hjn,hc.1,hc.2.1]
  refine Aa (hp j hjn) ?_
  by_cases he:p xs[j]=true
  ·rw[if_pos he]at hi
   simp -implicitDefEqProofs [he,hi]
  ·rw[if_neg he]at hi
   simp -implicitDefEqProofs [he]
   exact⟨k-1,by omega,j+1,by omega,by simpa using hi,by simp[hw]⟩
 ·rw[Sm (by omega)]at hi
  simp -implicitDefEqProofs [hjn,hi]
abbrev J6 (D:Dn) (R:Rel):Prop:=∀(xs:List Ext) (g:Nat) (caps:List V) (p:Ext→Bool),xs.length≤maxLen→Ke caps→(∀(j:Nat) (h:j<xs.length),D g (arg (Br xs[j])::caps) [] (B (p xs[j])) [])→R [.sl 1 2 xs.length (xs.flatMap Br),.fn g caps] [] (B (xs.any p)) []
theorem Aci (D:Dn) (hI:KP D (D FD)):J6 D (Body D CZ):=by
 intro xs g caps p hl hc hp
 simp -implicitDefEqProofs [hc.2.2]
 refine Aa (hI xs g caps p hl hc hp) ?_
 have e:decide (0≤Gs p xs 0)=xs.any p:=by rw[Bool.eq_iff_iff];simp only[decide_eq_true_eq];rw[QN (by omega)]
 simp -implicitDefEqProofs [e]
end Go.Eng.T
namespace Go.Eng.T
set_option maxRecDepth 20000
def GR (t:Int) (x:Ext):Bool:=decide (x.tag=t)
def Js (l:List Ext) (t:Int):Int:=Gs (GR t) l 0
abbrev Qn (R:Rel):Prop:=∀(l:List Ext) (t:Int),l.length≤maxLen→R [.sl 1 2 l.length (l.flatMap Br),I t] [] (I (Js l t)) []
theorem ABd (D:Dn):Qn (Body D Xa):=by
 intro l t hl
 unfold maxLen at hl
 have hres:Js l t=Gs (GR t) l 0:=rfl
 rw[hres]
 simp -implicitDefEqProofs
 refine Ae (fun k s=>∃j,j+k=l.length∧Gs (GR t) l 0=Gs (GR t) (l.drop j) j∧s=⟨[.sl 1 2 l.length (l.flatMap Br),I t,.undef,I j,.undef,.undef],[]⟩) ?_ (l.length) _ ⟨0,by simp,by simp,by simp⟩
 intro k s ⟨j,hj,hi,hs⟩
 subst hs
 by_cases hjn:j<l.length
 ·have hw:IntKind.i64.wrap ((j:Int)+1)=(j+1:Nat):=by rw[Ad (by omega) (by omega)];simp
  rw[Nz hjn]at hi
  by_cases he:l[j].tag=t
  ·rw[if_pos (by simp[GR,he])]at hi
   simp -implicitDefEqProofs [hjn,he,hi]
  ·rw[if_neg (by simp[GR,he])]at hi
   simp -implicitDefEqProofs [hjn,he]
   exact⟨k-1,by omega,j+1,by omega,by simpa using hi,by simp[hw]⟩
 ·rw[Sm (by omega)]at hi
  simp -implicitDefEqProofs [hjn,hi]
abbrev Ah6 (R:Rel):Prop:=∀(x:Ext) (t:Int),R [arg (Br x),.rptr 1 [I t] 0] [] (B (GR t x)) []
theorem ABN (D:Dn):Ah6 (Body D TH):=by
 intro x t
 simp -implicitDefEqProofs [GR,WT]
theorem AAV (D:Dn) (h1:Ah6 (D Al0)) (hX:KP D (D FD)):Qn (Body D XQ):=by
 intro l t hl
 have hres:Js l t=Gs (GR t) l 0:=rfl
 rw[hres]
 simp -implicitDefEqProofs
 refine Aa (hX l 351 _ (GR t) hl (Aem ER) (fun j h=>h1 l[j] t)) ?_
 simp -implicitDefEqProofs
def Xd (x:Ext):Bool:=decide (Q5 x.tag 0 255)&&(decide (x.body.length≤4)&&allIn x.body 0 255)
def VU (l:List Ext) (i:Nat):Bool:=match l[i]? with
 | some x=>Xd x&& !(l.take i).any (GR x.tag)
 | none=>true
theorem Afk {l:List Ext} {i:Nat} (h:i<l.length):VU l i=(Xd l[i]&& !(l.take i).any (GR l[i].tag)):=by
 unfold VU
 rw[List.getElem?_eq_getElem h]
def EC (l:List Ext):Bool:=Nl (VU l) l.length&&decide (l.length≤6)
theorem Auq {α:Type} {p:α→Bool}:∀ {xs:List α} {i:Int},Gs p xs i= -1∨(i≤Gs p xs i∧Gs p xs i<i+xs.length)
 | [],i=> .inl rfl
 | x::r,i=>by
  by_cases hp:p x=true
  ·right;simp[Gs,hp];omega
  ·rcases Auq (p:=p) (xs:=r) (i:=i+1)with h | h
   ·left;simp[Gs,hp,h]
   ·right;simp[Gs,hp]at *;omega
theorem Awt {α:Type} {p:α→Bool}:∀ {xs:List α} {i:Int} {j:Nat},0≤i→(h:j<xs.length)→p xs[j]=true→(Gs p xs i<i+j↔(xs.take j).any p=true)
 | x::r,i,0,hi,h,hp=>by
  have:p x=true:=hp
  simp[Gs,this]
 | x::r,i,j+1,hi,h,hp=>by
  by_cases hx:p x=true
  ·simp[Gs,hx];omega
  ·have:=Awt (p:=p) (xs:=r) (i:=i+1) (j:=j) (by omega) (by simpa using h) (by simpa using hp)
   simp only[Gs,hx,List.take_succ_cons,List.any_cons,Bool.false_or]
   rw[←this]
   simp
   omega
theorem Aq2 {l:List Ext} {j:Nat} (h:j<l.length):(Js l l[j].tag<(j:Int))=((l.take j).any (GR l[j].tag)=true):=by
 have:=Awt (p:=GR l[j].tag) (i:=0) (by omega) h (by simp[GR])
 rw[Int.zero_add]at this
 exact propext this
theorem Ai8 {l:List Ext} {j:Nat} {t:Int}:(0≤Js (l.take j) t)=((l.take j).any (GR t)=true):=QN (by omega)
theorem Jz {l:List Ext} {j:Nat} (h:j<l.length) (hn:VU l j=false):EC l=false:=by
 unfold EC
 rw[AkG h hn];rfl
abbrev FV (R:Rel):Prop:=∀l:List Ext,Ub l→R [.sl 1 2 l.length (l.flatMap Br)] [] (B (EC l)) []
theorem Auf (D:Dn) (hI:SG (D CB)) (hB:Yr (D Vw)) (hX:Qn (D Tg)):FV (Body D TW):=by
 intro l hl
 have hll:=hl.1
 simp -implicitDefEqProofs
 refine Ae (fun k s=>∃j,j+k=l.length∧Nl (VU l) j=true∧s=⟨[.sl 1 2 l.length (l.flatMap Br),.undef,I j,.undef,.undef],[]⟩) ?_ (l.length) _ ⟨0,by simp,by simp,by simp⟩
 intro k s ⟨j,hj,hr,hs⟩
 subst hs
 by_cases hjn:j<l.length
 ·have hw:IntKind.i64.wrap ((j:Int)+1)=(j+1:Nat):=by rw[Ad (by omega) (by omega)];simp
  have hst:=IC (VU l) j
  have hq:=Afk hjn
  have hb:=Mr hl hjn
  rw[hr,Bool.true_and]at hst
  simp -implicitDefEqProofs [hjn]
  refine Aa (hI _ _ _) ?_
  by_cases h1:Q5 l[j].tag 0 255
  rotate_left
  ·have e:=Jz hjn (by rw[hq];simp[Xd,h1])
   simp -implicitDefEqProofs [h1,e]
  by_cases h2:l[j].body.length≤4
  rotate_left
  ·have e:=Jz hjn (by rw[hq];simp[Xd,h2])
   have h2':(4:Int)<l[j].body.length:=by omega
   simp -implicitDefEqProofs [hjn,h1,h2',e]
  have h2':¬(4:Int)<l[j].body.length:=by omega
  simp -implicitDefEqProofs [hjn,h1,h2']
  refine Aa (hB _ (by unfold maxLen;omega)) ?_
  by_cases h3:allIn l[j].body 0 255=true
  rotate_left
  ·have e:=Jz hjn (by rw[hq];simp[Xd,h3])
   simp -implicitDefEqProofs [hjn,h3,e]
  simp -implicitDefEqProofs [hjn,h3]
  refine Aa (hX l _ (by unfold maxLen;omega)) ?_
  by_cases h4:(l.take j).any (GR l[j].tag)=true
  ·have e:=Jz hjn (by rw[hq];simp only[h4];simp)
   have h4':Js l l[j].tag<(j:Int):=by rw[Aq2 hjn];exact h4
   simp -implicitDefEqProofs [hjn,h4',e]
  ·have h4':¬Js l l[j].tag<(j:Int):=by rw[Aq2 hjn];exact h4
   have h4f:(l.take j).any (GR l[j].tag)=false:=by simpa using h4
   simp -implicitDefEqProofs [hjn,h4']
   exact⟨k-1,by omega,j+1,by omega,by rw[hst,hq,h4f];simp[Xd,h1,h2,h3],by simp[hw]⟩
 ·obtain rfl:j=l.length:=by omega
  have e:EC l=decide (l.length≤6):=by unfold EC;rw[hr];rfl
  by_cases h5:l.length≤6
  ·have h5':(l.length:Int)≤6:=by omega
   simp -implicitDefEqProofs [e,h5,h5']
  ·have h5':¬(l.length:Int)≤6:=by omega
   simp -implicitDefEqProofs [e,h5,h5']
theorem Avu (D:Dn) (hI:SG (D Bz)) (hX:Qn (D AfC)) (hN:Jv (D Kb)):FV (Body D Uh):=by
 intro l hl
 have hll:=hl.1
 simp -implicitDefEqProofs
 refine Ae (fun k s=>∃j o0,j+k=l.length∧Nl (VU l) j=true∧s=⟨[.sl 1 2 l.length (l.flatMap Br),.undef,.undef,.undef,.sl 1 2 l.length (l.flatMap Br),I l.length,I j,.undef,.undef],[o0]⟩) ?_ (l.length) _ ⟨0,.free,by simp,by simp,by simp⟩
 intro k s ⟨j,o0,hj,hr,hs⟩
 subst hs
 by_cases hjn:j<l.length
 ·have hw:IntKind.i64.wrap ((j:Int)+1)=(j+1:Nat):=by rw[Ad (by omega) (by omega)];simp
  have hst:=IC (VU l) j
  have hq:=Afk hjn
  have hb:=Mr hl hjn
  rw[hr,Bool.true_and]at hst
  simp -implicitDefEqProofs [hjn]
  refine Aa (hI _ _ _) ?_
  by_cases h1:Q5 l[j].tag 0 255
  rotate_left
  ·have e:=Jz hjn (by rw[hq];simp[Xd,h1])
   simp -implicitDefEqProofs [h1,e]
  have hjl:j≤l.length:=by omega
  have hmin:min j l.length=j:=by omega
  simp -implicitDefEqProofs [hjn,hjl,hmin,h1]
  have hxx:=hX (l.take j) l[j].tag (by simp;unfold maxLen;omega)
  rw[List.length_take,hmin]at hxx
  refine Aa (hxx) ?_
  by_cases h4:(l.take j).any (GR l[j].tag)=true
  ·have e:=Jz hjn (by rw[hq];simp only[h4];simp)
   have h4':0≤Js (l.take j) l[j].tag:=by rw[Ai8];exact h4
   simp -implicitDefEqProofs [hjn,h4',e]
  have h4':¬0≤Js (l.take j) l[j].tag:=by rw[Ai8];exact h4
  have h4f:(l.take j).any (GR l[j].tag)=false:=by simpa using h4
  by_cases h2:l[j].body.length≤4
  rotate_left
  ·have e:=Jz hjn (by rw[hq];simp[Xd,h2])
   have h2':(4:Int)<l[j].body.length:=by omega
   simp -implicitDefEqProofs [hjn,h4',h2',e]
  have h2':¬(4:Int)<l[j].body.length:=by omega
  simp -implicitDefEqProofs [hjn,h4',h2']
  refine Aa (hN _ _ _ (by unfold maxLen;omega)) ?_
  by_cases h3:allIn l[j].body 0 255=true
  rotate_left
  ·have e:=Jz hjn (by rw[hq];simp[Xd,h3])
   simp -implicitDefEqProofs [hjn,h3,e]
  simp -implicitDefEqProofs [hjn,h3]
  exact⟨k-1,by omega,j+1,by omega,by rw[hst,hq,h4f];simp[Xd,h1,h2,h3],by simp[hw]⟩
 ·obtain rfl:j=l.length:=by omega
  have e:EC l=decide (l.length≤6):=by unfold EC;rw[hr];rfl
  by_cases h5:l.length≤6
  ·have h5':(l.length:Int)≤6:=by omega
   simp -implicitDefEqProofs [e,h5,h5']
  ·have h5':¬(l.length:Int)≤6:=by omega
   simp -implicitDefEqProofs [e,h5,h5']
def Aq (l:List Ext):List Int:=l.map (·.tag)
theorem Aoi {l:List Ext} {j:Nat} (h:j<l.length):Aq (l.take (j+1))=Aq (l.take j)++ [l[j].tag]:=by
 have e:l.take (j+1)=l.take j++ [l[j]]:=by simp
 unfold Aq
 rw[e,List.map_append];rfl
abbrev KV (R:Rel):Prop:=∀l:List Ext,l.length≤4194304→R [.sl 1 2 l.length (l.flatMap Br)] [] (.sl 0 1 (Aq l).length (ints (Aq l))) []
theorem Axa (D:Dn):KV (Body D Wy):=by
 intro l hl
 simp -implicitDefEqProofs
 refine Ae (fun k s=>∃j o1 o2,j+k=l.length∧s=⟨[.sl 1 2 l.length (l.flatMap Br),.undef,.arr 3,I j,.undef],[.free,o1,o2,.arr 1 0 (Aq (l.take j)).length (ints (Aq (l.take j)))]⟩) ?_ (l.length) _ ⟨0,.free,.free,by simp,by simp[Aq]⟩
 intro k s ⟨j,o1,o2,hj,hs⟩
 subst hs
 by_cases hjn:j<l.length
 ·have hw:IntKind.i64.wrap ((j:Int)+1)=(j+1:Nat):=by rw[Ad (by omega) (by omega)];simp
  have hst:=Aoi hjn
  have hlen:(Aq (l.take j)).length=j:=by simp[Aq];omega
  have hb:(j+1)*8≤1099511627776:=by omega
  simp -implicitDefEqProofs [hjn,hlen,hb]
  exact⟨k-1,by omega,j+1,by omega,by simp[hw],by rw[hst];simp[hlen],by rw[hst]⟩
 ·have e:l.take j=l:=List.take_of_length_le (by omega)
  simp -implicitDefEqProofs [hjn,e]
theorem Aw8 (D:Dn):KV (Body D VK):=by
 intro l hl
 simp -implicitDefEqProofs
 refine Ae (fun k s=>∃j v3 o1 o2 o3,j+k=l.length∧s=⟨[.undef,.undef,.arr 4,v3,.sl 1 2 l.length (l.flatMap Br),I l.length,I j,.undef],[.free,o1,o2,o3,.arr 1 0 (Aq (l.take j)).length (ints (Aq (l.take j)))]⟩) ?_ (l.length) _ ⟨0,.undef,.free,.free,.free,by simp,by simp[Aq]⟩
 intro k s ⟨j,v3,o1,o2,o3,hj,hs⟩
 subst hs
 by_cases hjn:j<l.length
 ·have hw:IntKind.i64.wrap ((j:Int)+1)=(j+1:Nat):=by rw[Ad (by omega) (by omega)];simp
  have hst:=Aoi hjn
  have hlen:(Aq (l.take j)).length=j:=by simp[Aq];omega
  have hb:(j+1)*8≤1099511627776:=by omega
  simp -implicitDefEqProofs [hjn,hlen,hb]
  exact⟨k-1,by omega,j+1,by omega,by simp[hw],by rw[hst];simp[hlen],by rw[hst]⟩
 ·have e:l.take j=l:=List.take_of_length_le (by omega)
  simp -implicitDefEqProofs [hjn,e]
end Go.Eng.T
namespace Go.Eng.T
set_option maxRecDepth 20000
def kept (p:Int→Bool) (l:List Ext):List Ext:=l.filter fun x=>p x.tag
theorem YK {p:Int→Bool} {l:List Ext} {j:Nat} (h:j<l.length):kept p (l.take (j+1))=kept p (l.take j)++(if p l[j].tag then [l[j]]else []):=Aaf (p:=fun x:Ext=>p x.tag) h
theorem UL {p:Int→Bool} {l:List Ext} {j:Nat} (h:l.length≤j):kept p (l.take j)=kept p l:=AdG h
theorem Vb {p:Int→Bool} {l:List Ext} {j:Nat}:(kept p (l.take j)).length≤j:=AdH
theorem UN {l:List Ext} (h:Ub l) (p:Int→Bool):Ub (kept p l):=Avo h _
theorem Q7 {p:Int→Bool} {l:List Ext} {j:Nat} (h:j<l.length) (hp:p l[j].tag=true):
 (kept p (l.take j)).flatMap Br++ [.sc (.int .i64 l[j].tag),.sl 0 1 l[j].body.length (ints l[j].body)]=(kept p (l.take (j+1))).flatMap Br:=by
 rw[YK h,if_pos hp,List.flatMap_append];simp
theorem I8 {p:Int→Bool} {l:List Ext} {j:Nat} (h:j<l.length) (hp:p l[j].tag=true):(kept p (l.take (j+1))).length=(kept p (l.take j)).length+1:=by
 rw[YK h,if_pos hp];simp
theorem UU {p:Int→Bool} {l:List Ext} {j:Nat} (h:j<l.length) (hp:¬p l[j].tag=true):kept p (l.take (j+1))=kept p (l.take j):=by
 rw[YK h,if_neg hp,List.append_nil]
def Aog (caps:List V):Prop:=∀k,caps.any (m1 k)=false
theorem Q0:Aog []:=fun _=>rfl
theorem Abf {fl:Nat} {cs:List V} {o:Nat} {r:List V} (h:Aog r):Aog (.rptr fl cs o::r):=fun k=>by
 have:=h k
 simp only[List.any_cons,this,m1,Bool.or_self]
theorem Q8 {k g:Nat} {caps:List V} (h:Aog caps):RU k (.fn g caps)= .fn g caps:=by
 have:=h k
 simp only[RU,m3,m2,this]
 rfl
theorem Xw {a b g:Nat} {caps:List V} (h:Aog caps):AbP a b (.fn g caps)= .fn g caps:=by
 have:=h a
 simp only[AbP,m3,m2,this]
 rfl
abbrev LP (D:Dn) (R:Rel):Prop:=∀(l:List Ext) (g:Nat) (caps:List V) (p:Int→Bool),Ub l→Ke caps→Aog caps→(∀t:Int,D g (I t::caps) [] (B (p t)) [])→
 R [.sl 1 2 l.length (l.flatMap Br),.fn g caps] [] (.sl 0 2 (kept p l).length ((kept p l).flatMap Br)) []
theorem AtG (D:Dn):LP D (Body D SA):=by
 intro l g caps p hl hc hno hp
 have hll:=hl.1
 simp -implicitDefEqProofs [↓Q8 hno,↓Xw hno]
 refine Ae (fun k s=>∃j v4 o1 o2 o3 o4 o5,j+k=l.length∧s=⟨[.undef,.fn g caps,.undef,.arr 6,v4,.sl 1 2 l.length (l.flatMap Br),I l.length,I j,.undef,.undef],[.free,o1,o2,o3,o4,o5,.arr 2 0 (kept p (l.take j)).length ((kept p (l.take j)).flatMap Br)]⟩) ?_ (l.length) _ ⟨0,.undef,.free,.free,.free,.free,.free,by simp,by simp[kept,↓Q8 hno,↓Xw hno]⟩
 intro k s ⟨j,v4,o1,o2,o3,o4,o5,hj,hs⟩
 subst hs
 by_cases hjn:j<l.length
 ·have hw:IntKind.i64.wrap ((j:Int)+1)=(j+1:Nat):=by rw[Ad (by omega) (by omega)];simp
  have hb:=Mr hl hjn
  have h1:l[j].body.length*8≤1099511627776:=by omega
  have hkl:=Vb (p:=p) (l:=l) (j:=j)
  have h2:((kept p (l.take j)).length+1)*32≤1099511627776:=by omega
  simp -implicitDefEqProofs [hjn,↓Q8 hno,↓Xw hno,hc.1,hc.2.1]
  refine Aa (hp l[j].tag) ?_
  by_cases he:p l[j].tag=true
  ·have hst:=Q7 hjn he
   have hsl:=I8 hjn he
   simp -implicitDefEqProofs [he,hjn,↓Q8 hno,↓Xw hno,h1,h2]
   exact⟨k-1,by omega,j+1,by omega,by simp[hw],by rw[hsl],by rw[←hst]⟩
  ·have hst:=UU hjn he
   simp -implicitDefEqProofs [he,↓Q8 hno,↓Xw hno]
   exact⟨k-1,by omega,j+1,by omega,by simp[hw],by rw[hst],by rw[hst]⟩
 ·have e:=UL (p:=p) (l:=l) (j:=j) (by omega)
  simp -implicitDefEqProofs [hjn,e]
abbrev Acx (R:Rel):Prop:=∀t:Int,R [I t] [] (B true) []
abbrev Wh (R:Rel):Prop:=∀t:Int,R [I t] [] (B (!Am t)) []
theorem Aro (D:Dn):Acx (Body D Nq):=by
 intro t
 simp -implicitDefEqProofs
theorem Aix (D:Dn) (hR:EW (D UH)):Wh (Body D Kq):=by
 intro t
 simp -implicitDefEqProofs
 refine Aa (hR t) ?_
 simp -implicitDefEqProofs
theorem AxE (l:List Ext):kept (fun _=>true) l=l:=by simp[kept]
abbrev OG (R:Rel):Prop:=∀l:List Ext,Ub l→R [.sl 1 2 l.length (l.flatMap Br)] [] (.sl 0 2 l.length (l.flatMap Br)) []
theorem AtJ (D:Dn) (h1:Acx (D UG)) (hK:LP D (D JF)):OG (Body D Sy):=by
 intro l hl
 simp -implicitDefEqProofs
 refine Aa (hK l UG [] (fun _=>true) hl ER Q0 (fun t=>h1 t)) ?_
 simp -implicitDefEqProofs [AxE]
def AaR (l:List Ext):List Ext:=kept (fun t=> !Am t) l
def KT (l:List Ext) (tags:List Int):List Ext:=kept (fun t=>decide (t∈tags)) l
abbrev GX (R:Rel):Prop:=∀l:List Ext,Ub l→R [.sl 1 2 l.length (l.flatMap Br)] [] (.sl 0 2 (AaR l).length ((AaR l).flatMap Br)) []
theorem Ak8 (D:Dn) (h1:Wh (D QE)) (hK:LP D (D JF)):GX (Body D MO):=by
 intro l hl
 simp -implicitDefEqProofs
 refine Aa (hK l QE [] (fun t=> !Am t) hl ER Q0 (fun t=>h1 t)) ?_
 simp -implicitDefEqProofs [AaR]
abbrev L8 (R:Rel):Prop:=∀(l:List Ext) (tags:List Int),Ub l→tags.length≤maxLen→R [.sl 1 2 l.length (l.flatMap Br),.sl 1 1 tags.length (ints tags)] [] (.sl 0 2 (KT l tags).length ((KT l tags).flatMap Br)) []
abbrev YS (R:Rel):Prop:=∀(t:Int) (tags:List Int),tags.length≤maxLen→R [I t,.rptr 1 [.sl 0 1 tags.length (ints tags)] 0] [] (B (decide (t∈tags))) []
theorem ZU {a:List Int} {r:List V} (h:Ke r):Ke (.rptr 1 [.sl 0 1 a.length (ints a)] 0::r):=Aas (fun H=>by simp) (fun H=>by simp) h
theorem Aum (D:Dn) (hH:R6 (D Bn)):YS (Body D PG):=by
 intro t tags hl
 simp -implicitDefEqProofs
 refine Aa (hH tags t hl) ?_
 simp -implicitDefEqProofs
theorem Aus (D:Dn) (h1:YS (D WH)) (hK:LP D (D JF)):L8 (Body D Uw):=by
 intro l tags hl ht
 simp -implicitDefEqProofs
 refine Aa (hK l WH _ (fun t=>decide (t∈tags)) hl (ZU ER) (Abf Q0) (fun t=>h1 t tags ht)) ?_
 simp -implicitDefEqProofs [KT]
theorem AtH (D:Dn) (hH:R6 (D Jl)):L8 (Body D TD):=by
 intro l tags hl ht
 have hll:=hl.1
 have hres:KT l tags=kept (fun t=>decide (t∈tags)) l:=rfl
 rw[hres]
 generalize hp:(fun t=>decide (t∈tags))=p
 simp -implicitDefEqProofs
 refine Ae (fun k s=>∃j o1 o2 o3 o4,j+k=l.length∧s=⟨[.sl 1 2 l.length (l.flatMap Br),.sl 1 1 tags.length (ints tags),.undef,.arr 5,I j,.undef,.undef],[.free,o1,o2,o3,o4,.arr 2 0 (kept p (l.take j)).length ((kept p (l.take j)).flatMap Br)]⟩) ?_ (l.length) _ ⟨0,.free,.free,.free,.free,by simp,by simp[kept]⟩
 intro k s ⟨j,o1,o2,o3,o4,hj,hs⟩
 subst hs
 by_cases hjn:j<l.length
 ·have hw:IntKind.i64.wrap ((j:Int)+1)=(j+1:Nat):=by rw[Ad (by omega) (by omega)];simp
  have hb:=Mr hl hjn
  have h1:l[j].body.length*8≤1099511627776:=by omega
  have hkl:=Vb (p:=p) (l:=l) (j:=j)
  have h2:((kept p (l.take j)).length+1)*32≤1099511627776:=by omega
  simp -implicitDefEqProofs [hjn]
  refine Aa (hH tags l[j].tag ht) ?_
  have hpe:decide (l[j].tag∈tags)=p l[j].tag:=by rw[←hp]
  rw[hpe]
  by_cases he:p l[j].tag=true
  ·have hst:=Q7 hjn he
   have hsl:=I8 hjn he
   simp -implicitDefEqProofs [he,hjn,h1,h2]
   exact⟨k-1,by omega,j+1,by omega,by simp[hw],by rw[hsl],by rw[←hst]⟩
  ·have hst:=UU hjn he
   simp -implicitDefEqProofs [he]
   exact⟨k-1,by omega,j+1,by omega,by simp[hw],by rw[hst],by rw[hst]⟩
 ·have e:=UL (p:=p) (l:=l) (j:=j) (by omega)
  simp -implicitDefEqProofs [hjn,e]
theorem Alg (D:Dn) (hR:EW (D J8)):GX (Body D Mh):=by
 intro l hl
 have hll:=hl.1
 have hres:AaR l=kept (fun t=> !Am t) l:=rfl
 rw[hres]
 generalize hp:(fun t=> !Am t)=p
 simp -implicitDefEqProofs
 refine Ae (fun k s=>∃j o1 o2 o3 o4,j+k=l.length∧s=⟨[.sl 1 2 l.length (l.flatMap Br),.undef,.arr 5,I j,.undef,.undef],[.free,o1,o2,o3,o4,.arr 2 0 (kept p (l.take j)).length ((kept p (l.take j)).flatMap Br)]⟩) ?_ (l.length) _ ⟨0,.free,.free,.free,.free,by simp,by simp[kept]⟩
 intro k s ⟨j,o1,o2,o3,o4,hj,hs⟩
 subst hs
 by_cases hjn:j<l.length
 ·have hw:IntKind.i64.wrap ((j:Int)+1)=(j+1:Nat):=by rw[Ad (by omega) (by omega)];simp
  have hb:=Mr hl hjn
  have h1:l[j].body.length*8≤1099511627776:=by omega
  have hkl:=Vb (p:=p) (l:=l) (j:=j)
  have h2:((kept p (l.take j)).length+1)*32≤1099511627776:=by omega
  simp -implicitDefEqProofs [hjn]
  refine Aa (hR l[j].tag) ?_
  have hpe:(!Am l[j].tag)=p l[j].tag:=by rw[←hp]
  by_cases he:p l[j].tag=true
  ·have hst:=Q7 hjn he
   have hsl:=I8 hjn he
   have he':Am l[j].tag=false:=by rw[he]at hpe;simpa using hpe
   simp -implicitDefEqProofs [he',hjn,h1,h2]
   exact⟨k-1,by omega,j+1,by omega,by simp[hw],by rw[hsl],by rw[←hst]⟩
  ·have hst:=UU hjn he
   have he':Am l[j].tag=true:=by simp at he;rw[he]at hpe;simpa using hpe
   simp -implicitDefEqProofs [he']
   exact⟨k-1,by omega,j+1,by omega,by simp[hw],by rw[hst],by rw[hst]⟩
 ·have e:=UL (p:=p) (l:=l) (j:=j) (by omega)
  simp -implicitDefEqProofs [hjn,e]
theorem Auy (l:List Ext):KT l (Aq l)=l:=by
 unfold KT kept
 rw[List.filter_eq_self]
 intro x hx
 simp only[decide_eq_true_eq]
 exact List.mem_map.2 ⟨x,hx,rfl⟩
theorem Nb (l:List Ext):(Aq l).length=l.length:=by simp[Aq]
theorem Aw7 (D:Dn) (hT:KV (D Acl)) (hK:L8 (D ZO)):OG (Body D Ud):=by
 intro l hl
 have hll:=hl.1
 simp -implicitDefEqProofs
 refine Aa (hT l hll) ?_
 simp -implicitDefEqProofs
 refine Aa (hK l (Aq l) hl (by rw[Nb];unfold maxLen;omega)) ?_
 simp -implicitDefEqProofs [Auy]
end Go.Eng.T
