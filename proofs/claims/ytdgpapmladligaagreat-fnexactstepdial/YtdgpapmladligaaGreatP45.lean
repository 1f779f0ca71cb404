/- Own work: part 45 of the proof of FnExactStepDial. -/
import Derived.Test.YtdgpapmladligaaGreatP44
set_option linter.unusedSimpArgs false
set_option linter.unusedVariables false
namespace Go.Eng.T
abbrev I (a:Int):V:= .sc (.int .i64 a)
abbrev B (a:Bool):V:= .sc (.bool a)
abbrev S (a:ByteArray):V:= .sc (.string a)
abbrev Rel:=List V→List O→V→List O→Prop
def ints (xs:List Int):List V:=xs.map fun x=> .sc (.int .i64 x)
@[simp] theorem AFX (xs:List Int):(ints xs).length=xs.length:=by simp[ints]
@[simp] theorem AFM:ints []=[]:=rfl
@[simp] theorem ints_at {xs:List Int} {j:Nat} (h:j<xs.length):(ints xs)[j]? =some (V.sc (.int .i64 xs[j])):=by simp[ints,h]
@[simp] theorem AFh {xs:List Int} {j:Nat} (h:j<(ints xs).length):(ints xs)[j]=V.sc (.int .i64 (xs[j]'(by simpa using h))):=by simp[ints]
@[simp] theorem AF1 (xs:List Int) (k:Nat):(ints xs).map (Bc k)=ints xs:=by simp[ints,Function.comp_def,Bc]
theorem AAL (xs ys:List Int):ints xs++ints ys=ints (xs++ys):=by simp[ints]
@[simp] theorem AFs (xs:List Int) (y:Int):ints xs++ [V.sc (.int .i64 y)]=ints (xs++ [y]):=by simp[ints]
@[simp] theorem ints_set (xs:List Int) (j:Nat) (y:Int):(ints xs).set j (V.sc (.int .i64 y))=ints (xs.set j y):=by simp[ints]
@[simp] theorem AFF (n:Nat):(List.replicate n [V.sc (.int .i64 0)]).flatten=ints (List.replicate n 0):=by
 induction n with
 | zero=>rfl
 | succ n ih=>simp[List.replicate_succ,ints]at *
@[simp] theorem AGg (xs:List Int):(ints xs).all Qt=true:=by simp[ints,Qt]
@[simp] theorem AFb (xs:List Int) (o n:Nat):part (ints xs) 1 o n=ints ((xs.drop o).take n):=by simp[part,ints]
@[simp] theorem AFa:∀xs:List Int,(∀x,x∈ints xs→Qt x=true)=True:=by simp[ints,Qt]
@[simp] theorem AE2 (a:V) (cs:List V) (off n:Nat):FU (a::cs) off n=if off+n≤cs.length+1 then some (((a::cs).drop off).take n)else none:=by simp[FU]
structure ZK where
 ok:Bool
 version:Int
 tags:List Int
 deriving DecidableEq
structure FI where
 limit:Int
 drops:List Int
 strips:List Int
 lists:Bool
 deriving DecidableEq
structure BO where
 deal:ZK
 tries:Int
 up:List Int
 deriving DecidableEq
structure Ej where
 version:Int
 stages:List Int
 pos:Int
 off:Bool
 deriving DecidableEq
structure AQ where
 versions:List Int
 tags:List Int
 path:List FI
 cls:Int
 deriving DecidableEq
structure Cm where
 fin:Int
 tick:Int
 on:Bool
 dialed:BO
 deriving DecidableEq
structure World where
 server:List Int
 tags:List Int
 key:Int
 ends:List AQ
 rollout:Ej
 least:Int
 percent:Int
 stage:List BO
 log:List Cm
 now:Int
 hurt:Int
 reached:Int
 deriving DecidableEq
structure Event where
 kind:Int
 n:Int
 box:FI
 deriving DecidableEq
abbrev sl (fl e n:Nat) (cs:List V):V:= .sl fl e n cs
def Wd (d:ZK):List V:=[.sc (.bool d.ok),.sc (.int .i64 d.version),.sl 0 1 d.tags.length (ints d.tags)]
def Cn (d:FI):List V:=[.sc (.int .i64 d.limit),.sl 0 1 d.drops.length (ints d.drops),.sl 0 1 d.strips.length (ints d.strips),.sc (.bool d.lists)]
def Ao (d:BO):List V:=[.sc (.bool d.deal.ok),.sc (.int .i64 d.deal.version),.sl 0 1 d.deal.tags.length (ints d.deal.tags),.sc (.int .i64 d.tries),.sl 0 1 d.up.length (ints d.up)]
def Ga (d:Ej):List V:=[.sc (.int .i64 d.version),.sl 0 1 d.stages.length (ints d.stages),.sc (.int .i64 d.pos),.sc (.bool d.off)]
def Ah (d:AQ):List V:=[.sl 0 1 d.versions.length (ints d.versions),.sl 0 1 d.tags.length (ints d.tags),.sl 0 4 d.path.length (d.path.flatMap Cn),.sc (.int .i64 d.cls)]
def Am (d:Cm):List V:=[.sc (.int .i64 d.fin),.sc (.int .i64 d.tick),.sc (.bool d.on),.sc (.bool d.dialed.deal.ok),.sc (.int .i64 d.dialed.deal.version),.sl 0 1 d.dialed.deal.tags.length (ints d.dialed.deal.tags),.sc (.int .i64 d.dialed.tries),.sl 0 1 d.dialed.up.length (ints d.dialed.up)]
def Gd (d:World):List V:=[.sl 0 1 d.server.length (ints d.server),.sl 0 1 d.tags.length (ints d.tags),.sc (.int .i64 d.key),.sl 0 4 d.ends.length (d.ends.flatMap Ah),.sc (.int .i64 d.rollout.version),.sl 0 1 d.rollout.stages.length (ints d.rollout.stages),.sc (.int .i64 d.rollout.pos),.sc (.bool d.rollout.off),.sc (.int .i64 d.least),.sc (.int .i64 d.percent),.sl 0 5 d.stage.length (d.stage.flatMap Ao),.sl 0 8 d.log.length (d.log.flatMap Am),.sc (.int .i64 d.now),.sc (.int .i64 d.hurt),.sc (.int .i64 d.reached)]
def CX (d:Event):List V:=[.sc (.int .i64 d.kind),.sc (.int .i64 d.n),.sc (.int .i64 d.box.limit),.sl 0 1 d.box.drops.length (ints d.box.drops),.sl 0 1 d.box.strips.length (ints d.box.strips),.sc (.bool d.box.lists)]
abbrev arg (cs:List V):V:= .agg (cs.map (Bc 1))
section
variable {α:Type} {f:α→List V} {e:Nat}
theorem Xq (hf:∀x,(f x).map (Bc 0)=f x) (xs:List α):(xs.flatMap f).map (Bc 0)=xs.flatMap f:=by
 induction xs with
 | nil=>rfl
 | cons x xs ih=>simp[hf,ih]
theorem XM (cs ds:List V) (o:Nat):∀(azs:List V),o+azs.length≤ds.length→putAt (cs++ds) (cs.length+o) azs=cs++putAt ds o azs:=by
 intro azs
 induction azs generalizing ds o with
 | nil=>intro _;simp[putAt]
 | cons a azs ih=>
  intro h
  simp only[putAt,List.length_cons]at *
  rw[List.set_append_right _ _ (by omega),show cs.length+o-cs.length=o by omega,show cs.length+o+1=cs.length+(o+1)by omega]
  exact ih _ _ (by simp;omega)
theorem Atx:∀(ds azs:List V),azs.length≤ds.length→putAt ds 0 azs=azs++ds.drop azs.length:=by
 have key:∀(azs pre ds:List V),azs.length≤ds.length→putAt (pre++ds) pre.length azs=pre++azs++ds.drop azs.length:=by
  intro azs
  induction azs with
  | nil=>intro pre ds _;simp[putAt]
  | cons a azs ih=>
   intro pre ds h
   cases ds with
   | nil=>simp at h
   | cons d ds=>
    have:=ih (pre++ [a]) ds (by simpa using h)
    simp only[putAt]
    rw[List.set_append_right _ _ (Nat.le_refl _),Nat.sub_self,List.set_cons_zero]
    simpa using this
 intro ds azs h
 simpa using key azs [] ds h
theorem QU (hf:∀x,(f x).length=e) {xs:List α} {i:Nat} (hi:i<xs.length) (x:α):putAt (xs.flatMap f) (i*e) (f x)=(xs.set i x).flatMap f:=by
 induction xs generalizing i with
 | nil=>simp at hi
 | cons y ys ih=>
  cases i with
  | zero=>
   rw[Nat.zero_mul,Atx _ _ (by simp[hf])]
   simp[hf]
  | succ i=>
   simp only[List.flatMap_cons,List.set_cons_succ]
   rw[show(i+1)*e=(f y).length+i*e by rw[hf,Nat.add_mul];omega,XM]
   ·rw[ih (by simpa using hi)]
   ·rw[L8 hf,hf]
    have:=Nat.mul_le_mul_right e (show i+1≤ys.length by simp at hi;omega)
    rw[Nat.add_mul]at this;omega
theorem AbT (z:α) (n:Nat):(List.replicate n (f z)).flatten=(List.replicate n z).flatMap f:=by
 induction n with
 | zero=>rfl
 | succ n ih=>simp[List.replicate_succ,ih]
end
def fd (o:O):Prop:=o= .free∨o= .dead
@[simp] theorem Ahc:fd .free:= .inl rfl
@[simp] theorem Ahf:fd .dead:= .inr rfl
def mix {α:Type} (z:α) (xs:List α) (j:Nat):List α:=xs.take j++List.replicate (xs.length-j) z
section
variable {α:Type} {z:α} {xs:List α} {j:Nat}
@[simp] theorem AGa (h:j≤xs.length):(mix z xs j).length=xs.length:=by simp[mix];omega
theorem WU:mix z xs 0=List.replicate xs.length z:=by simp[mix]
theorem Acx (h:xs.length≤j):mix z xs j=xs:=by simp[mix,Nat.sub_eq_zero_of_le h,List.take_of_length_le h]
theorem AaJ (h:j<xs.length):(mix z xs j).set j xs[j]=mix z xs (j+1):=by
 unfold mix
 have hl:(xs.take j).length=j:=by simp;omega
 rw[List.set_append_right _ _ (by omega),hl,Nat.sub_self]
 obtain⟨k,hk⟩:∃k,xs.length-j=k+1:=⟨xs.length-j-1,by omega⟩
 have hk':xs.length-(j+1)=k:=by omega
 have ht:xs.take (j+1)=xs.take j++ [xs[j]]:=by simp
 rw[hk,hk',List.replicate_succ,List.set_cons_zero,ht,List.append_assoc]
 rfl
end
theorem Ab {n:Int} (h1:-9223372036854775808≤n) (h2:n≤9223372036854775807):IntKind.i64.wrap n=n:=by
 show(if(true&&decide (n % (2 ^ 64:Int)≥(2 ^ 63:Int)))=true then n % (2 ^ 64:Int)-(2 ^ 64:Int)else n % (2 ^ 64:Int))=n
 by_cases h:n % (2 ^ 64:Int)≥(2 ^ 63:Int)
 ·rw[if_pos (by simp only[h];rfl)];omega
 ·rw[if_neg (by simp only[h];simp)];omega
section
variable {α:Type} {xs ys:List α} {j:Nat}
theorem Ju (hx:j<xs.length) (hy:j<ys.length) (h:xs.take j=ys.take j) (he:xs[j]=ys[j]):xs.take (j+1)=ys.take (j+1):=by
 rw[List.take_add_one,List.take_add_one,h,List.getElem?_eq_getElem hx,List.getElem?_eq_getElem hy,he]
theorem LB (hx:xs.length≤j) (hl:xs.length=ys.length) (h:xs.take j=ys.take j):xs=ys:=by
 rwa [List.take_of_length_le hx,List.take_of_length_le (by omega)]at h
end
def BB {α:Type} (f:α→Nat) (xs:List α):Nat:=xs.length+(xs.map f).sum
def Ed (d:ZK):Nat:=d.tags.length
def BP (d:FI):Nat:=d.drops.length+d.strips.length
def Aj (d:BO):Nat:=Ed d.deal+d.up.length
def Bd (d:Ej):Nat:=d.stages.length
def Ae (d:AQ):Nat:=d.versions.length+d.tags.length+BB BP d.path
def Ay (d:Cm):Nat:=Aj d.dialed
def AY (d:World):Nat:=d.server.length+d.tags.length+BB Ae d.ends+Bd d.rollout+BB Aj d.stage+BB Ay d.log
def Ag7 (d:Event):Nat:=BP d.box
def szl (n:Nat) (l:Int):Int:=if l<n then -1 else l-n
section
variable {α:Type} {f:α→Nat} {xs:List α} {j:Nat}
theorem TF (h:j<xs.length):((xs.take (j+1)).map f).sum=((xs.take j).map f).sum+f xs[j]:=by
 rw[List.take_add_one,List.getElem?_eq_getElem h,List.map_append,List.sum_append,Option.toList_some,List.map_cons,List.map_nil,List.sum_cons,List.sum_nil,Nat.add_zero]
theorem La:((xs.take j).map f).sum≤(xs.map f).sum:=by
 conv=>rhs;rw[←List.take_append_drop j xs,List.map_append,List.sum_append]
 omega
theorem AaO (h:xs.length≤j):((xs.take j).map f).sum=(xs.map f).sum:=by rw[List.take_of_length_le h]
theorem size_at (h:j<xs.length):f xs[j]≤BB f xs:=by
 have h1:=TF (f:=f) h
 have h2:=La (f:=f) (xs:=xs) (j:=j+1)
 unfold BB;omega
theorem Gb:xs.length≤BB f xs:=by unfold BB;omega
end
def IX (xs:List Int):Prop:=xs.length≤maxLen
def lnS {α:Type} (f:α→Prop) (xs:List α):Prop:=xs.length≤maxLen∧∀(j:Nat) (h:j<xs.length),f xs[j]
def An0 (d:ZK):Prop:=IX d.tags
def Ih (d:FI):Prop:=IX d.drops∧IX d.strips
def Od (d:BO):Prop:=An0 d.deal∧IX d.up
def Xz (d:Ej):Prop:=IX d.stages
def Hz (d:AQ):Prop:=IX d.versions∧IX d.tags∧lnS Ih d.path
def Qu (d:Cm):Prop:=Od d.dialed
def Acs (d:World):Prop:=IX d.server∧IX d.tags∧lnS Hz d.ends∧Xz d.rollout∧lnS Od d.stage∧lnS Qu d.log
def ABV (d:Event):Prop:=Ih d.box
theorem Jg (x:FI):(Cn x).length=4:=rfl
theorem DZ (x:BO):(Ao x).length=5:=rfl
theorem Ea (x:AQ):(Ah x).length=4:=rfl
theorem BQ (x:Cm):(Am x).length=8:=rfl
theorem DU (x:Event):(CX x).length=6:=rfl
@[simp] theorem AGi (xs:List FI):(xs.flatMap Cn).map (Bc 0)=xs.flatMap Cn:=Xq (fun _=>rfl) xs
@[simp] theorem AEd (xs:List BO):(xs.flatMap Ao).map (Bc 0)=xs.flatMap Ao:=Xq (fun _=>rfl) xs
@[simp] theorem AB4 (xs:List AQ):(xs.flatMap Ah).map (Bc 0)=xs.flatMap Ah:=Xq (fun _=>rfl) xs
@[simp] theorem ADW (xs:List Cm):(xs.flatMap Am).map (Bc 0)=xs.flatMap Am:=Xq (fun _=>rfl) xs
@[simp] theorem AFn (xs:List Event):(xs.flatMap CX).map (Bc 0)=xs.flatMap CX:=Xq (fun _=>rfl) xs
@[simp high] theorem AFZ {xs:List FI} {j:Nat} (h:j<xs.length):FU (xs.flatMap Cn) (j*4) 4=some (Cn xs[j]):=Nu Jg h
@[simp high] theorem AEJ {xs:List BO} {j:Nat} (h:j<xs.length):FU (xs.flatMap Ao) (j*5) 5=some (Ao xs[j]):=Nu DZ h
@[simp high] theorem ACv {xs:List AQ} {j:Nat} (h:j<xs.length):FU (xs.flatMap Ah) (j*4) 4=some (Ah xs[j]):=Nu Ea h
@[simp high] theorem AEz {xs:List Cm} {j:Nat} (h:j<xs.length):FU (xs.flatMap Am) (j*8) 8=some (Am xs[j]):=Nu BQ h
@[simp high] theorem AFc {xs:List Event} {j:Nat} (h:j<xs.length):FU (xs.flatMap CX) (j*6) 6=some (CX xs[j]):=Nu DU h
@[simp high] theorem AFm (xs:List FI):(xs.flatMap Cn).length=xs.length*4:=L8 Jg xs
@[simp high] theorem AFz {xs:List FI} {j:Nat} (h:j<xs.length) (a:Int) (b c:List Int) (d:Bool) {nb:Nat} (hb:nb=b.length) {nc:Nat} (hc:nc=c.length):putAt (xs.flatMap Cn) (j*4) [.sc (.int .i64 a),.sl 0 1 nb (ints b),.sl 0 1 nc (ints c),.sc (.bool d)]=(xs.set j ⟨a,b,c,d⟩).flatMap Cn:=by subst hb;subst hc;exact QU Jg h ⟨a,b,c,d⟩
@[simp high] theorem AB3 (xs:List BO):(xs.flatMap Ao).length=xs.length*5:=L8 DZ xs
@[simp high] theorem ADl {xs:List BO} {j:Nat} (h:j<xs.length) (a:Bool) (b:Int) (c:List Int) (d:Int) (u:List Int) {nc:Nat} (hc:nc=c.length) {nu:Nat} (hu:nu=u.length):putAt (xs.flatMap Ao) (j*5) [.sc (.bool a),.sc (.int .i64 b),.sl 0 1 nc (ints c),.sc (.int .i64 d),.sl 0 1 nu (ints u)]=(xs.set j ⟨⟨a,b,c⟩,d,u⟩).flatMap Ao:=by subst hc;subst hu;exact QU DZ h ⟨⟨a,b,c⟩,d,u⟩
@[simp high] theorem Ay6 (xs:List AQ):(xs.flatMap Ah).length=xs.length*4:=L8 Ea xs
@[simp high] theorem ABb {xs:List AQ} {j:Nat} (h:j<xs.length) (a b:List Int) (c:List FI) (d:Int) {na:Nat} (ha:na=a.length) {nb:Nat} (hb:nb=b.length) {nc:Nat} (hc:nc=c.length):putAt (xs.flatMap Ah) (j*4) [.sl 0 1 na (ints a),.sl 0 1 nb (ints b),.sl 0 4 nc (c.flatMap Cn),.sc (.int .i64 d)]=(xs.set j ⟨a,b,c,d⟩).flatMap Ah:=by subst ha;subst hb;subst hc;exact QU Ea h ⟨a,b,c,d⟩
@[simp high] theorem ACH (xs:List Cm):(xs.flatMap Am).length=xs.length*8:=L8 BQ xs
@[simp high] theorem ADx {xs:List Cm} {j:Nat} (h:j<xs.length) (m n:Int) (o a:Bool) (b:Int) (c:List Int) (d:Int) (u:List Int) {nc:Nat} (hc:nc=c.length) {nu:Nat} (hu:nu=u.length):putAt (xs.flatMap Am) (j*8) [.sc (.int .i64 m),.sc (.int .i64 n),.sc (.bool o),.sc (.bool a),.sc (.int .i64 b),.sl 0 1 nc (ints c),.sc (.int .i64 d),.sl 0 1 nu (ints u)]=(xs.set j ⟨m,n,o,⟨⟨a,b,c⟩,d,u⟩⟩).flatMap Am:=by subst hc;subst hu;exact QU BQ h ⟨m,n,o,⟨⟨a,b,c⟩,d,u⟩⟩
@[simp high] theorem ADm (xs:List Event):(xs.flatMap CX).length=xs.length*6:=L8 DU xs
@[simp high] theorem AEg {xs:List Event} {j:Nat} (h:j<xs.length) (m n:Int) (a:Int) (b c:List Int) (d:Bool) {nb:Nat} (hb:nb=b.length) {nc:Nat} (hc:nc=c.length):putAt (xs.flatMap CX) (j*6) [.sc (.int .i64 m),.sc (.int .i64 n),.sc (.int .i64 a),.sl 0 1 nb (ints b),.sl 0 1 nc (ints c),.sc (.bool d)]=(xs.set j ⟨m,n,⟨a,b,c,d⟩⟩).flatMap CX:=by subst hb;subst hc;exact QU DU h ⟨m,n,⟨a,b,c,d⟩⟩
@[simp high] theorem AF8 {xs:List FI} {j:Nat} (h:j<xs.length):(xs.flatMap Cn)[j*4]? =some (.sc (.int .i64 xs[j].limit)):=by
 have:=AU (o:=0) Jg h (by omega)
 simpa[Cn]using this
@[simp high] theorem AF9 {xs:List FI} {j:Nat} (h:j<xs.length):(xs.flatMap Cn)[j*4+1]? =some (.sl 0 1 xs[j].drops.length (ints xs[j].drops)):=by
 have:=AU (o:=1) Jg h (by omega)
 simpa[Cn]using this
@[simp high] theorem AGk {xs:List FI} {j:Nat} (h:j<xs.length):(xs.flatMap Cn)[j*4+2]? =some (.sl 0 1 xs[j].strips.length (ints xs[j].strips)):=by
 have:=AU (o:=2) Jg h (by omega)
 simpa[Cn]using this
@[simp high] theorem AF3 {xs:List FI} {j:Nat} (h:j<xs.length):(xs.flatMap Cn)[j*4+3]? =some (.sc (.bool xs[j].lists)):=by
 have:=AU (o:=3) Jg h (by omega)
 simpa[Cn]using this
@[simp high] theorem AEG {xs:List BO} {j:Nat} (h:j<xs.length):(xs.flatMap Ao)[j*5]? =some (.sc (.bool xs[j].deal.ok)):=by
 have:=AU (o:=0) DZ h (by omega)
 simpa[Ao]using this
@[simp high] theorem AEl {xs:List BO} {j:Nat} (h:j<xs.length):(xs.flatMap Ao)[j*5+1]? =some (.sc (.int .i64 xs[j].deal.version)):=by
 have:=AU (o:=1) DZ h (by omega)
 simpa[Ao]using this
@[simp high] theorem AD4 {xs:List BO} {j:Nat} (h:j<xs.length):(xs.flatMap Ao)[j*5+2]? =some (.sl 0 1 xs[j].deal.tags.length (ints xs[j].deal.tags)):=by
 have:=AU (o:=2) DZ h (by omega)
 simpa[Ao]using this
@[simp high] theorem ADV {xs:List BO} {j:Nat} (h:j<xs.length):(xs.flatMap Ao)[j*5+3]? =some (.sc (.int .i64 xs[j].tries)):=by
 have:=AU (o:=3) DZ h (by omega)
 simpa[Ao]using this
@[simp high] theorem ADU {xs:List BO} {j:Nat} (h:j<xs.length):(xs.flatMap Ao)[j*5+4]? =some (.sl 0 1 xs[j].up.length (ints xs[j].up)):=by
 have:=AU (o:=4) DZ h (by omega)
 simpa[Ao]using this
@[simp high] theorem ACP {xs:List AQ} {j:Nat} (h:j<xs.length):(xs.flatMap Ah)[j*4]? =some (.sl 0 1 xs[j].versions.length (ints xs[j].versions)):=by
 have:=AU (o:=0) Ea h (by omega)
 simpa[Ah]using this
@[simp high] theorem ABG {xs:List AQ} {j:Nat} (h:j<xs.length):(xs.flatMap Ah)[j*4+1]? =some (.sl 0 1 xs[j].tags.length (ints xs[j].tags)):=by
 have:=AU (o:=1) Ea h (by omega)
 simpa[Ah]using this
@[simp high] theorem ABQ {xs:List AQ} {j:Nat} (h:j<xs.length):(xs.flatMap Ah)[j*4+2]? =some (.sl 0 4 xs[j].path.length (xs[j].path.flatMap Cn)):=by
 have:=AU (o:=2) Ea h (by omega)
 simpa[Ah]using this
@[simp high] theorem AB7 {xs:List AQ} {j:Nat} (h:j<xs.length):(xs.flatMap Ah)[j*4+3]? =some (.sc (.int .i64 xs[j].cls)):=by
 have:=AU (o:=3) Ea h (by omega)
 simpa[Ah]using this
@[simp high] theorem AEV {xs:List Cm} {j:Nat} (h:j<xs.length):(xs.flatMap Am)[j*8]? =some (.sc (.int .i64 xs[j].fin)):=by
 have:=AU (o:=0) BQ h (by omega)
 simpa[Am]using this
@[simp high] theorem AD2 {xs:List Cm} {j:Nat} (h:j<xs.length):(xs.flatMap Am)[j*8+1]? =some (.sc (.int .i64 xs[j].tick)):=by
 have:=AU (o:=1) BQ h (by omega)
 simpa[Am]using this
@[simp high] theorem AEH {xs:List Cm} {j:Nat} (h:j<xs.length):(xs.flatMap Am)[j*8+2]? =some (.sc (.bool xs[j].on)):=by
 have:=AU (o:=2) BQ h (by omega)
 simpa[Am]using this
@[simp high] theorem AEb {xs:List Cm} {j:Nat} (h:j<xs.length):(xs.flatMap Am)[j*8+3]? =some (.sc (.bool xs[j].dialed.deal.ok)):=by
 have:=AU (o:=3) BQ h (by omega)
 simpa[Am]using this
@[simp high] theorem ADT {xs:List Cm} {j:Nat} (h:j<xs.length):(xs.flatMap Am)[j*8+4]? =some (.sc (.int .i64 xs[j].dialed.deal.version)):=by
 have:=AU (o:=4) BQ h (by omega)
 simpa[Am]using this
@[simp high] theorem AEk {xs:List Cm} {j:Nat} (h:j<xs.length):(xs.flatMap Am)[j*8+5]? =some (.sl 0 1 xs[j].dialed.deal.tags.length (ints xs[j].dialed.deal.tags)):=by
 have:=AU (o:=5) BQ h (by omega)
 simpa[Am]using this
@[simp high] theorem AEu {xs:List Cm} {j:Nat} (h:j<xs.length):(xs.flatMap Am)[j*8+6]? =some (.sc (.int .i64 xs[j].dialed.tries)):=by
 have:=AU (o:=6) BQ h (by omega)
 simpa[Am]using this
@[simp high] theorem AD7 {xs:List Cm} {j:Nat} (h:j<xs.length):(xs.flatMap Am)[j*8+7]? =some (.sl 0 1 xs[j].dialed.up.length (ints xs[j].dialed.up)):=by
 have:=AU (o:=7) BQ h (by omega)
 simpa[Am]using this
@[simp high] theorem AFv {xs:List Event} {j:Nat} (h:j<xs.length):(xs.flatMap CX)[j*6]? =some (.sc (.int .i64 xs[j].kind)):=by
 have:=AU (o:=0) DU h (by omega)
 simpa[CX]using this
@[simp high] theorem AFf {xs:List Event} {j:Nat} (h:j<xs.length):(xs.flatMap CX)[j*6+1]? =some (.sc (.int .i64 xs[j].n)):=by
 have:=AU (o:=1) DU h (by omega)
 simpa[CX]using this
@[simp high] theorem AFq {xs:List Event} {j:Nat} (h:j<xs.length):(xs.flatMap CX)[j*6+2]? =some (.sc (.int .i64 xs[j].box.limit)):=by
 have:=AU (o:=2) DU h (by omega)
 simpa[CX]using this
@[simp high] theorem AE1 {xs:List Event} {j:Nat} (h:j<xs.length):(xs.flatMap CX)[j*6+3]? =some (.sl 0 1 xs[j].box.drops.length (ints xs[j].box.drops)):=by
 have:=AU (o:=3) DU h (by omega)
 simpa[CX]using this
@[simp high] theorem AE8 {xs:List Event} {j:Nat} (h:j<xs.length):(xs.flatMap CX)[j*6+4]? =some (.sl 0 1 xs[j].box.strips.length (ints xs[j].box.strips)):=by
 have:=AU (o:=4) DU h (by omega)
 simpa[CX]using this
@[simp high] theorem AE9 {xs:List Event} {j:Nat} (h:j<xs.length):(xs.flatMap CX)[j*6+5]? =some (.sc (.bool xs[j].box.lists)):=by
 have:=AU (o:=5) DU h (by omega)
 simpa[CX]using this
theorem P5 {α:Type} {f:α→List V} {e:Nat} (hf:∀x,(f x).length=e) {xs:List α} {j o n:Nat} (h:j<xs.length) (ho:o+n≤e):FU (xs.flatMap f) (j*e+o) n=some (((f xs[j]).drop o).take n):=by
 unfold FU
 have hl:=L8 hf xs
 have h2:j*e+e≤xs.length*e:=by
  have:=Nat.mul_le_mul_right e (show j+1≤xs.length by omega)
  rw[Nat.add_mul]at this;omega
 rw[hl,if_pos (by omega),←List.drop_drop,XG hf,List.drop_eq_getElem_cons h,List.flatMap_cons,List.drop_append,List.take_append]
 have h3:=hf xs[j]
 rw[List.length_drop,h3]
 have:n-(e-o)=0:=by omega
 rw[this,List.take_zero,List.append_nil]
@[simp high] theorem AEP {xs:List Cm} {j:Nat} (h:j<xs.length):FU (xs.flatMap Am) (j*8+3) 5=some (Ao xs[j].dialed):=P5 BQ h (by omega)
@[simp high] theorem AEO {xs:List Cm} {j:Nat} (h:j<xs.length):FU (xs.flatMap Am) (j*8+3) 3=some (Wd xs[j].dialed.deal):=P5 BQ h (by omega)
@[simp high] theorem AEQ {xs:List BO} {j:Nat} (h:j<xs.length):FU (xs.flatMap Ao) (j*5) 3=some (Wd xs[j].deal):=P5 (o:=0) DZ h (by omega)
@[simp high] theorem AEZ {xs:List Event} {j:Nat} (h:j<xs.length):FU (xs.flatMap CX) (j*6+2) 4=some (Cn xs[j].box):=P5 DU h (by omega)
attribute [simp] Nat.add_one_le_iff Wd Cn Ao Ga Ah Am Gd CX
end Go.Eng.T
namespace Go.Eng.T
abbrev Uk (R:Rel):Prop:=∀a b c:Int,R [I a,I b,I c] [] (B (decide (b≤a∧a≤c))) []
theorem AEM (D:Dn):Uk (Body D Zl):=by
 intro a b c
 by_cases h1:b≤a<;>by_cases h2:a≤c<;>simp -implicitDefEqProofs [h1,h2]
theorem Av3 (D:Dn):Uk (Body D RY):=by
 intro a b c
 by_cases h1:b≤a<;>by_cases h2:a≤c<;>simp -implicitDefEqProofs [h1,h2]
end Go.Eng.T
namespace Go.Eng.T
abbrev P9 (R:Rel):Prop:=∀(xs:List Int) (l:Int),0≤l→l≤4194304→IX xs→R [.sl 1 1 xs.length (ints xs),I l] [] (I (szl xs.length l)) []
theorem Azh (D:Dn):P9 (Body D U4):=by
 intro xs l h1 h2 h3
 have hw:IntKind.i64.wrap (l-(xs.length:Int))=l-xs.length:=by unfold IX maxLen at h3;exact Ab (by omega) (by omega)
 by_cases h:l<xs.length
 ·have h':l-(xs.length:Int)<0:=by omega
  simp -implicitDefEqProofs [hw,h,h',szl]
 ·have h':¬l-(xs.length:Int)<0:=by omega
  simp -implicitDefEqProofs [hw,h,h',szl]
abbrev Qa (R:Rel):Prop:=∀(xs:List Int),xs.length*8≤2 ^ 40→R [.sl 1 1 xs.length (ints xs)] [] (.sl 0 1 xs.length (ints xs)) []
theorem AAP (D:Dn):Qa (Body D Ul):=by
 intro xs hl
 have h1:((xs.length:Nat):Int)*8≤1099511627776:=by omega
 simp -implicitDefEqProofs [h1]
 refine Af (fun k s=>∃j,j+k=xs.length∧s=⟨[.sl 1 1 xs.length (ints xs),.undef,.arr 0,.sc (.int .i64 j),.undef],[.arr 1 0 xs.length (ints (mix 0 xs j))]⟩) ?_ xs.length _ ⟨0,by simp,by simp[WU,ints]⟩
 intro k s ⟨j,hj,hs⟩
 subst hs
 by_cases hjn:j<xs.length
 ·have hw:IntKind.i64.wrap ((j:Int)+1)=(j+1:Nat):=by rw[Ab (by omega) (by omega)];simp
  simp -implicitDefEqProofs [hjn,Nat.le_of_lt hjn,AaJ]
  exact⟨k-1,by omega,j+1,by omega,by simp[hw],rfl⟩
 ·have hje:mix 0 xs j=xs:=Acx (by omega)
  simp -implicitDefEqProofs [hjn,hje]
abbrev FK (R:Rel):Prop:=∀(xs ys:List Int),xs.length≤maxLen→ys.length≤maxLen→R [.sl 1 1 xs.length (ints xs),.sl 1 1 ys.length (ints ys)] [] (B (decide (xs=ys))) []
theorem AAi (D:Dn):FK (Body D U7):=by
 intro xs ys h1 h2
 unfold maxLen at h1 h2
 by_cases hl:xs.length=ys.length
 ·have hl':(xs.length:Int)=ys.length:=by omega
  simp -implicitDefEqProofs [hl']
  refine Af (fun k s=>∃j,j+k=xs.length∧xs.take j=ys.take j∧s=⟨[.sl 1 1 xs.length (ints xs),.sl 1 1 ys.length (ints ys),.undef,.sc (.int .i64 j),.undef,.undef,.undef],[]⟩) ?_ xs.length _ ⟨0,by simp,by simp,by simp⟩
  intro k s ⟨j,hj,hp,hs⟩
  subst hs
  by_cases hjn:j<xs.length
  ·have hw:IntKind.i64.wrap ((j:Int)+1)=(j+1:Nat):=by rw[Ab (by omega) (by omega)];simp
   have hy:j<ys.length:=by omega
   by_cases he:xs[j]=ys[j]
   ·simp -implicitDefEqProofs [hjn,hy,he]
    exact⟨k-1,by omega,j+1,by omega,Ju hjn hy hp he,by simp[hw]⟩
   ·have hne:xs≠ys:=fun h=>he (by simp[h])
    simp -implicitDefEqProofs [hjn,hy,he,hne]
  ·obtain rfl:xs=ys:=LB (by omega) hl hp
   simp -implicitDefEqProofs [hjn]
 ·have hl':¬(xs.length:Int)=ys.length:=by omega
  have:xs≠ys:=fun h=>hl (by rw[h])
  simp -implicitDefEqProofs [hl',this]
end Go.Eng.T
namespace Go.Eng.T
abbrev Anu (R:Rel):Prop:=∀(x:FI) (l:Int),0≤l→l≤4194304→Ih x→R [arg (Cn x),I l] [] (I (szl (BP x) l)) []
theorem ABR (D:Dn) (hszIntS:P9 (D 16)):Anu (Body D Wp):=by
 intro x l hl1 hl2 hln
 simp only[Ih]at hln
 simp -implicitDefEqProofs
 refine Aa (hszIntS x.drops (l) (by omega) (by omega) hln.1) ?_
 by_cases g0:l<((x.drops.length:Nat):Int)
 ·have gg:l<((BP x:Nat):Int):=by simp only[BP];omega
  have e1:szl (x.drops.length) (l)= -1:=by unfold szl;rw[if_pos g0]
  have e2:szl (BP x) l= -1:=by unfold szl;rw[if_pos gg]
  simp -implicitDefEqProofs [e1,e2]
 have e3:szl (x.drops.length) (l)=l-((x.drops.length:Nat):Int):=by unfold szl;rw[if_neg g0]
 have p0:¬l-((x.drops.length:Nat):Int)<0:=by omega
 simp -implicitDefEqProofs [e3,p0]
 refine Aa (hszIntS x.strips (l-((x.drops.length:Nat):Int)) (by omega) (by omega) hln.2) ?_
 by_cases g1:l-((x.drops.length:Nat):Int)<((x.strips.length:Nat):Int)
 ·have gg:l<((BP x:Nat):Int):=by simp only[BP];omega
  have e1:szl (x.strips.length) (l-((x.drops.length:Nat):Int))= -1:=by unfold szl;rw[if_pos g1]
  have e2:szl (BP x) l= -1:=by unfold szl;rw[if_pos gg]
  simp -implicitDefEqProofs [e1,e2]
 have e4:szl (x.strips.length) (l-((x.drops.length:Nat):Int))=l-((x.drops.length:Nat):Int)-((x.strips.length:Nat):Int):=by unfold szl;rw[if_neg g1]
 have p1:¬l-((x.drops.length:Nat):Int)-((x.strips.length:Nat):Int)<0:=by omega
 simp -implicitDefEqProofs [e4,p1]
 have gg:¬l<((BP x:Nat):Int):=by simp only[BP];omega
 unfold szl;rw[if_neg gg];simp only[BP]<;>omega
abbrev AoM (R:Rel):Prop:=∀x:FI,BP x≤4194304→R [arg (Cn x)] [] (.agg (Cn x)) []
theorem ABH (D:Dn) (htoIntS:Qa (D 31)):AoM (Body D Xn):=by
 intro x h
 simp only[BP]at h
 simp -implicitDefEqProofs
 refine Aa (htoIntS x.drops (by omega)) ?_
 simp -implicitDefEqProofs
 refine Aa (htoIntS x.strips (by omega)) ?_
 simp -implicitDefEqProofs
abbrev AnP (R:Rel):Prop:=∀x y:FI,BP x≤2 ^ 40→BP y≤2 ^ 40→R [arg (Cn x),arg (Cn y)] [] (B (decide (x=y))) []
theorem ACs (D:Dn) (heqIntS:FK (D 47)):AnP (Body D Xa):=by
 intro x y h1 h2
 simp only[BP]at h1 h2
 by_cases g_limit:x.limit=y.limit
 rotate_left
 ·have hne:x≠y:=fun h=>g_limit (by rw[h])
  simp -implicitDefEqProofs [g_limit,hne]
 simp -implicitDefEqProofs [g_limit]
 refine Aa (heqIntS x.drops y.drops (by unfold maxLen;omega) (by unfold maxLen;omega)) ?_
 by_cases g_drops:x.drops=y.drops
 rotate_left
 ·have hne:x≠y:=fun h=>g_drops (by rw[h])
  simp -implicitDefEqProofs [g_drops,hne]
 simp -implicitDefEqProofs [g_drops]
 refine Aa (heqIntS x.strips y.strips (by unfold maxLen;omega) (by unfold maxLen;omega)) ?_
 by_cases g_strips:x.strips=y.strips
 rotate_left
 ·have hne:x≠y:=fun h=>g_strips (by rw[h])
  simp -implicitDefEqProofs [g_strips,hne]
 simp -implicitDefEqProofs [g_strips]
 by_cases g_lists:x.lists=y.lists
 rotate_left
 ·have hne:x≠y:=fun h=>g_lists (by rw[h])
  simp -implicitDefEqProofs [g_lists,hne]
 simp -implicitDefEqProofs [g_lists]
 have hxy:x=y:=by cases x;cases y;simp_all
 simp -implicitDefEqProofs [hxy]
abbrev AFC (R:Rel):Prop:=∀(x:Event) (l:Int),0≤l→l≤4194304→ABV x→R [arg (CX x),I l] [] (I (szl (Ag7 x) l)) []
abbrev AFJ (R:Rel):Prop:=∀x:Event,Ag7 x≤4194304→R [arg (CX x)] [] (.agg (CX x)) []
abbrev AFy (R:Rel):Prop:=∀x y:Event,Ag7 x≤2 ^ 40→Ag7 y≤2 ^ 40→R [arg (CX x),arg (CX y)] [] (B (decide (x=y))) []
end Go.Eng.T
namespace Go.Eng.T
abbrev Ag6 (R:Rel):Prop:=∀xs ys:List FI,BB BP xs≤2 ^ 40→BB BP ys≤2 ^ 40→R [.sl 1 4 xs.length (xs.flatMap Cn),.sl 1 4 ys.length (ys.flatMap Cn)] [] (B (decide (xs=ys))) []
theorem AyY (D:Dn) (heq:AnP (D 249)):Ag6 (Body D Vm):=by
 intro xs ys h1 h2
 have hlen:=Gb (f:=BP) (xs:=xs)
 by_cases hl:xs.length=ys.length
 ·have hl':(xs.length:Int)=ys.length:=by omega
  simp -implicitDefEqProofs [hl']
  refine Af (fun k s=>∃j,j+k=xs.length∧xs.take j=ys.take j∧s=⟨[.sl 1 4 xs.length (xs.flatMap Cn),.sl 1 4 ys.length (ys.flatMap Cn),.undef,.sc (.int .i64 j),.undef,.undef,.undef],[]⟩) ?_ xs.length _ ⟨0,by simp,by simp,by simp⟩
  intro k s ⟨j,hj,hp,hs⟩
  subst hs
  by_cases hjn:j<xs.length
  ·have hw:IntKind.i64.wrap ((j:Int)+1)=(j+1:Nat):=by rw[Ab (by omega) (by omega)];simp
   have hy:j<ys.length:=by omega
   have hsx:=size_at (f:=BP) hjn
   have hsy:=size_at (f:=BP) hy
   simp -implicitDefEqProofs [hjn,hy]
   refine Aa (heq xs[j] ys[j] (by omega) (by omega)) ?_
   by_cases he:xs[j]=ys[j]
   ·simp -implicitDefEqProofs [he]
    exact⟨k-1,by omega,j+1,by omega,Ju hjn hy hp he,by simp[hw]⟩
   ·have hne:xs≠ys:=fun h=>he (by simp[h])
    simp -implicitDefEqProofs [he,hne]
  ·obtain rfl:xs=ys:=LB (by omega) hl hp
   simp -implicitDefEqProofs [hjn]
 ·have hl':¬(xs.length:Int)=ys.length:=by omega
  have:xs≠ys:=fun h=>hl (by rw[h])
  simp -implicitDefEqProofs [hl',this]
abbrev Rv (R:Rel):Prop:=∀x y:AQ,Ae x≤2 ^ 40→Ae y≤2 ^ 40→R [arg (Ah x),arg (Ah y)] [] (B (decide (x=y))) []
theorem AnC (D:Dn) (heqIntS:FK (D 47)) (heqBoxS:Ag6 (D 204)):Rv (Body D Nr):=by
 intro x y h1 h2
 simp only[Ae]at h1 h2
 simp -implicitDefEqProofs
 refine Aa (heqIntS x.versions y.versions (by unfold maxLen;omega) (by unfold maxLen;omega)) ?_
 by_cases g_versions:x.versions=y.versions
 rotate_left
 ·have hne:x≠y:=fun h=>g_versions (by rw[h])
  simp -implicitDefEqProofs [g_versions,hne]
 simp -implicitDefEqProofs [g_versions]
 refine Aa (heqIntS x.tags y.tags (by unfold maxLen;omega) (by unfold maxLen;omega)) ?_
 by_cases g_tags:x.tags=y.tags
 rotate_left
 ·have hne:x≠y:=fun h=>g_tags (by rw[h])
  simp -implicitDefEqProofs [g_tags,hne]
 simp -implicitDefEqProofs [g_tags]
 refine Aa (heqBoxS x.path y.path (by omega) (by omega)) ?_
 by_cases g_path:x.path=y.path
 rotate_left
 ·have hne:x≠y:=fun h=>g_path (by rw[h])
  simp -implicitDefEqProofs [g_path,hne]
 simp -implicitDefEqProofs [g_path]
 by_cases g_cls:x.cls=y.cls
 rotate_left
 ·have hne:x≠y:=fun h=>g_cls (by rw[h])
  simp -implicitDefEqProofs [g_cls,hne]
 simp -implicitDefEqProofs [g_cls]
 have hxy:x=y:=by cases x;cases y;simp_all
 simp -implicitDefEqProofs [hxy]
abbrev PX (R:Rel):Prop:=∀xs ys:List AQ,BB Ae xs≤2 ^ 40→BB Ae ys≤2 ^ 40→R [.sl 1 4 xs.length (xs.flatMap Ah),.sl 1 4 ys.length (ys.flatMap Ah)] [] (B (decide (xs=ys))) []
theorem Ak2 (D:Dn) (heq:Rv (D 134)):PX (Body D Mg):=by
 intro xs ys h1 h2
 have hlen:=Gb (f:=Ae) (xs:=xs)
 by_cases hl:xs.length=ys.length
 ·have hl':(xs.length:Int)=ys.length:=by omega
  simp -implicitDefEqProofs [hl']
  refine Af (fun k s=>∃j,j+k=xs.length∧xs.take j=ys.take j∧s=⟨[.sl 1 4 xs.length (xs.flatMap Ah),.sl 1 4 ys.length (ys.flatMap Ah),.undef,.sc (.int .i64 j),.undef,.undef,.undef],[]⟩) ?_ xs.length _ ⟨0,by simp,by simp,by simp⟩
  intro k s ⟨j,hj,hp,hs⟩
  subst hs
  by_cases hjn:j<xs.length
  ·have hw:IntKind.i64.wrap ((j:Int)+1)=(j+1:Nat):=by rw[Ab (by omega) (by omega)];simp
   have hy:j<ys.length:=by omega
   have hsx:=size_at (f:=Ae) hjn
   have hsy:=size_at (f:=Ae) hy
   simp -implicitDefEqProofs [hjn,hy]
   refine Aa (heq xs[j] ys[j] (by omega) (by omega)) ?_
   by_cases he:xs[j]=ys[j]
   ·simp -implicitDefEqProofs [he]
    exact⟨k-1,by omega,j+1,by omega,Ju hjn hy hp he,by simp[hw]⟩
   ·have hne:xs≠ys:=fun h=>he (by simp[h])
    simp -implicitDefEqProofs [he,hne]
  ·obtain rfl:xs=ys:=LB (by omega) hl hp
   simp -implicitDefEqProofs [hjn]
 ·have hl':¬(xs.length:Int)=ys.length:=by omega
  have:xs≠ys:=fun h=>hl (by rw[h])
  simp -implicitDefEqProofs [hl',this]
end Go.Eng.T
namespace Go.Eng.T
abbrev Ahn (R:Rel):Prop:=∀xs:List FI,BB BP xs≤4194304→R [.sl 1 4 xs.length (xs.flatMap Cn)] [] (.sl 0 4 xs.length (xs.flatMap Cn)) []
theorem Az7 (D:Dn) (hto:AoM (D 226)):Ahn (Body D UF):=by
 intro xs h
 have hlen:=Gb (f:=BP) (xs:=xs)
 have h1:((xs.length:Nat):Int)*64≤1099511627776:=by omega
 simp -implicitDefEqProofs [h1]
 refine Af (fun k s=>∃j o1 o2,j+k=xs.length∧s=⟨[.sl 1 4 xs.length (xs.flatMap Cn),.undef,.arr 0,.sc (.int .i64 j),.undef],[.arr 4 0 xs.length ((mix (⟨0,[],[],false⟩:FI) xs j).flatMap Cn),o1,o2]⟩) ?_ xs.length _ ⟨0,.free,.free,by simp,by simp[WU];exact AbT (f:=Cn) (⟨0,[],[],false⟩:FI) _⟩
 intro k s ⟨j,o1,o2,hj,hs⟩
 subst hs
 by_cases hjn:j<xs.length
 ·have hw:IntKind.i64.wrap ((j:Int)+1)=(j+1:Nat):=by rw[Ab (by omega) (by omega)];simp
  have hsz:=size_at (f:=BP) hjn
  have hfit:j*4+4≤xs.length*4:=by omega
  have hjl:j≤xs.length:=by omega
  simp -implicitDefEqProofs [hjn]
  refine Aa (hto xs[j] (by omega)) ?_
  simp -implicitDefEqProofs [hjn,hfit,hjl]
  exact⟨k-1,by omega,j+1,by omega,by simp[hw],by rw[←AaJ hjn]⟩
 ·have hje:mix (⟨0,[],[],false⟩:FI) xs j=xs:=Acx (by omega)
  simp -implicitDefEqProofs [hjn,hje]
abbrev Ahd (R:Rel):Prop:=∀(xs:List FI) (l:Int),0≤l→l≤4194304→lnS Ih xs→R [.sl 1 4 xs.length (xs.flatMap Cn),I l] [] (I (szl (BB BP xs) l)) []
theorem AyB (D:Dn) (hsz:Anu (D 206)):Ahd (Body D Uo):=by
 intro xs l h1 h2 hln
 have h3:=hln.1
 unfold maxLen at h3
 have hw:IntKind.i64.wrap (l-(xs.length:Int))=l-xs.length:=Ab (by omega) (by omega)
 by_cases h:l<(xs.length:Int)
 ·have h':l-(xs.length:Int)<0:=by omega
  have e2:szl (BB BP xs) l= -1:=by unfold szl BB;rw[if_pos (by omega)]
  simp -implicitDefEqProofs [hw,h',e2]
 ·have h':¬l-(xs.length:Int)<0:=by omega
  simp -implicitDefEqProofs [hw,h']
  refine Af (fun k s=>∃j,j+k=xs.length∧((xs.take j).map BP).sum+xs.length≤l∧s=⟨[.sl 1 4 xs.length (xs.flatMap Cn),.sc (.int .i64 (l-xs.length-((((xs.take j).map BP).sum:Nat):Int))),.undef,.sc (.int .i64 j),.undef,.undef,.undef],[]⟩) ?_ xs.length _ ⟨0,by simp,by simp;omega,by simp⟩
  intro k s ⟨j,hj,hp,hs⟩
  subst hs
  by_cases hjn:j<xs.length
  ·have hw:IntKind.i64.wrap ((j:Int)+1)=(j+1:Nat):=by rw[Ab (by omega) (by omega)];simp
   have ht:=TF (f:=BP) hjn
   have htl:=La (f:=BP) (xs:=xs) (j:=j+1)
   simp -implicitDefEqProofs [hjn, -List.map_take]
   refine Aa (hsz xs[j] _ (by omega) (by omega) (hln.2 j hjn)) ?_
   by_cases he:l-xs.length-((((xs.take j).map BP).sum:Nat):Int)<BP xs[j]
   ·have e1:szl (BP xs[j]) (l-xs.length-((((xs.take j).map BP).sum:Nat):Int))= -1:=by unfold szl;rw[if_pos he]
    have e2:szl (BB BP xs) l= -1:=by unfold szl BB;rw[if_pos (by omega)]
    simp -implicitDefEqProofs [e1,e2, -List.map_take]
   ·have e1:szl (BP xs[j]) (l-xs.length-((((xs.take j).map BP).sum:Nat):Int))=l-xs.length-((((xs.take j).map BP).sum:Nat):Int)-BP xs[j]:=by unfold szl;rw[if_neg he]
    have e3:¬l-xs.length-((((xs.take j).map BP).sum:Nat):Int)-BP xs[j]<0:=by omega
    simp -implicitDefEqProofs [e1,e3, -List.map_take]
    refine⟨k-1,by omega,j+1,by omega,by omega,?_,by simp[hw]⟩
    rw[ht];omega
  ·have hsm:=AaO (f:=BP) (xs:=xs) (j:=j) (by omega)
   have e2:szl (BB BP xs) l=l-xs.length-((((xs.take j).map BP).sum:Nat):Int):=by unfold szl BB;rw[if_neg (by omega)];omega
   simp -implicitDefEqProofs [hjn,e2, -List.map_take]
abbrev RN (R:Rel):Prop:=∀(x:AQ) (l:Int),0≤l→l≤4194304→Hz x→R [arg (Ah x),I l] [] (I (szl (Ae x) l)) []
theorem AnG (D:Dn) (hszIntS:P9 (D 16)) (hszBoxS:Ahd (D 139)):RN (Body D MZ):=by
 intro x l hl1 hl2 hln
 simp only[Hz]at hln
 simp -implicitDefEqProofs
 refine Aa (hszIntS x.versions (l) (by omega) (by omega) hln.1) ?_
 by_cases g0:l<((x.versions.length:Nat):Int)
 ·have gg:l<((Ae x:Nat):Int):=by simp only[Ae];omega
  have e1:szl (x.versions.length) (l)= -1:=by unfold szl;rw[if_pos g0]
  have e2:szl (Ae x) l= -1:=by unfold szl;rw[if_pos gg]
  simp -implicitDefEqProofs [e1,e2]
 have e3:szl (x.versions.length) (l)=l-((x.versions.length:Nat):Int):=by unfold szl;rw[if_neg g0]
 have p0:¬l-((x.versions.length:Nat):Int)<0:=by omega
 simp -implicitDefEqProofs [e3,p0]
 refine Aa (hszIntS x.tags (l-((x.versions.length:Nat):Int)) (by omega) (by omega) hln.2.1) ?_
 by_cases g1:l-((x.versions.length:Nat):Int)<((x.tags.length:Nat):Int)
 ·have gg:l<((Ae x:Nat):Int):=by simp only[Ae];omega
  have e1:szl (x.tags.length) (l-((x.versions.length:Nat):Int))= -1:=by unfold szl;rw[if_pos g1]
  have e2:szl (Ae x) l= -1:=by unfold szl;rw[if_pos gg]
  simp -implicitDefEqProofs [e1,e2]
 have e4:szl (x.tags.length) (l-((x.versions.length:Nat):Int))=l-((x.versions.length:Nat):Int)-((x.tags.length:Nat):Int):=by unfold szl;rw[if_neg g1]
 have p1:¬l-((x.versions.length:Nat):Int)-((x.tags.length:Nat):Int)<0:=by omega
 simp -implicitDefEqProofs [e4,p1]
 refine Aa (hszBoxS x.path (l-((x.versions.length:Nat):Int)-((x.tags.length:Nat):Int)) (by omega) (by omega) hln.2.2) ?_
 by_cases g2:l-((x.versions.length:Nat):Int)-((x.tags.length:Nat):Int)<((BB BP x.path:Nat):Int)
 ·have gg:l<((Ae x:Nat):Int):=by simp only[Ae];omega
  have e1:szl (BB BP x.path) (l-((x.versions.length:Nat):Int)-((x.tags.length:Nat):Int))= -1:=by unfold szl;rw[if_pos g2]
  have e2:szl (Ae x) l= -1:=by unfold szl;rw[if_pos gg]
  simp -implicitDefEqProofs [e1,e2]
 have e5:szl (BB BP x.path) (l-((x.versions.length:Nat):Int)-((x.tags.length:Nat):Int))=l-((x.versions.length:Nat):Int)-((x.tags.length:Nat):Int)-((BB BP x.path:Nat):Int):=by unfold szl;rw[if_neg g2]
 have p2:¬l-((x.versions.length:Nat):Int)-((x.tags.length:Nat):Int)-((BB BP x.path:Nat):Int)<0:=by omega
 simp -implicitDefEqProofs [e5,p2]
 have gg:¬l<((Ae x:Nat):Int):=by simp only[Ae];omega
 unfold szl;rw[if_neg gg];simp only[Ae]<;>omega
abbrev RJ (R:Rel):Prop:=∀x:AQ,Ae x≤4194304→R [arg (Ah x)] [] (.agg (Ah x)) []
theorem An8 (D:Dn) (htoIntS:Qa (D 31)) (htoBoxS:Ahn (D 170)):RJ (Body D Ny):=by
 intro x h
 simp only[Ae]at h
 simp -implicitDefEqProofs
 refine Aa (htoIntS x.versions (by omega)) ?_
 simp -implicitDefEqProofs
 refine Aa (htoIntS x.tags (by omega)) ?_
 simp -implicitDefEqProofs
 refine Aa (htoBoxS x.path (by omega)) ?_
 simp -implicitDefEqProofs
abbrev PY (R:Rel):Prop:=∀(xs:List AQ) (l:Int),0≤l→l≤4194304→lnS Hz xs→R [.sl 1 4 xs.length (xs.flatMap Ah),I l] [] (I (szl (BB Ae xs) l)) []
theorem AlD (D:Dn) (hsz:RN (D 62)):PY (Body D MI):=by
 intro xs l h1 h2 hln
 have h3:=hln.1
 unfold maxLen at h3
 have hw:IntKind.i64.wrap (l-(xs.length:Int))=l-xs.length:=Ab (by omega) (by omega)
 by_cases h:l<(xs.length:Int)
 ·have h':l-(xs.length:Int)<0:=by omega
  have e2:szl (BB Ae xs) l= -1:=by unfold szl BB;rw[if_pos (by omega)]
  simp -implicitDefEqProofs [hw,h',e2]
 ·have h':¬l-(xs.length:Int)<0:=by omega
  simp -implicitDefEqProofs [hw,h']
  refine Af (fun k s=>∃j,j+k=xs.length∧((xs.take j).map Ae).sum+xs.length≤l∧s=⟨[.sl 1 4 xs.length (xs.flatMap Ah),.sc (.int .i64 (l-xs.length-((((xs.take j).map Ae).sum:Nat):Int))),.undef,.sc (.int .i64 j),.undef,.undef,.undef],[]⟩) ?_ xs.length _ ⟨0,by simp,by simp;omega,by simp⟩
  intro k s ⟨j,hj,hp,hs⟩
  subst hs
  by_cases hjn:j<xs.length
  ·have hw:IntKind.i64.wrap ((j:Int)+1)=(j+1:Nat):=by rw[Ab (by omega) (by omega)];simp
   have ht:=TF (f:=Ae) hjn
   have htl:=La (f:=Ae) (xs:=xs) (j:=j+1)
   simp -implicitDefEqProofs [hjn, -List.map_take]
   refine Aa (hsz xs[j] _ (by omega) (by omega) (hln.2 j hjn)) ?_
   by_cases he:l-xs.length-((((xs.take j).map Ae).sum:Nat):Int)<Ae xs[j]
   ·have e1:szl (Ae xs[j]) (l-xs.length-((((xs.take j).map Ae).sum:Nat):Int))= -1:=by unfold szl;rw[if_pos he]
    have e2:szl (BB Ae xs) l= -1:=by unfold szl BB;rw[if_pos (by omega)]
    simp -implicitDefEqProofs [e1,e2, -List.map_take]
   ·have e1:szl (Ae xs[j]) (l-xs.length-((((xs.take j).map Ae).sum:Nat):Int))=l-xs.length-((((xs.take j).map Ae).sum:Nat):Int)-Ae xs[j]:=by unfold szl;rw[if_neg he]
    have e3:¬l-xs.length-((((xs.take j).map Ae).sum:Nat):Int)-Ae xs[j]<0:=by omega
    simp -implicitDefEqProofs [e1,e3, -List.map_take]
    refine⟨k-1,by omega,j+1,by omega,by omega,?_,by simp[hw]⟩
    rw[ht];omega
  ·have hsm:=AaO (f:=Ae) (xs:=xs) (j:=j) (by omega)
   have e2:szl (BB Ae xs) l=l-xs.length-((((xs.take j).map Ae).sum:Nat):Int):=by unfold szl BB;rw[if_neg (by omega)];omega
   simp -implicitDefEqProofs [hjn,e2, -List.map_take]
abbrev PL (R:Rel):Prop:=∀xs:List AQ,BB Ae xs≤4194304→R [.sl 1 4 xs.length (xs.flatMap Ah)] [] (.sl 0 4 xs.length (xs.flatMap Ah)) []
theorem AlF (D:Dn) (hto:RJ (D 98)):PL (Body D Mx):=by
 intro xs h
 have hlen:=Gb (f:=Ae) (xs:=xs)
 have h1:((xs.length:Nat):Int)*80≤1099511627776:=by omega
 simp -implicitDefEqProofs [h1]
 refine Af (fun k s=>∃j o1 o2 o3,j+k=xs.length∧s=⟨[.sl 1 4 xs.length (xs.flatMap Ah),.undef,.arr 0,.sc (.int .i64 j),.undef],[.arr 4 0 xs.length ((mix (⟨[],[],[],0⟩:AQ) xs j).flatMap Ah),o1,o2,o3]⟩) ?_ xs.length _ ⟨0,.free,.free,.free,by simp,by simp[WU];exact AbT (f:=Ah) (⟨[],[],[],0⟩:AQ) _⟩
 intro k s ⟨j,o1,o2,o3,hj,hs⟩
 subst hs
 by_cases hjn:j<xs.length
 ·have hw:IntKind.i64.wrap ((j:Int)+1)=(j+1:Nat):=by rw[Ab (by omega) (by omega)];simp
  have hsz:=size_at (f:=Ae) hjn
  have hfit:j*4+4≤xs.length*4:=by omega
  have hjl:j≤xs.length:=by omega
  simp -implicitDefEqProofs [hjn]
  refine Aa (hto xs[j] (by omega)) ?_
  simp -implicitDefEqProofs [hjn,hfit,hjl]
  exact⟨k-1,by omega,j+1,by omega,by simp[hw],by rw[←AaJ hjn]⟩
 ·have hje:mix (⟨[],[],[],0⟩:AQ) xs j=xs:=Acx (by omega)
  simp -implicitDefEqProofs [hjn,hje]
abbrev U1 (R:Rel):Prop:=∀(x:Ej) (l:Int),0≤l→l≤4194304→Xz x→R [arg (Ga x),I l] [] (I (szl (Bd x) l)) []
theorem AqW (D:Dn) (hszIntS:P9 (D 16)):U1 (Body D OY):=by
 intro x l hl1 hl2 hln
 simp only[Xz]at hln
 simp -implicitDefEqProofs
 refine Aa (hszIntS x.stages (l) (by omega) (by omega) hln) ?_
 by_cases g0:l<((x.stages.length:Nat):Int)
 ·have gg:l<((Bd x:Nat):Int):=by simp only[Bd];omega
  have e1:szl (x.stages.length) (l)= -1:=by unfold szl;rw[if_pos g0]
  have e2:szl (Bd x) l= -1:=by unfold szl;rw[if_pos gg]
  simp -implicitDefEqProofs [e1,e2]
 have e3:szl (x.stages.length) (l)=l-((x.stages.length:Nat):Int):=by unfold szl;rw[if_neg g0]
 have p0:¬l-((x.stages.length:Nat):Int)<0:=by omega
 simp -implicitDefEqProofs [e3,p0]
 have gg:¬l<((Bd x:Nat):Int):=by simp only[Bd];omega
 unfold szl;rw[if_neg gg];simp only[Bd]<;>omega
abbrev Uy (R:Rel):Prop:=∀x:Ej,Bd x≤4194304→R [arg (Ga x)] [] (.agg (Ga x)) []
theorem ArB (D:Dn) (htoIntS:Qa (D 31)):Uy (Body D OZ):=by
 intro x h
 simp only[Bd]at h
 simp -implicitDefEqProofs
 refine Aa (htoIntS x.stages (by omega)) ?_
 simp -implicitDefEqProofs
abbrev Vr (R:Rel):Prop:=∀x y:Ej,Bd x≤2 ^ 40→Bd y≤2 ^ 40→R [arg (Ga x),arg (Ga y)] [] (B (decide (x=y))) []
theorem Arp (D:Dn) (heqIntS:FK (D 47)):Vr (Body D OH):=by
 intro x y h1 h2
 simp only[Bd]at h1 h2
 by_cases g_version:x.version=y.version
 rotate_left
 ·have hne:x≠y:=fun h=>g_version (by rw[h])
  simp -implicitDefEqProofs [g_version,hne]
 simp -implicitDefEqProofs [g_version]
 refine Aa (heqIntS x.stages y.stages (by unfold maxLen;omega) (by unfold maxLen;omega)) ?_
 by_cases g_stages:x.stages=y.stages
 rotate_left
 ·have hne:x≠y:=fun h=>g_stages (by rw[h])
  simp -implicitDefEqProofs [g_stages,hne]
 simp -implicitDefEqProofs [g_stages]
 by_cases g_pos:x.pos=y.pos
 rotate_left
 ·have hne:x≠y:=fun h=>g_pos (by rw[h])
  simp -implicitDefEqProofs [g_pos,hne]
 simp -implicitDefEqProofs [g_pos]
 by_cases g_off:x.off=y.off
 rotate_left
 ·have hne:x≠y:=fun h=>g_off (by rw[h])
  simp -implicitDefEqProofs [g_off,hne]
 simp -implicitDefEqProofs [g_off]
 have hxy:x=y:=by cases x;cases y;simp_all
 simp -implicitDefEqProofs [hxy]
end Go.Eng.T
namespace Go.Eng.T
abbrev Aht (R:Rel):Prop:=∀(x:ZK) (l:Int),0≤l→l≤4194304→An0 x→R [arg (Wd x),I l] [] (I (szl (Ed x) l)) []
theorem Azw (D:Dn) (hszIntS:P9 (D 16)):Aht (Body D UL):=by
 intro x l hl1 hl2 hln
 simp only[An0]at hln
 simp -implicitDefEqProofs
 refine Aa (hszIntS x.tags (l) (by omega) (by omega) hln) ?_
 by_cases g0:l<((x.tags.length:Nat):Int)
 ·have gg:l<((Ed x:Nat):Int):=by simp only[Ed];omega
  have e1:szl (x.tags.length) (l)= -1:=by unfold szl;rw[if_pos g0]
  have e2:szl (Ed x) l= -1:=by unfold szl;rw[if_pos gg]
  simp -implicitDefEqProofs [e1,e2]
 have e3:szl (x.tags.length) (l)=l-((x.tags.length:Nat):Int):=by unfold szl;rw[if_neg g0]
 have p0:¬l-((x.tags.length:Nat):Int)<0:=by omega
 simp -implicitDefEqProofs [e3,p0]
 have gg:¬l<((Ed x:Nat):Int):=by simp only[Ed];omega
 unfold szl;rw[if_neg gg];simp only[Ed]<;>omega
abbrev Ahv (R:Rel):Prop:=∀x:ZK,Ed x≤4194304→R [arg (Wd x)] [] (.agg (Wd x)) []
theorem AAv (D:Dn) (htoIntS:Qa (D 31)):Ahv (Body D UQ):=by
 intro x h
 simp only[Ed]at h
 simp -implicitDefEqProofs
 refine Aa (htoIntS x.tags (by omega)) ?_
 simp -implicitDefEqProofs
abbrev Ahh (R:Rel):Prop:=∀x y:ZK,Ed x≤2 ^ 40→Ed y≤2 ^ 40→R [arg (Wd x),arg (Wd y)] [] (B (decide (x=y))) []
theorem AyQ (D:Dn) (heqIntS:FK (D 47)):Ahh (Body D Vw):=by
 intro x y h1 h2
 simp only[Ed]at h1 h2
 by_cases g_ok:x.ok=y.ok
 rotate_left
 ·have hne:x≠y:=fun h=>g_ok (by rw[h])
  simp -implicitDefEqProofs [g_ok,hne]
 simp -implicitDefEqProofs [g_ok]
 by_cases g_version:x.version=y.version
 rotate_left
 ·have hne:x≠y:=fun h=>g_version (by rw[h])
  simp -implicitDefEqProofs [g_version,hne]
 simp -implicitDefEqProofs [g_version]
 refine Aa (heqIntS x.tags y.tags (by unfold maxLen;omega) (by unfold maxLen;omega)) ?_
 by_cases g_tags:x.tags=y.tags
 rotate_left
 ·have hne:x≠y:=fun h=>g_tags (by rw[h])
  simp -implicitDefEqProofs [g_tags,hne]
 simp -implicitDefEqProofs [g_tags]
 have hxy:x=y:=by cases x;cases y;simp_all
 simp -implicitDefEqProofs [hxy]
abbrev TS (R:Rel):Prop:=∀(x:BO) (l:Int),0≤l→l≤4194304→Od x→R [arg (Ao x),I l] [] (I (szl (Aj x) l)) []
theorem Aul (D:Dn) (hszDeal:Aht (D 140)) (hszIntS:P9 (D 16)):TS (Body D Q7):=by
 intro x l hl1 hl2 hln
 simp only[Od]at hln
 simp -implicitDefEqProofs
 refine Aa (hszDeal x.deal (l) (by omega) (by omega) hln.1) ?_
 by_cases g0:l<((Ed x.deal:Nat):Int)
 ·have gg:l<((Aj x:Nat):Int):=by simp only[Aj];omega
  have e1:szl (Ed x.deal) (l)= -1:=by unfold szl;rw[if_pos g0]
  have e2:szl (Aj x) l= -1:=by unfold szl;rw[if_pos gg]
  simp -implicitDefEqProofs [e1,e2]
 have e3:szl (Ed x.deal) (l)=l-((Ed x.deal:Nat):Int):=by unfold szl;rw[if_neg g0]
 have p0:¬l-((Ed x.deal:Nat):Int)<0:=by omega
 simp -implicitDefEqProofs [e3,p0]
 refine Aa (hszIntS x.up (l-((Ed x.deal:Nat):Int)) (by omega) (by omega) hln.2) ?_
 by_cases g1:l-((Ed x.deal:Nat):Int)<((x.up.length:Nat):Int)
 ·have gg:l<((Aj x:Nat):Int):=by simp only[Aj];omega
  have e1:szl (x.up.length) (l-((Ed x.deal:Nat):Int))= -1:=by unfold szl;rw[if_pos g1]
  have e2:szl (Aj x) l= -1:=by unfold szl;rw[if_pos gg]
  simp -implicitDefEqProofs [e1,e2]
 have e4:szl (x.up.length) (l-((Ed x.deal:Nat):Int))=l-((Ed x.deal:Nat):Int)-((x.up.length:Nat):Int):=by unfold szl;rw[if_neg g1]
 have p1:¬l-((Ed x.deal:Nat):Int)-((x.up.length:Nat):Int)<0:=by omega
 simp -implicitDefEqProofs [e4,p1]
 have gg:¬l<((Aj x:Nat):Int):=by simp only[Aj];omega
 unfold szl;rw[if_neg gg];simp only[Aj]<;>omega
abbrev TL (R:Rel):Prop:=∀x:BO,Aj x≤4194304→R [arg (Ao x)] [] (.agg (Ao x)) []
theorem Atn (D:Dn) (htoDeal:Ahv (D 171)) (htoIntS:Qa (D 31)):TL (Body D QT):=by
 intro x h
 simp only[Aj]at h
 simp -implicitDefEqProofs
 refine Aa (htoDeal x.deal (by omega)) ?_
 simp -implicitDefEqProofs
 refine Aa (htoIntS x.up (by omega)) ?_
 simp -implicitDefEqProofs
abbrev Tm (R:Rel):Prop:=∀x y:BO,Aj x≤2 ^ 40→Aj y≤2 ^ 40→R [arg (Ao x),arg (Ao y)] [] (B (decide (x=y))) []
theorem AtV (D:Dn) (heqDeal:Ahh (D 205)) (heqIntS:FK (D 47)):Tm (Body D Rn):=by
 intro x y h1 h2
 simp only[Aj]at h1 h2
 simp -implicitDefEqProofs
 refine Aa (heqDeal x.deal y.deal (by omega) (by omega)) ?_
 by_cases g_deal:x.deal=y.deal
 rotate_left
 ·have hne:x≠y:=fun h=>g_deal (by rw[h])
  simp -implicitDefEqProofs [g_deal,hne]
 simp -implicitDefEqProofs [g_deal]
 by_cases g_tries:x.tries=y.tries
 rotate_left
 ·have hne:x≠y:=fun h=>g_tries (by rw[h])
  simp -implicitDefEqProofs [g_tries,hne]
 simp -implicitDefEqProofs [g_tries]
 refine Aa (heqIntS x.up y.up (by unfold maxLen;omega) (by unfold maxLen;omega)) ?_
 by_cases g_up:x.up=y.up
 rotate_left
 ·have hne:x≠y:=fun h=>g_up (by rw[h])
  simp -implicitDefEqProofs [g_up,hne]
 simp -implicitDefEqProofs [g_up]
 have hxy:x=y:=by cases x;cases y;simp_all
 simp -implicitDefEqProofs [hxy]
end Go.Eng.T
namespace Go.Eng.T
abbrev Vu (R:Rel):Prop:=∀(xs:List BO) (l:Int),0≤l→l≤4194304→lnS Od xs→R [.sl 1 5 xs.length (xs.flatMap Ao),I l] [] (I (szl (BB Aj xs) l)) []
theorem Aqi (D:Dn) (hsz:TS (D 63)):Vu (Body D OA):=by
 intro xs l h1 h2 hln
 have h3:=hln.1
 unfold maxLen at h3
 have hw:IntKind.i64.wrap (l-(xs.length:Int))=l-xs.length:=Ab (by omega) (by omega)
 by_cases h:l<(xs.length:Int)
 ·have h':l-(xs.length:Int)<0:=by omega
  have e2:szl (BB Aj xs) l= -1:=by unfold szl BB;rw[if_pos (by omega)]
  simp -implicitDefEqProofs [hw,h',e2]
 ·have h':¬l-(xs.length:Int)<0:=by omega
  simp -implicitDefEqProofs [hw,h']
  refine Af (fun k s=>∃j,j+k=xs.length∧((xs.take j).map Aj).sum+xs.length≤l∧s=⟨[.sl 1 5 xs.length (xs.flatMap Ao),.sc (.int .i64 (l-xs.length-((((xs.take j).map Aj).sum:Nat):Int))),.undef,.sc (.int .i64 j),.undef,.undef,.undef],[]⟩) ?_ xs.length _ ⟨0,by simp,by simp;omega,by simp⟩
  intro k s ⟨j,hj,hp,hs⟩
  subst hs
  by_cases hjn:j<xs.length
  ·have hw:IntKind.i64.wrap ((j:Int)+1)=(j+1:Nat):=by rw[Ab (by omega) (by omega)];simp
   have ht:=TF (f:=Aj) hjn
   have htl:=La (f:=Aj) (xs:=xs) (j:=j+1)
   simp -implicitDefEqProofs [hjn, -List.map_take]
   refine Aa (hsz xs[j] _ (by omega) (by omega) (hln.2 j hjn)) ?_
   by_cases he:l-xs.length-((((xs.take j).map Aj).sum:Nat):Int)<Aj xs[j]
   ·have e1:szl (Aj xs[j]) (l-xs.length-((((xs.take j).map Aj).sum:Nat):Int))= -1:=by unfold szl;rw[if_pos he]
    have e2:szl (BB Aj xs) l= -1:=by unfold szl BB;rw[if_pos (by omega)]
    simp -implicitDefEqProofs [e1,e2, -List.map_take]
   ·have e1:szl (Aj xs[j]) (l-xs.length-((((xs.take j).map Aj).sum:Nat):Int))=l-xs.length-((((xs.take j).map Aj).sum:Nat):Int)-Aj xs[j]:=by unfold szl;rw[if_neg he]
    have e3:¬l-xs.length-((((xs.take j).map Aj).sum:Nat):Int)-Aj xs[j]<0:=by omega
    simp -implicitDefEqProofs [e1,e3, -List.map_take]
    refine⟨k-1,by omega,j+1,by omega,by omega,?_,by simp[hw]⟩
    rw[ht];omega
  ·have hsm:=AaO (f:=Aj) (xs:=xs) (j:=j) (by omega)
   have e2:szl (BB Aj xs) l=l-xs.length-((((xs.take j).map Aj).sum:Nat):Int):=by unfold szl BB;rw[if_neg (by omega)];omega
   simp -implicitDefEqProofs [hjn,e2, -List.map_take]
abbrev UY (R:Rel):Prop:=∀xs:List BO,BB Aj xs≤4194304→R [.sl 1 5 xs.length (xs.flatMap Ao)] [] (.sl 0 5 xs.length (xs.flatMap Ao)) []
theorem Arj (D:Dn) (hto:TL (D 99)):UY (Body D OG):=by
 intro xs h
 have hlen:=Gb (f:=Aj) (xs:=xs)
 have h1:((xs.length:Nat):Int)*72≤1099511627776:=by omega
 simp -implicitDefEqProofs [h1]
 refine Af (fun k s=>∃j o1 o2,j+k=xs.length∧s=⟨[.sl 1 5 xs.length (xs.flatMap Ao),.undef,.arr 0,.sc (.int .i64 j),.undef],[.arr 5 0 xs.length ((mix (⟨⟨false,0,[]⟩,0,[]⟩:BO) xs j).flatMap Ao),o1,o2]⟩) ?_ xs.length _ ⟨0,.free,.free,by simp,by simp[WU];exact AbT (f:=Ao) (⟨⟨false,0,[]⟩,0,[]⟩:BO) _⟩
 intro k s ⟨j,o1,o2,hj,hs⟩
 subst hs
 by_cases hjn:j<xs.length
 ·have hw:IntKind.i64.wrap ((j:Int)+1)=(j+1:Nat):=by rw[Ab (by omega) (by omega)];simp
  have hsz:=size_at (f:=Aj) hjn
  have hfit:j*5+5≤xs.length*5:=by omega
  have hjl:j≤xs.length:=by omega
  simp -implicitDefEqProofs [hjn]
  refine Aa (hto xs[j] (by omega)) ?_
  simp -implicitDefEqProofs [hjn,hfit,hjl]
  exact⟨k-1,by omega,j+1,by omega,by simp[hw],by rw[←AaJ hjn]⟩
 ·have hje:mix (⟨⟨false,0,[]⟩,0,[]⟩:BO) xs j=xs:=Acx (by omega)
  simp -implicitDefEqProofs [hjn,hje]
abbrev UW (R:Rel):Prop:=∀xs ys:List BO,BB Aj xs≤2 ^ 40→BB Aj ys≤2 ^ 40→R [.sl 1 5 xs.length (xs.flatMap Ao),.sl 1 5 ys.length (ys.flatMap Ao)] [] (B (decide (xs=ys))) []
theorem Arz (D:Dn) (heq:Tm (D 135)):UW (Body D OI):=by
 intro xs ys h1 h2
 have hlen:=Gb (f:=Aj) (xs:=xs)
 by_cases hl:xs.length=ys.length
 ·have hl':(xs.length:Int)=ys.length:=by omega
  simp -implicitDefEqProofs [hl']
  refine Af (fun k s=>∃j,j+k=xs.length∧xs.take j=ys.take j∧s=⟨[.sl 1 5 xs.length (xs.flatMap Ao),.sl 1 5 ys.length (ys.flatMap Ao),.undef,.sc (.int .i64 j),.undef,.undef,.undef],[]⟩) ?_ xs.length _ ⟨0,by simp,by simp,by simp⟩
  intro k s ⟨j,hj,hp,hs⟩
  subst hs
  by_cases hjn:j<xs.length
  ·have hw:IntKind.i64.wrap ((j:Int)+1)=(j+1:Nat):=by rw[Ab (by omega) (by omega)];simp
   have hy:j<ys.length:=by omega
   have hsx:=size_at (f:=Aj) hjn
   have hsy:=size_at (f:=Aj) hy
   simp -implicitDefEqProofs [hjn,hy]
   refine Aa (heq xs[j] ys[j] (by omega) (by omega)) ?_
   by_cases he:xs[j]=ys[j]
   ·simp -implicitDefEqProofs [he]
    exact⟨k-1,by omega,j+1,by omega,Ju hjn hy hp he,by simp[hw]⟩
   ·have hne:xs≠ys:=fun h=>he (by simp[h])
    simp -implicitDefEqProofs [he,hne]
  ·obtain rfl:xs=ys:=LB (by omega) hl hp
   simp -implicitDefEqProofs [hjn]
 ·have hl':¬(xs.length:Int)=ys.length:=by omega
  have:xs≠ys:=fun h=>hl (by rw[h])
  simp -implicitDefEqProofs [hl',this]
abbrev XP (R:Rel):Prop:=∀(x:Cm) (l:Int),0≤l→l≤4194304→Qu x→R [arg (Am x),I l] [] (I (szl (Ay x) l)) []
theorem At6 (D:Dn) (hszDialed:TS (D 63)):XP (Body D QH):=by
 intro x l hl1 hl2 hln
 simp only[Qu]at hln
 simp -implicitDefEqProofs
 refine Aa (hszDialed x.dialed (l) (by omega) (by omega) hln) ?_
 by_cases g0:l<((Aj x.dialed:Nat):Int)
 ·have gg:l<((Ay x:Nat):Int):=by simp only[Ay];omega
  have e1:szl (Aj x.dialed) (l)= -1:=by unfold szl;rw[if_pos g0]
  have e2:szl (Ay x) l= -1:=by unfold szl;rw[if_pos gg]
  simp -implicitDefEqProofs [e1,e2]
 have e3:szl (Aj x.dialed) (l)=l-((Aj x.dialed:Nat):Int):=by unfold szl;rw[if_neg g0]
 have p0:¬l-((Aj x.dialed:Nat):Int)<0:=by omega
 simp -implicitDefEqProofs [e3,p0]
 have gg:¬l<((Ay x:Nat):Int):=by simp only[Ay];omega
 unfold szl;rw[if_neg gg];simp only[Ay]<;>omega
abbrev XL (R:Rel):Prop:=∀x:Cm,Ay x≤4194304→R [arg (Am x)] [] (.agg (Am x)) []
theorem Aup (D:Dn) (htoDialed:TL (D 99)):XL (Body D Ri):=by
 intro x h
 simp only[Ay]at h
 simp -implicitDefEqProofs
 refine Aa (htoDialed x.dialed (by omega)) ?_
 simp -implicitDefEqProofs
abbrev XO (R:Rel):Prop:=∀x y:Cm,Ay x≤2 ^ 40→Ay y≤2 ^ 40→R [arg (Am x),arg (Am y)] [] (B (decide (x=y))) []
theorem AsK (D:Dn) (heqDialed:Tm (D 135)):XO (Body D Rb):=by
 intro x y h1 h2
 simp only[Ay]at h1 h2
 by_cases g_fin:x.fin=y.fin
 rotate_left
 ·have hne:x≠y:=fun h=>g_fin (by rw[h])
  simp -implicitDefEqProofs [g_fin,hne]
 simp -implicitDefEqProofs [g_fin]
 by_cases g_tick:x.tick=y.tick
 rotate_left
 ·have hne:x≠y:=fun h=>g_tick (by rw[h])
  simp -implicitDefEqProofs [g_tick,hne]
 simp -implicitDefEqProofs [g_tick]
 by_cases g_on:x.on=y.on
 rotate_left
 ·have hne:x≠y:=fun h=>g_on (by rw[h])
  simp -implicitDefEqProofs [g_on,hne]
 simp -implicitDefEqProofs [g_on]
 refine Aa (heqDialed x.dialed y.dialed (by omega) (by omega)) ?_
 by_cases g_dialed:x.dialed=y.dialed
 rotate_left
 ·have hne:x≠y:=fun h=>g_dialed (by rw[h])
  simp -implicitDefEqProofs [g_dialed,hne]
 simp -implicitDefEqProofs [g_dialed]
 have hxy:x=y:=by cases x;cases y;simp_all
 simp -implicitDefEqProofs [hxy]
abbrev Ux (R:Rel):Prop:=∀(xs:List Cm) (l:Int),0≤l→l≤4194304→lnS Qu xs→R [.sl 1 8 xs.length (xs.flatMap Am),I l] [] (I (szl (BB Ay xs) l)) []
theorem Aqy (D:Dn) (hsz:XP (D 64)):Ux (Body D O6):=by
 intro xs l h1 h2 hln
 have h3:=hln.1
 unfold maxLen at h3
 have hw:IntKind.i64.wrap (l-(xs.length:Int))=l-xs.length:=Ab (by omega) (by omega)
 by_cases h:l<(xs.length:Int)
 ·have h':l-(xs.length:Int)<0:=by omega
  have e2:szl (BB Ay xs) l= -1:=by unfold szl BB;rw[if_pos (by omega)]
  simp -implicitDefEqProofs [hw,h',e2]
 ·have h':¬l-(xs.length:Int)<0:=by omega
  simp -implicitDefEqProofs [hw,h']
  refine Af (fun k s=>∃j,j+k=xs.length∧((xs.take j).map Ay).sum+xs.length≤l∧s=⟨[.sl 1 8 xs.length (xs.flatMap Am),.sc (.int .i64 (l-xs.length-((((xs.take j).map Ay).sum:Nat):Int))),.undef,.sc (.int .i64 j),.undef,.undef,.undef],[]⟩) ?_ xs.length _ ⟨0,by simp,by simp;omega,by simp⟩
  intro k s ⟨j,hj,hp,hs⟩
  subst hs
  by_cases hjn:j<xs.length
  ·have hw:IntKind.i64.wrap ((j:Int)+1)=(j+1:Nat):=by rw[Ab (by omega) (by omega)];simp
   have ht:=TF (f:=Ay) hjn
   have htl:=La (f:=Ay) (xs:=xs) (j:=j+1)
   simp -implicitDefEqProofs [hjn, -List.map_take]
   refine Aa (hsz xs[j] _ (by omega) (by omega) (hln.2 j hjn)) ?_
   by_cases he:l-xs.length-((((xs.take j).map Ay).sum:Nat):Int)<Ay xs[j]
   ·have e1:szl (Ay xs[j]) (l-xs.length-((((xs.take j).map Ay).sum:Nat):Int))= -1:=by unfold szl;rw[if_pos he]
    have e2:szl (BB Ay xs) l= -1:=by unfold szl BB;rw[if_pos (by omega)]
    simp -implicitDefEqProofs [e1,e2, -List.map_take]
   ·have e1:szl (Ay xs[j]) (l-xs.length-((((xs.take j).map Ay).sum:Nat):Int))=l-xs.length-((((xs.take j).map Ay).sum:Nat):Int)-Ay xs[j]:=by unfold szl;rw[if_neg he]
    have e3:¬l-xs.length-((((xs.take j).map Ay).sum:Nat):Int)-Ay xs[j]<0:=by omega
    simp -implicitDefEqProofs [e1,e3, -List.map_take]
    refine⟨k-1,by omega,j+1,by omega,by omega,?_,by simp[hw]⟩
    rw[ht];omega
  ·have hsm:=AaO (f:=Ay) (xs:=xs) (j:=j) (by omega)
   have e2:szl (BB Ay xs) l=l-xs.length-((((xs.take j).map Ay).sum:Nat):Int):=by unfold szl BB;rw[if_neg (by omega)];omega
   simp -implicitDefEqProofs [hjn,e2, -List.map_take]
abbrev UG (R:Rel):Prop:=∀xs:List Cm,BB Ay xs≤4194304→R [.sl 1 8 xs.length (xs.flatMap Am)] [] (.sl 0 8 xs.length (xs.flatMap Am)) []
theorem ApO (D:Dn) (hto:XL (D 100)):UG (Body D OX):=by
 intro xs h
 have hlen:=Gb (f:=Ay) (xs:=xs)
 have h1:((xs.length:Nat):Int)*96≤1099511627776:=by omega
 simp -implicitDefEqProofs [h1]
 refine Af (fun k s=>∃j o1 o2,j+k=xs.length∧s=⟨[.sl 1 8 xs.length (xs.flatMap Am),.undef,.arr 0,.sc (.int .i64 j),.undef],[.arr 8 0 xs.length ((mix (⟨0,0,false,⟨⟨false,0,[]⟩,0,[]⟩⟩:Cm) xs j).flatMap Am),o1,o2]⟩) ?_ xs.length _ ⟨0,.free,.free,by simp,by simp[WU];exact AbT (f:=Am) (⟨0,0,false,⟨⟨false,0,[]⟩,0,[]⟩⟩:Cm) _⟩
 intro k s ⟨j,o1,o2,hj,hs⟩
 subst hs
 by_cases hjn:j<xs.length
 ·have hw:IntKind.i64.wrap ((j:Int)+1)=(j+1:Nat):=by rw[Ab (by omega) (by omega)];simp
  have hsz:=size_at (f:=Ay) hjn
  have hfit:j*8+8≤xs.length*8:=by omega
  have hjl:j≤xs.length:=by omega
  simp -implicitDefEqProofs [hjn]
  refine Aa (hto xs[j] (by omega)) ?_
  simp -implicitDefEqProofs [hjn,hfit,hjl]
  exact⟨k-1,by omega,j+1,by omega,by simp[hw],by rw[←AaJ hjn]⟩
 ·have hje:mix (⟨0,0,false,⟨⟨false,0,[]⟩,0,[]⟩⟩:Cm) xs j=xs:=Acx (by omega)
  simp -implicitDefEqProofs [hjn,hje]
abbrev Vn (R:Rel):Prop:=∀xs ys:List Cm,BB Ay xs≤2 ^ 40→BB Ay ys≤2 ^ 40→R [.sl 1 8 xs.length (xs.flatMap Am),.sl 1 8 ys.length (ys.flatMap Am)] [] (B (decide (xs=ys))) []
theorem Aqf (D:Dn) (heq:XO (D 136)):Vn (Body D Py):=by
 intro xs ys h1 h2
 have hlen:=Gb (f:=Ay) (xs:=xs)
 by_cases hl:xs.length=ys.length
 ·have hl':(xs.length:Int)=ys.length:=by omega
  simp -implicitDefEqProofs [hl']
  refine Af (fun k s=>∃j,j+k=xs.length∧xs.take j=ys.take j∧s=⟨[.sl 1 8 xs.length (xs.flatMap Am),.sl 1 8 ys.length (ys.flatMap Am),.undef,.sc (.int .i64 j),.undef,.undef,.undef],[]⟩) ?_ xs.length _ ⟨0,by simp,by simp,by simp⟩
  intro k s ⟨j,hj,hp,hs⟩
  subst hs
  by_cases hjn:j<xs.length
  ·have hw:IntKind.i64.wrap ((j:Int)+1)=(j+1:Nat):=by rw[Ab (by omega) (by omega)];simp
   have hy:j<ys.length:=by omega
   have hsx:=size_at (f:=Ay) hjn
   have hsy:=size_at (f:=Ay) hy
   simp -implicitDefEqProofs [hjn,hy]
   refine Aa (heq xs[j] ys[j] (by omega) (by omega)) ?_
   by_cases he:xs[j]=ys[j]
   ·simp -implicitDefEqProofs [he]
    exact⟨k-1,by omega,j+1,by omega,Ju hjn hy hp he,by simp[hw]⟩
   ·have hne:xs≠ys:=fun h=>he (by simp[h])
    simp -implicitDefEqProofs [he,hne]
  ·obtain rfl:xs=ys:=LB (by omega) hl hp
   simp -implicitDefEqProofs [hjn]
 ·have hl':¬(xs.length:Int)=ys.length:=by omega
  have:xs≠ys:=fun h=>hl (by rw[h])
  simp -implicitDefEqProofs [hl',this]
end Go.Eng.T
namespace Go.Eng.T
def nums:Nat→Int→List Int
 | 0,_=> []
 | n+1,k=>k::nums n (k+1)
@[simp] theorem Arl:∀(n:Nat) (k:Int),(nums n k).length=n
 | 0,_=>rfl
 | n+1,k=>by simp[nums,Arl n]
theorem AqA:∀(n:Nat) (k:Int) (j:Nat) (h:j<(nums n k).length),(nums n k)[j]=k+j
 | 0,k,j,h=>by simp[nums]at h
 | n+1,k,0,h=>by simp[nums]
 | n+1,k,j+1,h=>by
  simp only[nums,List.getElem_cons_succ]
  rw[AqA n (k+1) j (by simpa[nums]using h)]
  simp;omega
def YJ {α:Type} (mc:α→Nat) (mk:α→Int→α):List α→Int→List α
 | [],_=> []
 | x::r,k=>mk x k::YJ mc mk r (k+mc x)
def Gm {α:Type} (mc:α→Nat) (xs:List α):Nat:=(xs.map mc).sum
section
variable {α:Type} {mc:α→Nat} {mk:α→Int→α}
@[simp] theorem ADe:∀(xs:List α) (k:Int),(YJ mc mk xs k).length=xs.length
 | [],_=>rfl
 | x::r,k=>by simp[YJ,ADe r]
theorem Acv:∀(xs:List α) (k:Int) (j:Nat) (h:j<xs.length),(YJ mc mk xs k)[j]'(by simpa using h)=mk xs[j] (k+(Gm mc (xs.take j):Nat))
 | [],k,j,h=>by simp at h
 | x::r,k,0,h=>by simp[YJ,Gm]
 | x::r,k,j+1,h=>by
  simp only[YJ,List.getElem_cons_succ]
  rw[Acv r (k+mc x) j (by simpa using h)]
  simp[Gm];congr 1;omega
theorem AiZ (ys:List α):∀(xs:List α) (k:Int),YJ mc mk (xs++ys) k=YJ mc mk xs k++YJ mc mk ys (k+(Gm mc xs:Nat))
 | [],k=>by simp[YJ,Gm]
 | x::r,k=>by
  simp only[List.cons_append,YJ,AiZ ys r]
  simp[Gm];congr 1;omega
def mkJ (mc:α→Nat) (mk:α→Int→α) (xs:List α) (k:Int) (j:Nat):List α:=YJ mc mk (xs.take j) k++xs.drop j
theorem AaK {xs:List α} {k:Int}:mkJ mc mk xs k 0=xs:=by simp[mkJ,YJ]
theorem Ahq {xs:List α} {k:Int} {j:Nat} (h:xs.length≤j):mkJ mc mk xs k j=YJ mc mk xs k:=by simp[mkJ,List.take_of_length_le h,List.drop_eq_nil_of_le h]
@[simp] theorem ACb {xs:List α} {k:Int} {j:Nat} (h:j≤xs.length):(mkJ mc mk xs k j).length=xs.length:=by simp[mkJ];omega
theorem JF {xs:List α} {k:Int} {j:Nat} (h:j<xs.length):(mkJ mc mk xs k j)[j]'(by rw[ACb (by omega)];exact h)=xs[j]:=by
 unfold mkJ
 have hl:(YJ mc mk (xs.take j) k).length=j:=by simp;omega
 rw[List.getElem_append_right (by omega)]
 simp[hl]
theorem Ahl {xs:List α} {k:Int} {j:Nat} (h:j<xs.length):(mkJ mc mk xs k j).set j (mk xs[j] (k+(Gm mc (xs.take j):Nat)))=mkJ mc mk xs k (j+1):=by
 unfold mkJ
 have hl:(YJ mc mk (xs.take j) k).length=j:=by simp;omega
 have ht:xs.take (j+1)=xs.take j++ [xs[j]]:=by simp
 rw[List.set_append_right _ _ (by omega),hl,Nat.sub_self,ht,AiZ,List.drop_eq_getElem_cons h,List.set_cons_zero,List.append_assoc]
 rfl
theorem Oc {xs:List α} {j:Nat} (h:j<xs.length):Gm mc (xs.take (j+1))=Gm mc (xs.take j)+mc xs[j]:=TF h
theorem Wi {xs:List α} {j:Nat}:Gm mc (xs.take j)≤Gm mc xs:=La
theorem RB {xs:List α} {j:Nat} (h:xs.length≤j):Gm mc (xs.take j)=Gm mc xs:=AaO h
theorem Xd (h:∀x,1≤mc x) (xs:List α):xs.length≤Gm mc xs:=by
 induction xs with
 | nil=>simp
 | cons x r ih=>
  have:=h x
  simp[Gm]at *
  omega
end
theorem Cx {α:Type} {f:α→List V} {e:Nat} (hf:∀x,(f x).length=e) {o:Nat} (ho:o<e) {v:V} {y:α}:∀ {xs:List α} {j:Nat} (h:j<xs.length),f y=(f xs[j]).set o v→(xs.flatMap f).set (j*e+o) v=(xs.set j y).flatMap f
 | [],j,h,_=>by simp at h
 | x::xs,0,_,hy=>by
  simp only[List.flatMap_cons,List.set_cons_zero,Nat.zero_mul,Nat.zero_add]
  rw[List.set_append_left _ _ (by rw[hf];exact ho),hy]
  rfl
 | x::xs,j+1,h,hy=>by
  simp only[List.flatMap_cons,List.set_cons_succ]
  have e1:(j+1)*e+o=(f x).length+(j*e+o):=by rw[hf,Nat.add_mul];omega
  rw[e1,List.set_append_right _ _ (by omega),Nat.add_sub_cancel_left,Cx hf ho (by simpa using h) (by simpa using hy)]
@[simp high] theorem AF7 {xs:List FI} {j:Nat} (h:j<xs.length) (a:Int):(xs.flatMap Cn).set (j*4) (.sc (.int .i64 a))=(xs.set j ⟨a,xs[j].drops,xs[j].strips,xs[j].lists⟩).flatMap Cn:=Cx (o:=0) Jg (by omega) h rfl
@[simp high] theorem AF5 {xs:List FI} {j:Nat} (h:j<xs.length) {n:Nat} (a:List Int) (hn:n=a.length):(xs.flatMap Cn).set (j*4+1) (.sl 0 1 n (ints a))=(xs.set j ⟨xs[j].limit,a,xs[j].strips,xs[j].lists⟩).flatMap Cn:=by subst hn;exact Cx (o:=1) Jg (by omega) h rfl
@[simp high] theorem AGe {xs:List FI} {j:Nat} (h:j<xs.length) {n:Nat} (a:List Int) (hn:n=a.length):(xs.flatMap Cn).set (j*4+2) (.sl 0 1 n (ints a))=(xs.set j ⟨xs[j].limit,xs[j].drops,a,xs[j].lists⟩).flatMap Cn:=by subst hn;exact Cx (o:=2) Jg (by omega) h rfl
@[simp high] theorem AGb {xs:List FI} {j:Nat} (h:j<xs.length) (a:Bool):(xs.flatMap Cn).set (j*4+3) (.sc (.bool a))=(xs.set j ⟨xs[j].limit,xs[j].drops,xs[j].strips,a⟩).flatMap Cn:=Cx (o:=3) Jg (by omega) h rfl
@[simp high] theorem AEX {xs:List BO} {j:Nat} (h:j<xs.length) (a:Bool):(xs.flatMap Ao).set (j*5) (.sc (.bool a))=(xs.set j ⟨⟨a,xs[j].deal.version,xs[j].deal.tags⟩,xs[j].tries,xs[j].up⟩).flatMap Ao:=Cx (o:=0) DZ (by omega) h rfl
@[simp high] theorem AEN {xs:List BO} {j:Nat} (h:j<xs.length) (a:Int):(xs.flatMap Ao).set (j*5+1) (.sc (.int .i64 a))=(xs.set j ⟨⟨xs[j].deal.ok,a,xs[j].deal.tags⟩,xs[j].tries,xs[j].up⟩).flatMap Ao:=Cx (o:=1) DZ (by omega) h rfl
@[simp high] theorem AEI {xs:List BO} {j:Nat} (h:j<xs.length) {n:Nat} (a:List Int) (hn:n=a.length):(xs.flatMap Ao).set (j*5+2) (.sl 0 1 n (ints a))=(xs.set j ⟨⟨xs[j].deal.ok,xs[j].deal.version,a⟩,xs[j].tries,xs[j].up⟩).flatMap Ao:=by subst hn;exact Cx (o:=2) DZ (by omega) h rfl
@[simp high] theorem ADQ {xs:List BO} {j:Nat} (h:j<xs.length) (a:Int):(xs.flatMap Ao).set (j*5+3) (.sc (.int .i64 a))=(xs.set j ⟨⟨xs[j].deal.ok,xs[j].deal.version,xs[j].deal.tags⟩,a,xs[j].up⟩).flatMap Ao:=Cx (o:=3) DZ (by omega) h rfl
@[simp high] theorem AED {xs:List BO} {j:Nat} (h:j<xs.length) {n:Nat} (a:List Int) (hn:n=a.length):(xs.flatMap Ao).set (j*5+4) (.sl 0 1 n (ints a))=(xs.set j ⟨⟨xs[j].deal.ok,xs[j].deal.version,xs[j].deal.tags⟩,xs[j].tries,a⟩).flatMap Ao:=by subst hn;exact Cx (o:=4) DZ (by omega) h rfl
@[simp high] theorem ACI {xs:List AQ} {j:Nat} (h:j<xs.length) {n:Nat} (a:List Int) (hn:n=a.length):(xs.flatMap Ah).set (j*4) (.sl 0 1 n (ints a))=(xs.set j ⟨a,xs[j].tags,xs[j].path,xs[j].cls⟩).flatMap Ah:=by subst hn;exact Cx (o:=0) Ea (by omega) h rfl
@[simp high] theorem ACp {xs:List AQ} {j:Nat} (h:j<xs.length) {n:Nat} (a:List Int) (hn:n=a.length):(xs.flatMap Ah).set (j*4+1) (.sl 0 1 n (ints a))=(xs.set j ⟨xs[j].versions,a,xs[j].path,xs[j].cls⟩).flatMap Ah:=by subst hn;exact Cx (o:=1) Ea (by omega) h rfl
@[simp high] theorem ACA {xs:List AQ} {j:Nat} (h:j<xs.length) {n:Nat} (a:List FI) (hn:n=a.length):(xs.flatMap Ah).set (j*4+2) (.sl 0 4 n (a.flatMap Cn))=(xs.set j ⟨xs[j].versions,xs[j].tags,a,xs[j].cls⟩).flatMap Ah:=by subst hn;exact Cx (o:=2) Ea (by omega) h rfl
@[simp high] theorem AC8 {xs:List AQ} {j:Nat} (h:j<xs.length) (a:Int):(xs.flatMap Ah).set (j*4+3) (.sc (.int .i64 a))=(xs.set j ⟨xs[j].versions,xs[j].tags,xs[j].path,a⟩).flatMap Ah:=Cx (o:=3) Ea (by omega) h rfl
@[simp high] theorem ADS {xs:List Cm} {j:Nat} (h:j<xs.length) (a:Int):(xs.flatMap Am).set (j*8) (.sc (.int .i64 a))=(xs.set j ⟨a,xs[j].tick,xs[j].on,⟨⟨xs[j].dialed.deal.ok,xs[j].dialed.deal.version,xs[j].dialed.deal.tags⟩,xs[j].dialed.tries,xs[j].dialed.up⟩⟩).flatMap Am:=Cx (o:=0) BQ (by omega) h rfl
@[simp high] theorem ADR {xs:List Cm} {j:Nat} (h:j<xs.length) (a:Int):(xs.flatMap Am).set (j*8+1) (.sc (.int .i64 a))=(xs.set j ⟨xs[j].fin,a,xs[j].on,⟨⟨xs[j].dialed.deal.ok,xs[j].dialed.deal.version,xs[j].dialed.deal.tags⟩,xs[j].dialed.tries,xs[j].dialed.up⟩⟩).flatMap Am:=Cx (o:=1) BQ (by omega) h rfl
@[simp high] theorem AD0 {xs:List Cm} {j:Nat} (h:j<xs.length) (a:Bool):(xs.flatMap Am).set (j*8+2) (.sc (.bool a))=(xs.set j ⟨xs[j].fin,xs[j].tick,a,⟨⟨xs[j].dialed.deal.ok,xs[j].dialed.deal.version,xs[j].dialed.deal.tags⟩,xs[j].dialed.tries,xs[j].dialed.up⟩⟩).flatMap Am:=Cx (o:=2) BQ (by omega) h rfl
@[simp high] theorem AEi {xs:List Cm} {j:Nat} (h:j<xs.length) (a:Bool):(xs.flatMap Am).set (j*8+3) (.sc (.bool a))=(xs.set j ⟨xs[j].fin,xs[j].tick,xs[j].on,⟨⟨a,xs[j].dialed.deal.version,xs[j].dialed.deal.tags⟩,xs[j].dialed.tries,xs[j].dialed.up⟩⟩).flatMap Am:=Cx (o:=3) BQ (by omega) h rfl
@[simp high] theorem AER {xs:List Cm} {j:Nat} (h:j<xs.length) (a:Int):(xs.flatMap Am).set (j*8+4) (.sc (.int .i64 a))=(xs.set j ⟨xs[j].fin,xs[j].tick,xs[j].on,⟨⟨xs[j].dialed.deal.ok,a,xs[j].dialed.deal.tags⟩,xs[j].dialed.tries,xs[j].dialed.up⟩⟩).flatMap Am:=Cx (o:=4) BQ (by omega) h rfl
@[simp high] theorem AEy {xs:List Cm} {j:Nat} (h:j<xs.length) {n:Nat} (a:List Int) (hn:n=a.length):(xs.flatMap Am).set (j*8+5) (.sl 0 1 n (ints a))=(xs.set j ⟨xs[j].fin,xs[j].tick,xs[j].on,⟨⟨xs[j].dialed.deal.ok,xs[j].dialed.deal.version,a⟩,xs[j].dialed.tries,xs[j].dialed.up⟩⟩).flatMap Am:=by subst hn;exact Cx (o:=5) BQ (by omega) h rfl
@[simp high] theorem AD3 {xs:List Cm} {j:Nat} (h:j<xs.length) (a:Int):(xs.flatMap Am).set (j*8+6) (.sc (.int .i64 a))=(xs.set j ⟨xs[j].fin,xs[j].tick,xs[j].on,⟨⟨xs[j].dialed.deal.ok,xs[j].dialed.deal.version,xs[j].dialed.deal.tags⟩,a,xs[j].dialed.up⟩⟩).flatMap Am:=Cx (o:=6) BQ (by omega) h rfl
@[simp high] theorem AEo {xs:List Cm} {j:Nat} (h:j<xs.length) {n:Nat} (a:List Int) (hn:n=a.length):(xs.flatMap Am).set (j*8+7) (.sl 0 1 n (ints a))=(xs.set j ⟨xs[j].fin,xs[j].tick,xs[j].on,⟨⟨xs[j].dialed.deal.ok,xs[j].dialed.deal.version,xs[j].dialed.deal.tags⟩,xs[j].dialed.tries,a⟩⟩).flatMap Am:=by subst hn;exact Cx (o:=7) BQ (by omega) h rfl
@[simp high] theorem AFg {xs:List Event} {j:Nat} (h:j<xs.length) (a:Int):(xs.flatMap CX).set (j*6) (.sc (.int .i64 a))=(xs.set j ⟨a,xs[j].n,⟨xs[j].box.limit,xs[j].box.drops,xs[j].box.strips,xs[j].box.lists⟩⟩).flatMap CX:=Cx (o:=0) DU (by omega) h rfl
@[simp high] theorem AFl {xs:List Event} {j:Nat} (h:j<xs.length) (a:Int):(xs.flatMap CX).set (j*6+1) (.sc (.int .i64 a))=(xs.set j ⟨xs[j].kind,a,⟨xs[j].box.limit,xs[j].box.drops,xs[j].box.strips,xs[j].box.lists⟩⟩).flatMap CX:=Cx (o:=1) DU (by omega) h rfl
@[simp high] theorem AFp {xs:List Event} {j:Nat} (h:j<xs.length) (a:Int):(xs.flatMap CX).set (j*6+2) (.sc (.int .i64 a))=(xs.set j ⟨xs[j].kind,xs[j].n,⟨a,xs[j].box.drops,xs[j].box.strips,xs[j].box.lists⟩⟩).flatMap CX:=Cx (o:=2) DU (by omega) h rfl
@[simp high] theorem AE7 {xs:List Event} {j:Nat} (h:j<xs.length) {n:Nat} (a:List Int) (hn:n=a.length):(xs.flatMap CX).set (j*6+3) (.sl 0 1 n (ints a))=(xs.set j ⟨xs[j].kind,xs[j].n,⟨xs[j].box.limit,a,xs[j].box.strips,xs[j].box.lists⟩⟩).flatMap CX:=by subst hn;exact Cx (o:=3) DU (by omega) h rfl
@[simp high] theorem AFt {xs:List Event} {j:Nat} (h:j<xs.length) {n:Nat} (a:List Int) (hn:n=a.length):(xs.flatMap CX).set (j*6+4) (.sl 0 1 n (ints a))=(xs.set j ⟨xs[j].kind,xs[j].n,⟨xs[j].box.limit,xs[j].box.drops,a,xs[j].box.lists⟩⟩).flatMap CX:=by subst hn;exact Cx (o:=4) DU (by omega) h rfl
@[simp high] theorem AE3 {xs:List Event} {j:Nat} (h:j<xs.length) (a:Bool):(xs.flatMap CX).set (j*6+5) (.sc (.bool a))=(xs.set j ⟨xs[j].kind,xs[j].n,⟨xs[j].box.limit,xs[j].box.drops,xs[j].box.strips,a⟩⟩).flatMap CX:=Cx (o:=5) DU (by omega) h rfl
def JN (x:ZK):Nat:=x.tags.length
def Aad (x:ZK) (k:Int):ZK:=⟨x.ok,x.version,nums x.tags.length (k)⟩
def EF (x:FI):Nat:=1+x.drops.length+x.strips.length+1
def WB (x:FI) (k:Int):FI:=⟨k,nums x.drops.length (k+1),nums x.strips.length (k+1+((x.drops.length:Nat):Int)),((k+1+((x.drops.length:Nat):Int)+((x.strips.length:Nat):Int)).tmod 3==0)⟩
def BL (x:BO):Nat:=1+1+x.deal.tags.length+1+x.up.length
def Ja (x:BO) (k:Int):BO:=⟨⟨((k).tmod 3==0),k+1,nums x.deal.tags.length (k+1+1)⟩,k+1+1+((x.deal.tags.length:Nat):Int),nums x.up.length (k+1+1+((x.deal.tags.length:Nat):Int)+1)⟩
def AJ (x:AQ):Nat:=x.versions.length+x.tags.length+Gm EF x.path+1
def FB (x:AQ) (k:Int):AQ:=⟨nums x.versions.length (k),nums x.tags.length (k+((x.versions.length:Nat):Int)),YJ EF WB x.path (k+((x.versions.length:Nat):Int)+((x.tags.length:Nat):Int)),k+((x.versions.length:Nat):Int)+((x.tags.length:Nat):Int)+((Gm EF x.path:Nat):Int)⟩
def BS (x:Cm):Nat:=1+1+1+1+1+x.dialed.deal.tags.length+1+x.dialed.up.length
def I9 (x:Cm) (k:Int):Cm:=⟨k,k+1,((k+1+1).tmod 3==0),⟨⟨((k+1+1+1).tmod 3==0),k+1+1+1+1,nums x.dialed.deal.tags.length (k+1+1+1+1+1)⟩,k+1+1+1+1+1+((x.dialed.deal.tags.length:Nat):Int),nums x.dialed.up.length (k+1+1+1+1+1+((x.dialed.deal.tags.length:Nat):Int)+1)⟩⟩
def BU (x:Ej):Nat:=x.stages.length
def CG (x:Ej) (k:Int):Ej:=⟨x.version,nums x.stages.length (k),x.pos,x.off⟩
def JE (x:World):Nat:=x.server.length+x.tags.length+Gm AJ x.ends+x.rollout.stages.length+Gm BL x.stage+Gm BS x.log
def Ep (x:World) (k:Int):World:=⟨nums x.server.length (k),nums x.tags.length (k+((x.server.length:Nat):Int)),x.key,YJ AJ FB x.ends (k+((x.server.length:Nat):Int)+((x.tags.length:Nat):Int)),⟨x.rollout.version,nums x.rollout.stages.length (k+((x.server.length:Nat):Int)+((x.tags.length:Nat):Int)+((Gm AJ x.ends:Nat):Int)),x.rollout.pos,x.rollout.off⟩,x.least,x.percent,YJ BL Ja x.stage (k+((x.server.length:Nat):Int)+((x.tags.length:Nat):Int)+((Gm AJ x.ends:Nat):Int)+((x.rollout.stages.length:Nat):Int)),YJ BS I9 x.log (k+((x.server.length:Nat):Int)+((x.tags.length:Nat):Int)+((Gm AJ x.ends:Nat):Int)+((x.rollout.stages.length:Nat):Int)+((Gm BL x.stage:Nat):Int)),x.now,x.hurt,x.reached⟩
end Go.Eng.T
namespace Go.Eng.T
theorem Anl:∀(n:Nat) (k:Int),nums n k++ [k+n]=nums (n+1) k
 | 0,k=>by simp[nums]
 | n+1,k=>by
  have:=Anl n (k+1)
  simp only[nums,List.cons_append]
  rw[show k+((n+1:Nat):Int)=k+1+(n:Int)by omega,this]
  rfl
theorem Av2 {xs:List Int} {k:Int} {j:Nat} (h:j<xs.length):(nums j k++xs.drop j).set j (k+j)=nums (j+1) k++xs.drop (j+1):=by
 rw[List.set_append_right _ _ (by simp),Arl,Nat.sub_self,List.drop_eq_getElem_cons h,List.set_cons_zero,←Anl,List.append_assoc]
 rfl
abbrev Js (R:Rel):Prop:=∀(xs:List Int) (k:Int),0≤k→k+xs.length≤4611686018427387904→R [.arr 0,I k] [.arr 1 0 xs.length (ints xs)] (I (k+xs.length)) [.arr 1 0 xs.length (ints (nums xs.length k))]
theorem AsI (D:Dn):Js (Body D QZ):=by
 intro xs k hk hl
 simp -implicitDefEqProofs
 refine Af (fun n s=>∃j,j+n=xs.length∧s=⟨[.arr 0,.sc (.int .i64 (k+j)),.undef,.sc (.int .i64 j),.undef],[.arr 1 0 xs.length (ints (nums j k++xs.drop j))]⟩) ?_ xs.length _ ⟨0,by simp,by simp[nums]⟩
 intro n s ⟨j,hj,hs⟩
 subst hs
 by_cases hjn:j<xs.length
 ·have hw:IntKind.i64.wrap ((j:Int)+1)=(j+1:Nat):=by rw[Ab (by omega) (by omega)];simp
  have hw2:IntKind.i64.wrap (k+j+1)=k+(j+1:Nat):=by rw[Ab (by omega) (by omega)];omega
  have hlen:j+(xs.length-j)=xs.length:=by omega
  simp -implicitDefEqProofs [hjn,hlen, -List.append_assoc,Av2 hjn]
  exact⟨n-1,by omega,j+1,by omega,⟨by simpa using hw2,by simp[hw]⟩,rfl⟩
 ·have hje:j=xs.length:=by omega
  subst hje
  simp -implicitDefEqProofs [Ali]
abbrev JA (R:Rel):Prop:=∀(n:Nat) (k:Int),0≤k→k+n≤4611686018427387904→R [.sl 1 1 n (ints (nums n k)),I k] [] (I (k+n)) []
theorem AtC (D:Dn):JA (Body D Rh):=by
 intro m k hk hl
 simp -implicitDefEqProofs
 refine Af (fun n s=>∃j,j+n=m∧s=⟨[.sl 1 1 m (ints (nums m k)),.sc (.int .i64 (k+j)),.undef,.sc (.int .i64 j),.undef,.undef],[]⟩) ?_ m _ ⟨0,by simp,by simp⟩
 intro n s ⟨j,hj,hs⟩
 subst hs
 by_cases hjn:j<m
 ·have hw:IntKind.i64.wrap ((j:Int)+1)=(j+1:Nat):=by rw[Ab (by omega) (by omega)];simp
  have hw2:IntKind.i64.wrap (k+j+1)=k+(j+1:Nat):=by rw[Ab (by omega) (by omega)];omega
  simp -implicitDefEqProofs [hjn,AqA]
  exact⟨n-1,by omega,j+1,by omega,by simpa using hw2,by simp[hw]⟩
 ·have hje:j=m:=by omega
  subst hje
  simp -implicitDefEqProofs
end Go.Eng.T
namespace Go.Eng.T
set_option maxRecDepth 20000
abbrev Qb (R:Rel):Prop:=∀(xs:List BO) (k:Int),0≤k→k+Gm BL xs≤4611686018427387904→R [.arr 0,I k] [.arr 5 0 xs.length (xs.flatMap Ao)] (I (k+Gm BL xs)) [.arr 5 0 xs.length ((YJ BL Ja xs k).flatMap Ao)]
theorem Alm (D:Dn) (hmarkIntS:Js (D GX)):Qb (Body D Lv):=by
 intro xs k hk hl
 have hlen:xs.length≤Gm BL xs:=Xd (fun x=>by unfold BL;omega) xs
 simp -implicitDefEqProofs
 refine Af (fun n s=>∃j o,fd o∧j+n=xs.length∧s=⟨[.arr 0,.sc (.int .i64 (k+Gm BL (xs.take j))),.undef,.sc (.int .i64 j),.undef],[.arr 5 0 xs.length ((mkJ BL Ja xs k j).flatMap Ao),o,o]⟩) ?_ xs.length _ ⟨0,.free,Ahc,by simp,by simp[AaK,Gm]⟩
 intro n s ⟨j,o,ho,hj,hs⟩
 subst hs
 by_cases hjn:j<xs.length
 ·have hw:IntKind.i64.wrap ((j:Int)+1)=(j+1:Nat):=by rw[Ab (by omega) (by omega)];simp
  have hjl:j≤xs.length:=by omega
  have hst:=Oc (mc:=BL) hjn
  have hle:=Wi (mc:=BL) (xs:=xs) (j:=j+1)
  have hmc:BL xs[j]=1+1+xs[j].deal.tags.length+1+xs[j].up.length:=rfl
  have hset:=Ahl (mc:=BL) (mk:=Ja) (k:=k) hjn
  generalize hK:k+(Gm BL (xs.take j):Int)=K at hset⊢
  have hw0:IntKind.i64.wrap (K+1)=K+1:=Ab (by omega) (by omega)
  have hw1:IntKind.i64.wrap (K+1+1)=K+1+1:=Ab (by omega) (by omega)
  have hw3:IntKind.i64.wrap (K+1+1+((xs[j].deal.tags.length:Nat):Int)+1)=K+1+1+((xs[j].deal.tags.length:Nat):Int)+1:=Ab (by omega) (by omega)
  have hf1:j*5+1<xs.length*5:=by omega
  have hf2:j*5+2<xs.length*5:=by omega
  have hf3:j*5+3<xs.length*5:=by omega
  have hf4:j*5+4<xs.length*5:=by omega
  rcases ho with rfl | rfl
  all_goals simp -implicitDefEqProofs [hjn,hjl,JF hjn,hw0,hw1,hw3,hf1,hf2,hf3,hf4]
  all_goals refine Aa (hmarkIntS xs[j].deal.tags _ (by omega) (by omega)) ?_
  all_goals simp -implicitDefEqProofs [hjn,hjl,JF hjn,hw0,hw1,hw3,hf1,hf2,hf3,hf4]
  all_goals refine Aa (hmarkIntS xs[j].up _ (by omega) (by omega)) ?_
  all_goals simp -implicitDefEqProofs [hjn,hjl,JF hjn,hw0,hw1,hw3,hf1,hf2,hf3,hf4]
  all_goals exact⟨n-1,by omega,j+1,.dead,Ahf,by omega,⟨by first | omega | (rw[Ab (by omega) (by omega)];omega),by simp[hw]⟩,by rw[←hset];rfl,rfl⟩
 ·have hje:=Ahq (mc:=BL) (mk:=Ja) (xs:=xs) (k:=k) (j:=j) (by omega)
  have hma:=RB (mc:=BL) (xs:=xs) (j:=j) (by omega)
  simp -implicitDefEqProofs [hjn,hje,hma,Ali]
abbrev PS (R:Rel):Prop:=∀(xs:List BO) (k:Int),0≤k→k+Gm BL xs≤4611686018427387904→R [.sl 1 5 xs.length ((YJ BL Ja xs k).flatMap Ao),I k] [] (I (k+Gm BL xs)) []
theorem Alz (D:Dn) (hheldIntS:JA (D GU)):PS (Body D Md):=by
 intro xs k hk hl
 have hlen:xs.length≤Gm BL xs:=Xd (fun x=>by unfold BL;omega) xs
 simp -implicitDefEqProofs
 refine Af (fun n s=>∃j,j+n=xs.length∧s=⟨[.sl 1 5 xs.length ((YJ BL Ja xs k).flatMap Ao),.sc (.int .i64 (k+Gm BL (xs.take j))),.undef,.sc (.int .i64 j),.undef,.undef,.undef,.undef,.undef,.undef],[]⟩) ?_ xs.length _ ⟨0,by simp,by simp[Gm]⟩
 intro n s ⟨j,hj,hs⟩
 subst hs
 by_cases hjn:j<xs.length
 ·have hw:IntKind.i64.wrap ((j:Int)+1)=(j+1:Nat):=by rw[Ab (by omega) (by omega)];simp
  have hst:=Oc (mc:=BL) hjn
  have hle:=Wi (mc:=BL) (xs:=xs) (j:=j+1)
  have hmc:BL xs[j]=1+1+xs[j].deal.tags.length+1+xs[j].up.length:=rfl
  have hY:=Acv (mc:=BL) (mk:=Ja) xs k j hjn
  generalize hK:k+(Gm BL (xs.take j):Int)=K at hY⊢
  have hw0:IntKind.i64.wrap (K+1)=K+1:=Ab (by omega) (by omega)
  have hw1:IntKind.i64.wrap (K+1+1)=K+1+1:=Ab (by omega) (by omega)
  have hn2:¬K+1+1+((xs[j].deal.tags.length:Nat):Int)<0:=by omega
  have hw3:IntKind.i64.wrap (K+1+1+((xs[j].deal.tags.length:Nat):Int)+1)=K+1+1+((xs[j].deal.tags.length:Nat):Int)+1:=Ab (by omega) (by omega)
  have hn4:¬K+1+1+((xs[j].deal.tags.length:Nat):Int)+1+((xs[j].up.length:Nat):Int)<0:=by omega
  simp -implicitDefEqProofs [hjn,hY,Ja,hw0,hw1,hn2,hw3,hn4]
  refine Aa (hheldIntS xs[j].deal.tags.length _ (by omega) (by omega)) ?_
  simp -implicitDefEqProofs [hjn,hY,Ja,hw0,hw1,hn2,hw3,hn4]
  refine Aa (hheldIntS xs[j].up.length _ (by omega) (by omega)) ?_
  simp -implicitDefEqProofs [hjn,hY,Ja,hw0,hw1,hn2,hw3,hn4]
  exact⟨n-1,by omega,j+1,by omega,by first | omega | (rw[Ab (by omega) (by omega)];omega),by simp[hw]⟩
 ·have hma:=RB (mc:=BL) (xs:=xs) (j:=j) (by omega)
  simp -implicitDefEqProofs [hjn,hma]
abbrev PI (R:Rel):Prop:=∀(xs:List Cm) (k:Int),0≤k→k+Gm BS xs≤4611686018427387904→R [.arr 0,I k] [.arr 8 0 xs.length (xs.flatMap Am)] (I (k+Gm BS xs)) [.arr 8 0 xs.length ((YJ BS I9 xs k).flatMap Am)]
theorem Alq (D:Dn) (hmarkIntS:Js (D GX)):PI (Body D LK):=by
 intro xs k hk hl
 have hlen:xs.length≤Gm BS xs:=Xd (fun x=>by unfold BS;omega) xs
 simp -implicitDefEqProofs
 refine Af (fun n s=>∃j o,fd o∧j+n=xs.length∧s=⟨[.arr 0,.sc (.int .i64 (k+Gm BS (xs.take j))),.undef,.sc (.int .i64 j),.undef],[.arr 8 0 xs.length ((mkJ BS I9 xs k j).flatMap Am),o,o]⟩) ?_ xs.length _ ⟨0,.free,Ahc,by simp,by simp[AaK,Gm]⟩
 intro n s ⟨j,o,ho,hj,hs⟩
 subst hs
 by_cases hjn:j<xs.length
 ·have hw:IntKind.i64.wrap ((j:Int)+1)=(j+1:Nat):=by rw[Ab (by omega) (by omega)];simp
  have hjl:j≤xs.length:=by omega
  have hst:=Oc (mc:=BS) hjn
  have hle:=Wi (mc:=BS) (xs:=xs) (j:=j+1)
  have hmc:BS xs[j]=1+1+1+1+1+xs[j].dialed.deal.tags.length+1+xs[j].dialed.up.length:=rfl
  have hset:=Ahl (mc:=BS) (mk:=I9) (k:=k) hjn
  generalize hK:k+(Gm BS (xs.take j):Int)=K at hset⊢
  have hw0:IntKind.i64.wrap (K+1)=K+1:=Ab (by omega) (by omega)
  have hw1:IntKind.i64.wrap (K+1+1)=K+1+1:=Ab (by omega) (by omega)
  have hw2:IntKind.i64.wrap (K+1+1+1)=K+1+1+1:=Ab (by omega) (by omega)
  have hw3:IntKind.i64.wrap (K+1+1+1+1)=K+1+1+1+1:=Ab (by omega) (by omega)
  have hw4:IntKind.i64.wrap (K+1+1+1+1+1)=K+1+1+1+1+1:=Ab (by omega) (by omega)
  have hw6:IntKind.i64.wrap (K+1+1+1+1+1+((xs[j].dialed.deal.tags.length:Nat):Int)+1)=K+1+1+1+1+1+((xs[j].dialed.deal.tags.length:Nat):Int)+1:=Ab (by omega) (by omega)
  have hf1:j*8+1<xs.length*8:=by omega
  have hf2:j*8+2<xs.length*8:=by omega
  have hf3:j*8+3<xs.length*8:=by omega
  have hf4:j*8+4<xs.length*8:=by omega
  have hf5:j*8+5<xs.length*8:=by omega
  have hf6:j*8+6<xs.length*8:=by omega
  have hf7:j*8+7<xs.length*8:=by omega
  rcases ho with rfl | rfl
  all_goals simp -implicitDefEqProofs [hjn,hjl,JF hjn,hw0,hw1,hw2,hw3,hw4,hw6,hf1,hf2,hf3,hf4,hf5,hf6,hf7]
  all_goals refine Aa (hmarkIntS xs[j].dialed.deal.tags _ (by omega) (by omega)) ?_
  all_goals simp -implicitDefEqProofs [hjn,hjl,JF hjn,hw0,hw1,hw2,hw3,hw4,hw6,hf1,hf2,hf3,hf4,hf5,hf6,hf7]
  all_goals refine Aa (hmarkIntS xs[j].dialed.up _ (by omega) (by omega)) ?_
  all_goals simp -implicitDefEqProofs [hjn,hjl,JF hjn,hw0,hw1,hw2,hw3,hw4,hw6,hf1,hf2,hf3,hf4,hf5,hf6,hf7]
  all_goals exact⟨n-1,by omega,j+1,.dead,Ahf,by omega,⟨by first | omega | (rw[Ab (by omega) (by omega)];omega),by simp[hw]⟩,by rw[←hset];rfl,rfl⟩
 ·have hje:=Ahq (mc:=BS) (mk:=I9) (xs:=xs) (k:=k) (j:=j) (by omega)
  have hma:=RB (mc:=BS) (xs:=xs) (j:=j) (by omega)
  simp -implicitDefEqProofs [hjn,hje,hma,Ali]
abbrev PW (R:Rel):Prop:=∀(xs:List Cm) (k:Int),0≤k→k+Gm BS xs≤4611686018427387904→R [.sl 1 8 xs.length ((YJ BS I9 xs k).flatMap Am),I k] [] (I (k+Gm BS xs)) []
theorem AkE (D:Dn) (hheldIntS:JA (D GU)):PW (Body D Lp):=by
 intro xs k hk hl
 have hlen:xs.length≤Gm BS xs:=Xd (fun x=>by unfold BS;omega) xs
 simp -implicitDefEqProofs
 refine Af (fun n s=>∃j,j+n=xs.length∧s=⟨[.sl 1 8 xs.length ((YJ BS I9 xs k).flatMap Am),.sc (.int .i64 (k+Gm BS (xs.take j))),.undef,.sc (.int .i64 j),.undef,.undef,.undef,.undef,.undef,.undef,.undef,.undef,.undef],[]⟩) ?_ xs.length _ ⟨0,by simp,by simp[Gm]⟩
 intro n s ⟨j,hj,hs⟩
 subst hs
 by_cases hjn:j<xs.length
 ·have hw:IntKind.i64.wrap ((j:Int)+1)=(j+1:Nat):=by rw[Ab (by omega) (by omega)];simp
  have hst:=Oc (mc:=BS) hjn
  have hle:=Wi (mc:=BS) (xs:=xs) (j:=j+1)
  have hmc:BS xs[j]=1+1+1+1+1+xs[j].dialed.deal.tags.length+1+xs[j].dialed.up.length:=rfl
  have hY:=Acv (mc:=BS) (mk:=I9) xs k j hjn
  generalize hK:k+(Gm BS (xs.take j):Int)=K at hY⊢
  have hw0:IntKind.i64.wrap (K+1)=K+1:=Ab (by omega) (by omega)
  have hw1:IntKind.i64.wrap (K+1+1)=K+1+1:=Ab (by omega) (by omega)
  have hw2:IntKind.i64.wrap (K+1+1+1)=K+1+1+1:=Ab (by omega) (by omega)
  have hw3:IntKind.i64.wrap (K+1+1+1+1)=K+1+1+1+1:=Ab (by omega) (by omega)
  have hw4:IntKind.i64.wrap (K+1+1+1+1+1)=K+1+1+1+1+1:=Ab (by omega) (by omega)
  have hn5:¬K+1+1+1+1+1+((xs[j].dialed.deal.tags.length:Nat):Int)<0:=by omega
  have hw6:IntKind.i64.wrap (K+1+1+1+1+1+((xs[j].dialed.deal.tags.length:Nat):Int)+1)=K+1+1+1+1+1+((xs[j].dialed.deal.tags.length:Nat):Int)+1:=Ab (by omega) (by omega)
  have hn7:¬K+1+1+1+1+1+((xs[j].dialed.deal.tags.length:Nat):Int)+1+((xs[j].dialed.up.length:Nat):Int)<0:=by omega
  simp -implicitDefEqProofs [hjn,hY,I9,hw0,hw1,hw2,hw3,hw4,hn5,hw6,hn7]
  refine Aa (hheldIntS xs[j].dialed.deal.tags.length _ (by omega) (by omega)) ?_
  simp -implicitDefEqProofs [hjn,hY,I9,hw0,hw1,hw2,hw3,hw4,hn5,hw6,hn7]
  refine Aa (hheldIntS xs[j].dialed.up.length _ (by omega) (by omega)) ?_
  simp -implicitDefEqProofs [hjn,hY,I9,hw0,hw1,hw2,hw3,hw4,hn5,hw6,hn7]
  exact⟨n-1,by omega,j+1,by omega,by first | omega | (rw[Ab (by omega) (by omega)];omega),by simp[hw]⟩
 ·have hma:=RB (mc:=BS) (xs:=xs) (j:=j) (by omega)
  simp -implicitDefEqProofs [hjn,hma]
end Go.Eng.T
namespace Go.Eng.T
set_option maxRecDepth 20000
abbrev AbJ (R:Rel):Prop:=∀(x:World) (l:Int),0≤l→l≤4194304→Acs x→R [arg (Gd x),I l] [] (I (szl (AY x) l)) []
theorem AwQ (D:Dn) (hszIntS:P9 (D 16)) (hszEndpointS:PY (D 17)) (hszRollout:U1 (D 18)) (hszDialedS:Vu (D 19)) (hszLoggedS:Ux (D 20)):AbJ (Body D Sr):=by
 intro x l hl1 hl2 hln
 simp only[Acs]at hln
 simp -implicitDefEqProofs
 refine Aa (hszIntS x.server (l) (by omega) (by omega) hln.1) ?_
 by_cases g0:l<((x.server.length:Nat):Int)
 ·have gg:l<((AY x:Nat):Int):=by simp only[AY];omega
  have e1:szl (x.server.length) (l)= -1:=by unfold szl;rw[if_pos g0]
  have e2:szl (AY x) l= -1:=by unfold szl;rw[if_pos gg]
  simp -implicitDefEqProofs [e1,e2]
 have e3:szl (x.server.length) (l)=l-((x.server.length:Nat):Int):=by unfold szl;rw[if_neg g0]
 have p0:¬l-((x.server.length:Nat):Int)<0:=by omega
 simp -implicitDefEqProofs [e3,p0]
 refine Aa (hszIntS x.tags (l-((x.server.length:Nat):Int)) (by omega) (by omega) hln.2.1) ?_
 by_cases g1:l-((x.server.length:Nat):Int)<((x.tags.length:Nat):Int)
 ·have gg:l<((AY x:Nat):Int):=by simp only[AY];omega
  have e1:szl (x.tags.length) (l-((x.server.length:Nat):Int))= -1:=by unfold szl;rw[if_pos g1]
  have e2:szl (AY x) l= -1:=by unfold szl;rw[if_pos gg]
  simp -implicitDefEqProofs [e1,e2]
 have e4:szl (x.tags.length) (l-((x.server.length:Nat):Int))=l-((x.server.length:Nat):Int)-((x.tags.length:Nat):Int):=by unfold szl;rw[if_neg g1]
 have p1:¬l-((x.server.length:Nat):Int)-((x.tags.length:Nat):Int)<0:=by omega
 simp -implicitDefEqProofs [e4,p1]
 refine Aa (hszEndpointS x.ends (l-((x.server.length:Nat):Int)-((x.tags.length:Nat):Int)) (by omega) (by omega) hln.2.2.1) ?_
 by_cases g2:l-((x.server.length:Nat):Int)-((x.tags.length:Nat):Int)<((BB Ae x.ends:Nat):Int)
 ·have gg:l<((AY x:Nat):Int):=by simp only[AY];omega
  have e1:szl (BB Ae x.ends) (l-((x.server.length:Nat):Int)-((x.tags.length:Nat):Int))= -1:=by unfold szl;rw[if_pos g2]
  have e2:szl (AY x) l= -1:=by unfold szl;rw[if_pos gg]
  simp -implicitDefEqProofs [e1,e2]
 have e5:szl (BB Ae x.ends) (l-((x.server.length:Nat):Int)-((x.tags.length:Nat):Int))=l-((x.server.length:Nat):Int)-((x.tags.length:Nat):Int)-((BB Ae x.ends:Nat):Int):=by unfold szl;rw[if_neg g2]
 have p2:¬l-((x.server.length:Nat):Int)-((x.tags.length:Nat):Int)-((BB Ae x.ends:Nat):Int)<0:=by omega
 simp -implicitDefEqProofs [e5,p2]
 refine Aa (hszRollout x.rollout (l-((x.server.length:Nat):Int)-((x.tags.length:Nat):Int)-((BB Ae x.ends:Nat):Int)) (by omega) (by omega) hln.2.2.2.1) ?_
 by_cases g3:l-((x.server.length:Nat):Int)-((x.tags.length:Nat):Int)-((BB Ae x.ends:Nat):Int)<((Bd x.rollout:Nat):Int)
 ·have gg:l<((AY x:Nat):Int):=by simp only[AY];omega
  have e1:szl (Bd x.rollout) (l-((x.server.length:Nat):Int)-((x.tags.length:Nat):Int)-((BB Ae x.ends:Nat):Int))= -1:=by unfold szl;rw[if_pos g3]
  have e2:szl (AY x) l= -1:=by unfold szl;rw[if_pos gg]
  simp -implicitDefEqProofs [e1,e2]
 have e6:szl (Bd x.rollout) (l-((x.server.length:Nat):Int)-((x.tags.length:Nat):Int)-((BB Ae x.ends:Nat):Int))=l-((x.server.length:Nat):Int)-((x.tags.length:Nat):Int)-((BB Ae x.ends:Nat):Int)-((Bd x.rollout:Nat):Int):=by unfold szl;rw[if_neg g3]
 have p3:¬l-((x.server.length:Nat):Int)-((x.tags.length:Nat):Int)-((BB Ae x.ends:Nat):Int)-((Bd x.rollout:Nat):Int)<0:=by omega
 simp -implicitDefEqProofs [e6,p3]
 refine Aa (hszDialedS x.stage (l-((x.server.length:Nat):Int)-((x.tags.length:Nat):Int)-((BB Ae x.ends:Nat):Int)-((Bd x.rollout:Nat):Int)) (by omega) (by omega) hln.2.2.2.2.1) ?_
 by_cases g4:l-((x.server.length:Nat):Int)-((x.tags.length:Nat):Int)-((BB Ae x.ends:Nat):Int)-((Bd x.rollout:Nat):Int)<((BB Aj x.stage:Nat):Int)
 ·have gg:l<((AY x:Nat):Int):=by simp only[AY];omega
  have e1:szl (BB Aj x.stage) (l-((x.server.length:Nat):Int)-((x.tags.length:Nat):Int)-((BB Ae x.ends:Nat):Int)-((Bd x.rollout:Nat):Int))= -1:=by unfold szl;rw[if_pos g4]
  have e2:szl (AY x) l= -1:=by unfold szl;rw[if_pos gg]
  simp -implicitDefEqProofs [e1,e2]
 have e7:szl (BB Aj x.stage) (l-((x.server.length:Nat):Int)-((x.tags.length:Nat):Int)-((BB Ae x.ends:Nat):Int)-((Bd x.rollout:Nat):Int))=l-((x.server.length:Nat):Int)-((x.tags.length:Nat):Int)-((BB Ae x.ends:Nat):Int)-((Bd x.rollout:Nat):Int)-((BB Aj x.stage:Nat):Int):=by unfold szl;rw[if_neg g4]
 have p4:¬l-((x.server.length:Nat):Int)-((x.tags.length:Nat):Int)-((BB Ae x.ends:Nat):Int)-((Bd x.rollout:Nat):Int)-((BB Aj x.stage:Nat):Int)<0:=by omega
 simp -implicitDefEqProofs [e7,p4]
 refine Aa (hszLoggedS x.log (l-((x.server.length:Nat):Int)-((x.tags.length:Nat):Int)-((BB Ae x.ends:Nat):Int)-((Bd x.rollout:Nat):Int)-((BB Aj x.stage:Nat):Int)) (by omega) (by omega) hln.2.2.2.2.2) ?_
 by_cases g5:l-((x.server.length:Nat):Int)-((x.tags.length:Nat):Int)-((BB Ae x.ends:Nat):Int)-((Bd x.rollout:Nat):Int)-((BB Aj x.stage:Nat):Int)<((BB Ay x.log:Nat):Int)
 ·have gg:l<((AY x:Nat):Int):=by simp only[AY];omega
  have e1:szl (BB Ay x.log) (l-((x.server.length:Nat):Int)-((x.tags.length:Nat):Int)-((BB Ae x.ends:Nat):Int)-((Bd x.rollout:Nat):Int)-((BB Aj x.stage:Nat):Int))= -1:=by unfold szl;rw[if_pos g5]
  have e2:szl (AY x) l= -1:=by unfold szl;rw[if_pos gg]
  simp -implicitDefEqProofs [e1,e2]
 have e8:szl (BB Ay x.log) (l-((x.server.length:Nat):Int)-((x.tags.length:Nat):Int)-((BB Ae x.ends:Nat):Int)-((Bd x.rollout:Nat):Int)-((BB Aj x.stage:Nat):Int))=l-((x.server.length:Nat):Int)-((x.tags.length:Nat):Int)-((BB Ae x.ends:Nat):Int)-((Bd x.rollout:Nat):Int)-((BB Aj x.stage:Nat):Int)-((BB Ay x.log:Nat):Int):=by unfold szl;rw[if_neg g5]
 have p5:¬l-((x.server.length:Nat):Int)-((x.tags.length:Nat):Int)-((BB Ae x.ends:Nat):Int)-((Bd x.rollout:Nat):Int)-((BB Aj x.stage:Nat):Int)-((BB Ay x.log:Nat):Int)<0:=by omega
 simp -implicitDefEqProofs [e8,p5]
 have gg:¬l<((AY x:Nat):Int):=by simp only[AY];omega
 unfold szl;rw[if_neg gg];simp only[AY]<;>omega
abbrev Ace (R:Rel):Prop:=∀x:World,AY x≤4194304→R [arg (Gd x)] [] (.agg (Gd x)) []
theorem AvE (D:Dn) (htoIntS:Qa (D 31)) (htoEndpointS:PL (D 32)) (htoRollout:Uy (D 33)) (htoDialedS:UY (D 34)) (htoLoggedS:UG (D 35)):Ace (Body D Sm):=by
 intro x h
 simp only[AY]at h
 simp -implicitDefEqProofs
 refine Aa (htoIntS x.server (by omega)) ?_
 simp -implicitDefEqProofs
 refine Aa (htoIntS x.tags (by omega)) ?_
 simp -implicitDefEqProofs
 refine Aa (htoEndpointS x.ends (by omega)) ?_
 simp -implicitDefEqProofs
 refine Aa (htoRollout x.rollout (by omega)) ?_
 simp -implicitDefEqProofs
 refine Aa (htoDialedS x.stage (by omega)) ?_
 simp -implicitDefEqProofs
 refine Aa (htoLoggedS x.log (by omega)) ?_
 simp -implicitDefEqProofs
abbrev AaY (R:Rel):Prop:=∀x y:World,AY x≤2 ^ 40→AY y≤2 ^ 40→R [arg (Gd x),arg (Gd y)] [] (B (decide (x=y))) []
theorem Aw7 (D:Dn) (heqIntS:FK (D 47)) (heqEndpointS:PX (D 48)) (heqRollout:Vr (D 49)) (heqDialedS:UW (D 50)) (heqLoggedS:Vn (D 51)):AaY (Body D R5):=by
 intro x y h1 h2
 simp only[AY]at h1 h2
 simp -implicitDefEqProofs
 refine Aa (heqIntS x.server y.server (by unfold maxLen;omega) (by unfold maxLen;omega)) ?_
 by_cases g_server:x.server=y.server
 rotate_left
 ·have hne:x≠y:=fun h=>g_server (by rw[h])
  simp -implicitDefEqProofs [g_server,hne]
 simp -implicitDefEqProofs [g_server]
 refine Aa (heqIntS x.tags y.tags (by unfold maxLen;omega) (by unfold maxLen;omega)) ?_
 by_cases g_tags:x.tags=y.tags
 rotate_left
 ·have hne:x≠y:=fun h=>g_tags (by rw[h])
  simp -implicitDefEqProofs [g_tags,hne]
 simp -implicitDefEqProofs [g_tags]
 by_cases g_key:x.key=y.key
 rotate_left
 ·have hne:x≠y:=fun h=>g_key (by rw[h])
  simp -implicitDefEqProofs [g_key,hne]
 simp -implicitDefEqProofs [g_key]
 refine Aa (heqEndpointS x.ends y.ends (by omega) (by omega)) ?_
 by_cases g_ends:x.ends=y.ends
 rotate_left
 ·have hne:x≠y:=fun h=>g_ends (by rw[h])
  simp -implicitDefEqProofs [g_ends,hne]
 simp -implicitDefEqProofs [g_ends]
 refine Aa (heqRollout x.rollout y.rollout (by omega) (by omega)) ?_
 by_cases g_rollout:x.rollout=y.rollout
 rotate_left
 ·have hne:x≠y:=fun h=>g_rollout (by rw[h])
  simp -implicitDefEqProofs [g_rollout,hne]
 simp -implicitDefEqProofs [g_rollout]
 by_cases g_least:x.least=y.least
 rotate_left
 ·have hne:x≠y:=fun h=>g_least (by rw[h])
  simp -implicitDefEqProofs [g_least,hne]
 simp -implicitDefEqProofs [g_least]
 by_cases g_percent:x.percent=y.percent
 rotate_left
 ·have hne:x≠y:=fun h=>g_percent (by rw[h])
  simp -implicitDefEqProofs [g_percent,hne]
 simp -implicitDefEqProofs [g_percent]
 refine Aa (heqDialedS x.stage y.stage (by omega) (by omega)) ?_
 by_cases g_stage:x.stage=y.stage
 rotate_left
 ·have hne:x≠y:=fun h=>g_stage (by rw[h])
  simp -implicitDefEqProofs [g_stage,hne]
 simp -implicitDefEqProofs [g_stage]
 refine Aa (heqLoggedS x.log y.log (by omega) (by omega)) ?_
 by_cases g_log:x.log=y.log
 rotate_left
 ·have hne:x≠y:=fun h=>g_log (by rw[h])
  simp -implicitDefEqProofs [g_log,hne]
 simp -implicitDefEqProofs [g_log]
 by_cases g_now:x.now=y.now
 rotate_left
 ·have hne:x≠y:=fun h=>g_now (by rw[h])
  simp -implicitDefEqProofs [g_now,hne]
 simp -implicitDefEqProofs [g_now]
 by_cases g_hurt:x.hurt=y.hurt
 rotate_left
 ·have hne:x≠y:=fun h=>g_hurt (by rw[h])
  simp -implicitDefEqProofs [g_hurt,hne]
 simp -implicitDefEqProofs [g_hurt]
 by_cases g_reached:x.reached=y.reached
 rotate_left
 ·have hne:x≠y:=fun h=>g_reached (by rw[h])
  simp -implicitDefEqProofs [g_reached,hne]
 simp -implicitDefEqProofs [g_reached]
 have hxy:x=y:=by cases x;cases y;simp_all
 simp -implicitDefEqProofs [hxy]
end Go.Eng.T
namespace Go.Eng.T
abbrev Xu (R:Rel):Prop:=∀(xs:List FI) (k:Int),0≤k→k+Gm EF xs≤4611686018427387904→R [.arr 0,I k] [.arr 4 0 xs.length (xs.flatMap Cn)] (I (k+Gm EF xs)) [.arr 4 0 xs.length ((YJ EF WB xs k).flatMap Cn)]
theorem Aty (D:Dn) (hmarkIntS:Js (D GX)):Xu (Body D QB):=by
 intro xs k hk hl
 have hlen:xs.length≤Gm EF xs:=Xd (fun x=>by unfold EF;omega) xs
 simp -implicitDefEqProofs
 refine Af (fun n s=>∃j o,fd o∧j+n=xs.length∧s=⟨[.arr 0,.sc (.int .i64 (k+Gm EF (xs.take j))),.undef,.sc (.int .i64 j),.undef],[.arr 4 0 xs.length ((mkJ EF WB xs k j).flatMap Cn),o,o]⟩) ?_ xs.length _ ⟨0,.free,Ahc,by simp,by simp[AaK,Gm]⟩
 intro n s ⟨j,o,ho,hj,hs⟩
 subst hs
 by_cases hjn:j<xs.length
 ·have hw:IntKind.i64.wrap ((j:Int)+1)=(j+1:Nat):=by rw[Ab (by omega) (by omega)];simp
  have hjl:j≤xs.length:=by omega
  have hst:=Oc (mc:=EF) hjn
  have hle:=Wi (mc:=EF) (xs:=xs) (j:=j+1)
  have hmc:EF xs[j]=1+xs[j].drops.length+xs[j].strips.length+1:=rfl
  have hset:=Ahl (mc:=EF) (mk:=WB) (k:=k) hjn
  generalize hK:k+(Gm EF (xs.take j):Int)=K at hset⊢
  have hw0:IntKind.i64.wrap (K+1)=K+1:=Ab (by omega) (by omega)
  have hw3:IntKind.i64.wrap (K+1+((xs[j].drops.length:Nat):Int)+((xs[j].strips.length:Nat):Int)+1)=K+1+((xs[j].drops.length:Nat):Int)+((xs[j].strips.length:Nat):Int)+1:=Ab (by omega) (by omega)
  have hf1:j*4+1<xs.length*4:=by omega
  have hf2:j*4+2<xs.length*4:=by omega
  have hf3:j*4+3<xs.length*4:=by omega
  rcases ho with rfl | rfl
  all_goals simp -implicitDefEqProofs [hjn,hjl,JF hjn,hw0,hw3,hf1,hf2,hf3]
  all_goals refine Aa (hmarkIntS xs[j].drops _ (by omega) (by omega)) ?_
  all_goals simp -implicitDefEqProofs [hjn,hjl,JF hjn,hw0,hw3,hf1,hf2,hf3]
  all_goals refine Aa (hmarkIntS xs[j].strips _ (by omega) (by omega)) ?_
  all_goals simp -implicitDefEqProofs [hjn,hjl,JF hjn,hw0,hw3,hf1,hf2,hf3]
  all_goals exact⟨n-1,by omega,j+1,.dead,Ahf,by omega,⟨by first | omega | (rw[Ab (by omega) (by omega)];omega),by simp[hw]⟩,by rw[←hset];rfl,rfl⟩
 ·have hje:=Ahq (mc:=EF) (mk:=WB) (xs:=xs) (k:=k) (j:=j) (by omega)
  have hma:=RB (mc:=EF) (xs:=xs) (j:=j) (by omega)
  simp -implicitDefEqProofs [hjn,hje,hma,Ali]
abbrev XC (R:Rel):Prop:=∀(xs:List FI) (k:Int),0≤k→k+Gm EF xs≤4611686018427387904→R [.sl 1 4 xs.length ((YJ EF WB xs k).flatMap Cn),I k] [] (I (k+Gm EF xs)) []
theorem Atm (D:Dn) (hheldIntS:JA (D GU)):XC (Body D QR):=by
 intro xs k hk hl
 have hlen:xs.length≤Gm EF xs:=Xd (fun x=>by unfold EF;omega) xs
 simp -implicitDefEqProofs
 refine Af (fun n s=>∃j,j+n=xs.length∧s=⟨[.sl 1 4 xs.length ((YJ EF WB xs k).flatMap Cn),.sc (.int .i64 (k+Gm EF (xs.take j))),.undef,.sc (.int .i64 j),.undef,.undef,.undef,.undef,.undef],[]⟩) ?_ xs.length _ ⟨0,by simp,by simp[Gm]⟩
 intro n s ⟨j,hj,hs⟩
 subst hs
 by_cases hjn:j<xs.length
 ·have hw:IntKind.i64.wrap ((j:Int)+1)=(j+1:Nat):=by rw[Ab (by omega) (by omega)];simp
  have hst:=Oc (mc:=EF) hjn
  have hle:=Wi (mc:=EF) (xs:=xs) (j:=j+1)
  have hmc:EF xs[j]=1+xs[j].drops.length+xs[j].strips.length+1:=rfl
  have hY:=Acv (mc:=EF) (mk:=WB) xs k j hjn
  generalize hK:k+(Gm EF (xs.take j):Int)=K at hY⊢
  have hw0:IntKind.i64.wrap (K+1)=K+1:=Ab (by omega) (by omega)
  have hn1:¬K+1+((xs[j].drops.length:Nat):Int)<0:=by omega
  have hn2:¬K+1+((xs[j].drops.length:Nat):Int)+((xs[j].strips.length:Nat):Int)<0:=by omega
  have hw3:IntKind.i64.wrap (K+1+((xs[j].drops.length:Nat):Int)+((xs[j].strips.length:Nat):Int)+1)=K+1+((xs[j].drops.length:Nat):Int)+((xs[j].strips.length:Nat):Int)+1:=Ab (by omega) (by omega)
  simp -implicitDefEqProofs [hjn,hY,WB,hw0,hn1,hn2,hw3]
  refine Aa (hheldIntS xs[j].drops.length _ (by omega) (by omega)) ?_
  simp -implicitDefEqProofs [hjn,hY,WB,hw0,hn1,hn2,hw3]
  refine Aa (hheldIntS xs[j].strips.length _ (by omega) (by omega)) ?_
  simp -implicitDefEqProofs [hjn,hY,WB,hw0,hn1,hn2,hw3]
  exact⟨n-1,by omega,j+1,by omega,by first | omega | (rw[Ab (by omega) (by omega)];omega),by simp[hw]⟩
 ·have hma:=RB (mc:=EF) (xs:=xs) (j:=j) (by omega)
  simp -implicitDefEqProofs [hjn,hma]
abbrev LQ (R:Rel):Prop:=∀(xs:List AQ) (k:Int),0≤k→k+Gm AJ xs≤4611686018427387904→R [.arr 0,I k] [.arr 4 0 xs.length (xs.flatMap Ah)] (I (k+Gm AJ xs)) [.arr 4 0 xs.length ((YJ AJ FB xs k).flatMap Ah)]
theorem Agy (D:Dn) (hmarkIntS:Js (D GX)) (hmarkBoxS:Xu (D AiI)):LQ (Body D JI):=by
 intro xs k hk hl
 have hlen:xs.length≤Gm AJ xs:=Xd (fun x=>by unfold AJ;omega) xs
 simp -implicitDefEqProofs
 refine Af (fun n s=>∃j o,fd o∧j+n=xs.length∧s=⟨[.arr 0,.sc (.int .i64 (k+Gm AJ (xs.take j))),.undef,.sc (.int .i64 j),.undef],[.arr 4 0 xs.length ((mkJ AJ FB xs k j).flatMap Ah),o,o,o]⟩) ?_ xs.length _ ⟨0,.free,Ahc,by simp,by simp[AaK,Gm]⟩
 intro n s ⟨j,o,ho,hj,hs⟩
 subst hs
 by_cases hjn:j<xs.length
 ·have hw:IntKind.i64.wrap ((j:Int)+1)=(j+1:Nat):=by rw[Ab (by omega) (by omega)];simp
  have hjl:j≤xs.length:=by omega
  have hst:=Oc (mc:=AJ) hjn
  have hle:=Wi (mc:=AJ) (xs:=xs) (j:=j+1)
  have hmc:AJ xs[j]=xs[j].versions.length+xs[j].tags.length+Gm EF xs[j].path+1:=rfl
  have hset:=Ahl (mc:=AJ) (mk:=FB) (k:=k) hjn
  generalize hK:k+(Gm AJ (xs.take j):Int)=K at hset⊢
  have hw3:IntKind.i64.wrap (K+((xs[j].versions.length:Nat):Int)+((xs[j].tags.length:Nat):Int)+((Gm EF xs[j].path:Nat):Int)+1)=K+((xs[j].versions.length:Nat):Int)+((xs[j].tags.length:Nat):Int)+((Gm EF xs[j].path:Nat):Int)+1:=Ab (by omega) (by omega)
  have hf1:j*4+1<xs.length*4:=by omega
  have hf2:j*4+2<xs.length*4:=by omega
  have hf3:j*4+3<xs.length*4:=by omega
  rcases ho with rfl | rfl
  all_goals simp -implicitDefEqProofs [hjn,hjl,JF hjn,hw3,hf1,hf2,hf3]
  all_goals refine Aa (hmarkIntS xs[j].versions _ (by omega) (by omega)) ?_
  all_goals simp -implicitDefEqProofs [hjn,hjl,JF hjn,hw3,hf1,hf2,hf3]
  all_goals refine Aa (hmarkIntS xs[j].tags _ (by omega) (by omega)) ?_
  all_goals simp -implicitDefEqProofs [hjn,hjl,JF hjn,hw3,hf1,hf2,hf3]
  all_goals refine Aa (hmarkBoxS xs[j].path _ (by omega) (by omega)) ?_
  all_goals simp -implicitDefEqProofs [hjn,hjl,JF hjn,hw3,hf1,hf2,hf3]
  all_goals exact⟨n-1,by omega,j+1,.dead,Ahf,by omega,⟨by first | omega | (rw[Ab (by omega) (by omega)];omega),by simp[hw]⟩,by rw[←hset];rfl,rfl⟩
 ·have hje:=Ahq (mc:=AJ) (mk:=FB) (xs:=xs) (k:=k) (j:=j) (by omega)
  have hma:=RB (mc:=AJ) (xs:=xs) (j:=j) (by omega)
  simp -implicitDefEqProofs [hjn,hje,hma,Ali]
abbrev Mt (R:Rel):Prop:=∀(xs:List AQ) (k:Int),0≤k→k+Gm AJ xs≤4611686018427387904→R [.sl 1 4 xs.length ((YJ AJ FB xs k).flatMap Ah),I k] [] (I (k+Gm AJ xs)) []
theorem AgG (D:Dn) (hheldIntS:JA (D GU)) (hheldBoxS:XC (D Akq)):Mt (Body D JY):=by
 intro xs k hk hl
 have hlen:xs.length≤Gm AJ xs:=Xd (fun x=>by unfold AJ;omega) xs
 simp -implicitDefEqProofs
 refine Af (fun n s=>∃j,j+n=xs.length∧s=⟨[.sl 1 4 xs.length ((YJ AJ FB xs k).flatMap Ah),.sc (.int .i64 (k+Gm AJ (xs.take j))),.undef,.sc (.int .i64 j),.undef,.undef,.undef,.undef,.undef],[]⟩) ?_ xs.length _ ⟨0,by simp,by simp[Gm]⟩
 intro n s ⟨j,hj,hs⟩
 subst hs
 by_cases hjn:j<xs.length
 ·have hw:IntKind.i64.wrap ((j:Int)+1)=(j+1:Nat):=by rw[Ab (by omega) (by omega)];simp
  have hst:=Oc (mc:=AJ) hjn
  have hle:=Wi (mc:=AJ) (xs:=xs) (j:=j+1)
  have hmc:AJ xs[j]=xs[j].versions.length+xs[j].tags.length+Gm EF xs[j].path+1:=rfl
  have hY:=Acv (mc:=AJ) (mk:=FB) xs k j hjn
  generalize hK:k+(Gm AJ (xs.take j):Int)=K at hY⊢
  have hn0:¬K+((xs[j].versions.length:Nat):Int)<0:=by omega
  have hn1:¬K+((xs[j].versions.length:Nat):Int)+((xs[j].tags.length:Nat):Int)<0:=by omega
  have hn2:¬K+((xs[j].versions.length:Nat):Int)+((xs[j].tags.length:Nat):Int)+((Gm EF xs[j].path:Nat):Int)<0:=by omega
  have hw3:IntKind.i64.wrap (K+((xs[j].versions.length:Nat):Int)+((xs[j].tags.length:Nat):Int)+((Gm EF xs[j].path:Nat):Int)+1)=K+((xs[j].versions.length:Nat):Int)+((xs[j].tags.length:Nat):Int)+((Gm EF xs[j].path:Nat):Int)+1:=Ab (by omega) (by omega)
  simp -implicitDefEqProofs [hjn,hY,FB,hn0,hn1,hn2,hw3]
  refine Aa (hheldIntS xs[j].versions.length _ (by omega) (by omega)) ?_
  simp -implicitDefEqProofs [hjn,hY,FB,hn0,hn1,hn2,hw3]
  refine Aa (hheldIntS xs[j].tags.length _ (by omega) (by omega)) ?_
  simp -implicitDefEqProofs [hjn,hY,FB,hn0,hn1,hn2,hw3]
  refine Aa (hheldBoxS xs[j].path _ (by omega) (by omega)) ?_
  simp -implicitDefEqProofs [hjn,hY,FB,hn0,hn1,hn2,hw3]
  exact⟨n-1,by omega,j+1,by omega,by first | omega | (rw[Ab (by omega) (by omega)];omega),by simp[hw]⟩
 ·have hma:=RB (mc:=AJ) (xs:=xs) (j:=j) (by omega)
  simp -implicitDefEqProofs [hjn,hma]
end Go.Eng.T
namespace Go.Eng.T
set_option maxRecDepth 20000
abbrev PK (R:Rel):Prop:=∀(x:Ej) (k:Int),0≤k→k+BU x≤4611686018427387904→R [.agg [.sc (.int .i64 x.version),.arr 0,.sc (.int .i64 x.pos),.sc (.bool x.off)],I k] [.arr 1 0 x.stages.length (ints (x.stages))] (I (k+BU x)) [.arr 1 0 x.stages.length (ints ((CG x k).stages))]
theorem Aln (D:Dn) (hmarkIntS:Js (D GX)):PK (Body D MC):=by
 intro x k hk hl
 simp only[BU]at hl
 simp -implicitDefEqProofs
 refine Aa (hmarkIntS x.stages _ (by omega) (by omega)) ?_
 simp -implicitDefEqProofs [BU,CG,JN,Aad]
 simp[CG,BU,Ali,Int.add_assoc,show List.range 6=[0,1,2,3,4,5]from rfl,show List.range 2=[0,1]from rfl,show List.range 3=[0,1,2]from rfl]
abbrev PO (R:Rel):Prop:=∀(x:Ej) (k:Int),0≤k→k+BU x≤4611686018427387904→R [arg (Ga (CG x k)),I k] [] (I (k+BU x)) []
theorem AlQ (D:Dn) (hheldIntS:JA (D GU)):PO (Body D LJ):=by
 intro x k hk hl
 simp only[BU]at hl
 have hn1:¬k+((x.stages.length:Nat):Int)<0:=by omega
 simp -implicitDefEqProofs [CG,BU,JN,hn1]
 refine Aa (hheldIntS x.stages.length _ (by omega) (by omega)) ?_
 simp -implicitDefEqProofs [CG,BU,JN,hn1]
 try simp[BU,Int.add_assoc]
abbrev Vy (R:Rel):Prop:=∀(x:World) (k:Int),0≤k→k+JE x≤4611686018427387904→R [.agg [.arr 0,.arr 1,.sc (.int .i64 x.key),.arr 2,.sc (.int .i64 x.rollout.version),.arr 3,.sc (.int .i64 x.rollout.pos),.sc (.bool x.rollout.off),.sc (.int .i64 x.least),.sc (.int .i64 x.percent),.arr 4,.arr 5,.sc (.int .i64 x.now),.sc (.int .i64 x.hurt),.sc (.int .i64 x.reached)],I k] [.arr 1 0 x.server.length (ints (x.server)),.arr 1 0 x.tags.length (ints (x.tags)),.arr 4 0 x.ends.length ((x.ends).flatMap Ah),.arr 1 0 x.rollout.stages.length (ints (x.rollout.stages)),.arr 5 0 x.stage.length ((x.stage).flatMap Ao),.arr 8 0 x.log.length ((x.log).flatMap Am)] (I (k+JE x)) [.arr 1 0 x.server.length (ints ((Ep x k).server)),.arr 1 0 x.tags.length (ints ((Ep x k).tags)),.arr 4 0 x.ends.length (((Ep x k).ends).flatMap Ah),.arr 1 0 x.rollout.stages.length (ints ((Ep x k).rollout.stages)),.arr 5 0 x.stage.length (((Ep x k).stage).flatMap Ao),.arr 8 0 x.log.length (((Ep x k).log).flatMap Am)]
theorem Ari (D:Dn) (hmarkIntS:Js (D GX)) (hmarkEndpointS:LQ (D Yb)) (hmarkRollout:PK (D AaG)) (hmarkDialedS:Qb (D Acy)) (hmarkLoggedS:PI (D Acu)):Vy (Body D Pp):=by
 intro x k hk hl
 simp only[JE]at hl
 simp -implicitDefEqProofs
 refine Aa (hmarkIntS x.server _ (by omega) (by omega)) ?_
 simp -implicitDefEqProofs [BU,CG,JN,Aad]
 refine Aa (hmarkIntS x.tags _ (by omega) (by omega)) ?_
 simp -implicitDefEqProofs [BU,CG,JN,Aad]
 refine Aa (hmarkEndpointS x.ends _ (by omega) (by omega)) ?_
 simp -implicitDefEqProofs [BU,CG,JN,Aad]
 refine Aa (hmarkRollout x.rollout _ (by omega) (by simp only[BU];omega)) ?_
 simp -implicitDefEqProofs [BU,CG,JN,Aad]
 refine Aa (hmarkDialedS x.stage _ (by omega) (by omega)) ?_
 simp -implicitDefEqProofs [BU,CG,JN,Aad]
 refine Aa (hmarkLoggedS x.log _ (by omega) (by omega)) ?_
 simp -implicitDefEqProofs [BU,CG,JN,Aad]
 simp[Ep,JE,Ali,Int.add_assoc,show List.range 6=[0,1,2,3,4,5]from rfl,show List.range 2=[0,1]from rfl,show List.range 3=[0,1,2]from rfl]
abbrev Vi (R:Rel):Prop:=∀(x:World) (k:Int),0≤k→k+JE x≤4611686018427387904→R [arg (Gd (Ep x k)),I k] [] (I (k+JE x)) []
theorem Ark (D:Dn) (hheldIntS:JA (D GU)) (hheldEndpointS:Mt (D X3)) (hheldRollout:PO (D Aa7)) (hheldDialedS:PS (D Abz)) (hheldLoggedS:PW (D Abq)):Vi (Body D O5):=by
 intro x k hk hl
 simp only[JE]at hl
 have hn0:¬k+((x.server.length:Nat):Int)<0:=by omega
 have hn1:¬k+((x.server.length:Nat):Int)+((x.tags.length:Nat):Int)<0:=by omega
 have hn3:¬k+((x.server.length:Nat):Int)+((x.tags.length:Nat):Int)+((Gm AJ x.ends:Nat):Int)<0:=by omega
 have hn4:¬k+((x.server.length:Nat):Int)+((x.tags.length:Nat):Int)+((Gm AJ x.ends:Nat):Int)+((x.rollout.stages.length:Nat):Int)<0:=by omega
 have hn7:¬k+((x.server.length:Nat):Int)+((x.tags.length:Nat):Int)+((Gm AJ x.ends:Nat):Int)+((x.rollout.stages.length:Nat):Int)+((Gm BL x.stage:Nat):Int)<0:=by omega
 have hn8:¬k+((x.server.length:Nat):Int)+((x.tags.length:Nat):Int)+((Gm AJ x.ends:Nat):Int)+((x.rollout.stages.length:Nat):Int)+((Gm BL x.stage:Nat):Int)+((Gm BS x.log:Nat):Int)<0:=by omega
 simp -implicitDefEqProofs [Ep,BU,JN,hn0,hn1,hn3,hn4,hn7,hn8]
 refine Aa (hheldIntS x.server.length _ (by omega) (by omega)) ?_
 simp -implicitDefEqProofs [Ep,BU,JN,hn0,hn1,hn3,hn4,hn7,hn8]
 refine Aa (hheldIntS x.tags.length _ (by omega) (by omega)) ?_
 simp -implicitDefEqProofs [Ep,BU,JN,hn0,hn1,hn3,hn4,hn7,hn8]
 refine Aa (hheldEndpointS x.ends _ (by omega) (by omega)) ?_
 simp -implicitDefEqProofs [Ep,BU,JN,hn0,hn1,hn3,hn4,hn7,hn8]
 have hr:=hheldRollout x.rollout (k+((x.server.length:Nat):Int)+((x.tags.length:Nat):Int)+((Gm AJ x.ends:Nat):Int)) (by omega) (by simp only[BU];omega)
 simp[CG,BU]at hr
 refine Aa hr ?_
 simp -implicitDefEqProofs [Ep,BU,JN,hn0,hn1,hn3,hn4,hn7,hn8]
 refine Aa (hheldDialedS x.stage _ (by omega) (by omega)) ?_
 simp -implicitDefEqProofs [Ep,BU,JN,hn0,hn1,hn3,hn4,hn7,hn8]
 refine Aa (hheldLoggedS x.log _ (by omega) (by omega)) ?_
 simp -implicitDefEqProofs [Ep,BU,JN,hn0,hn1,hn3,hn4,hn7,hn8]
 try simp[JE,Int.add_assoc]
end Go.Eng.T
namespace Go.Eng.T
theorem Aa1 {xs:List Int} {v:Int} {j:Nat} (h:j<xs.length) (hp:v∉xs.take j) (hv:¬xs[j]=v):v∉xs.take (j+1):=by
 rw[List.take_add_one,List.getElem?_eq_getElem h]
 intro hm
 rcases List.mem_append.1 hm with hm | hm
 ·exact hp hm
 ·simp at hm;exact hv hm.symm
theorem Ae0 {xs:List Int} {v:Int} {j:Nat} (h:xs.length≤j) (hp:v∉xs.take j):v∉xs:=by rwa [List.take_of_length_le h]at hp
theorem Aq4 {xs:List Int} {v:Int} {j:Nat} (h:j<xs.length) (hv:xs[j]=v):v∈xs:=by rw[←hv];exact List.getElem_mem h
def Ata (xs:List Int) (v:Int):Int:=if v∈xs then(xs.idxOf v:Nat)else -1
theorem AAd {xs:List Int} {v:Int} {j:Nat} (h:j<xs.length) (hp:v∉xs.take j) (hv:xs[j]=v):Ata xs v=j:=by
 unfold Ata
 rw[if_pos (Aq4 h hv)]
 congr 1
 have e:xs=xs.take j++v::xs.drop (j+1):=by
  conv=>lhs;rw[←List.take_append_drop j xs,List.drop_eq_getElem_cons h,hv]
 rw[e,List.idxOf_append,if_neg hp]
 simp
 omega
theorem ADh {xs:List Int} {v:Int}:(0≤Ata xs v)=(v∈xs):=by
 unfold Ata
 by_cases h:v∈xs<;>simp[h]
abbrev Anx (R:Rel):Prop:=∀(xs:List Int) (v:Int),xs.length≤maxLen→R [.sl 1 1 xs.length (ints xs),I v] [] (I (Ata xs v)) []
theorem ACQ (D:Dn):Anx (Body D GH):=by
 intro xs v hl
 unfold maxLen at hl
 simp -implicitDefEqProofs
 refine Af (fun k s=>∃j,j+k=xs.length∧v∉xs.take j∧s=⟨[.sl 1 1 xs.length (ints xs),.sc (.int .i64 v),.undef,.undef,.sc (.int .i64 xs.length),.sc (.int .i64 j),.undef,.undef],[]⟩) ?_ xs.length _ ⟨0,by simp,by simp,by simp⟩
 intro k s ⟨j,hj,hp,hs⟩
 subst hs
 by_cases hjn:j<xs.length
 ·have hw:IntKind.i64.wrap ((j:Int)+1)=(j+1:Nat):=by rw[Ab (by omega) (by omega)];simp
  by_cases he:v=xs[j]
  ·have hx:=AAd hjn hp he.symm
   simp -implicitDefEqProofs [hjn,←he,hx]
  ·simp -implicitDefEqProofs [hjn,he]
   exact⟨k-1,by omega,j+1,by omega,Aa1 hjn hp (fun h=>he h.symm),by simp[hw]⟩
 ·have hx:Ata xs v= -1:=by unfold Ata;rw[if_neg (Ae0 (by omega) hp)]
  simp -implicitDefEqProofs [hjn,hx]
abbrev QA (R:Rel):Prop:=∀(xs:List Int) (v:Int),xs.length≤maxLen→R [.sl 1 1 xs.length (ints xs),I v] [] (B (decide (v∈xs))) []
theorem As7 (D:Dn) (hI:Anx (D 389)):QA (Body D FM):=by
 intro xs v hl
 simp -implicitDefEqProofs
 refine Aa (hI xs v hl) ?_
 simp -implicitDefEqProofs [ADh]
theorem AB5 (D:Dn):QA (Body D WL):=by
 intro xs v hl
 unfold maxLen at hl
 simp -implicitDefEqProofs
 refine Af (fun k s=>∃j,j+k=xs.length∧v∉xs.take j∧s=⟨[.sl 1 1 xs.length (ints xs),.sc (.int .i64 v),.undef,.sc (.int .i64 j),.undef,.undef],[]⟩) ?_ xs.length _ ⟨0,by simp,by simp,by simp⟩
 intro k s ⟨j,hj,hp,hs⟩
 subst hs
 by_cases hjn:j<xs.length
 ·have hw:IntKind.i64.wrap ((j:Int)+1)=(j+1:Nat):=by rw[Ab (by omega) (by omega)];simp
  by_cases he:xs[j]=v
  ·have hx:=Aq4 hjn he
   simp -implicitDefEqProofs [hjn,he,hx]
  ·simp -implicitDefEqProofs [hjn,he]
   exact⟨k-1,by omega,j+1,by omega,Aa1 hjn hp he,by simp[hw]⟩
 ·have hx:=Ae0 (by omega) hp
  simp -implicitDefEqProofs [hjn,hx]
def NE (v:Int) (d:BO):Bool:= !d.deal.ok||(decide (d.deal.version<v)&&decide (v∈d.up))
def goodD (v:Int) (d:BO):Bool:= !NE v d&&decide (v≤d.deal.version)
def cntF {α:Type} (f:α→Bool) (xs:List α):Nat:=(xs.filter f).length
theorem Ap5 {α:Type} {f:α→Bool} {xs:List α} {j:Nat} (h:j<xs.length):cntF f (xs.take (j+1))=cntF f (xs.take j)+(if f xs[j]then 1 else 0):=by
 unfold cntF
 rw[List.take_add_one,List.getElem?_eq_getElem h,List.filter_append,List.length_append]
 congr 1
 by_cases hf:f xs[j]<;>simp[hf]
theorem Ay0 {α:Type} {f:α→Bool} {xs:List α} {j:Nat} (h:j≤xs.length):cntF f (xs.take j)≤j:=by
 unfold cntF
 have:=List.length_filter_le f (xs.take j)
 simp at this
 omega
theorem AuB {α:Type} {f:α→Bool} {xs:List α} {j:Nat} (h:xs.length≤j):cntF f (xs.take j)=cntF f xs:=by rw[List.take_of_length_le h]
end Go.Eng.T
namespace Go.Eng.T
abbrev XK (R:Rel):Prop:=∀(xs:List BO) (v:Int),xs.length≤maxLen→(∀(j:Nat) (h:j<xs.length),xs[j].up.length≤maxLen)→
 R [.sl 1 5 xs.length (xs.flatMap Ao),I v] [] (.tup [I (cntF (goodD v) xs),I (cntF (NE v) xs)]) []
theorem Ap7 (D:Dn) (hH:QA (D 166)):XK (Body D QJ):=by
 intro xs v hl hu
 unfold maxLen at hl
 simp -implicitDefEqProofs
 refine Af (fun k s=>∃j o0,j+k=xs.length∧s=⟨[.sl 1 5 xs.length (xs.flatMap Ao),.sc (.int .i64 v),.undef,.undef,.sc (.int .i64 (cntF (goodD v) (xs.take j))),.sc (.int .i64 (cntF (NE v) (xs.take j))),.sc (.int .i64 j),.undef,.undef,.undef,.undef],[o0]⟩) ?_ xs.length _ ⟨0,.free,by simp,by simp[cntF]⟩
 intro k s ⟨j,o0,hj,hs⟩
 subst hs
 by_cases hjn:j<xs.length
 ·have hw:IntKind.i64.wrap ((j:Int)+1)=(j+1:Nat):=by rw[Ab (by omega) (by omega)];simp
  have hc:=Ap5 (f:=goodD v) hjn
  have hb:=Ap5 (f:=NE v) hjn
  have hcl:=Ay0 (f:=goodD v) (xs:=xs) (j:=j) (by omega)
  have hbl:=Ay0 (f:=NE v) (xs:=xs) (j:=j) (by omega)
  have hw2:IntKind.i64.wrap ((cntF (goodD v) (xs.take j):Int)+1)=(cntF (goodD v) (xs.take j)+1:Nat):=by rw[Ab (by omega) (by omega)];simp
  have hw3:IntKind.i64.wrap ((cntF (NE v) (xs.take j):Int)+1)=(cntF (NE v) (xs.take j)+1:Nat):=by rw[Ab (by omega) (by omega)];simp
  have fin:∀(a b:Bool),goodD v xs[j]=a→NE v xs[j]=b→∀x y:Int,x=((cntF (goodD v) (xs.take j)+(if a then 1 else 0):Nat):Int)→y=((cntF (NE v) (xs.take j)+(if b then 1 else 0):Nat):Int)→
   x=cntF (goodD v) (xs.take (j+1))∧y=cntF (NE v) (xs.take (j+1)):=by
   intro a b ha hb' x y hx hy
   rw[hc,hb,ha,hb']
   exact⟨hx,hy⟩
  by_cases h1:xs[j].deal.ok=true
  ·by_cases h2:xs[j].deal.version<v
   ·simp -implicitDefEqProofs [hjn,h1,h2]
    refine Aa (hH xs[j].up v (hu j hjn)) ?_
    by_cases h3:v∈xs[j].up
    ·have g:=fin false true (by simp[goodD,NE,h1,h2,h3]) (by simp[NE,h1,h2,h3]) _ _ rfl rfl
     simp -implicitDefEqProofs [h3]
     exact⟨k-1,by omega,j+1,by omega,by simpa using g.1,by rw[hw3];simpa using g.2,by simp[hw]⟩
    ·have h4:¬v≤xs[j].deal.version:=by omega
     have g:=fin false false (by simp[goodD,NE,h1,h2,h3,h4]) (by simp[NE,h1,h2,h3]) _ _ rfl rfl
     simp -implicitDefEqProofs [h3,h4]
     exact⟨k-1,by omega,j+1,by omega,by simpa using g.1,by simpa using g.2,by simp[hw]⟩
   ·have h4:v≤xs[j].deal.version:=by omega
    have g:=fin true false (by simp[goodD,NE,h1,h2,h4]) (by simp[NE,h1,h2]) _ _ rfl rfl
    simp -implicitDefEqProofs [hjn,h1,h2,h4]
    exact⟨k-1,by omega,j+1,by omega,by rw[hw2];simpa using g.1,by simpa using g.2,by simp[hw]⟩
  ·have g:=fin false true (by simp[goodD,NE,h1]) (by simp[NE,h1]) _ _ rfl rfl
   simp -implicitDefEqProofs [hjn,h1]
   exact⟨k-1,by omega,j+1,by omega,by simpa using g.1,by rw[hw3];simpa using g.2,by simp[hw]⟩
 ·have hx:=AuB (f:=goodD v) (xs:=xs) (j:=j) (by omega)
  have hy:=AuB (f:=NE v) (xs:=xs) (j:=j) (by omega)
  simp -implicitDefEqProofs [hjn,hx,hy]
abbrev Fz (R:Rel):Prop:=∀(d:BO) (v:Int),d.up.length≤maxLen→R [arg (Ao d),I v] [] (B (NE v d)) []
theorem Anq (D:Dn) (hM:XK (D 155)):Fz (Body D OT):=by
 intro d v hu
 simp -implicitDefEqProofs
 refine Aa (hM [d] v (by unfold maxLen;simp) (fun j h=>by have e:j=0:=(by simpa using h);subst e;exact hu)) ?_
 by_cases h:NE v d<;>simp -implicitDefEqProofs [cntF,h]
theorem ABD (D:Dn) (hH:QA (D 188)):Fz (Body D WC):=by
 intro d v hu
 by_cases h1:d.deal.ok=true
 ·by_cases h2:d.deal.version<v
  ·simp -implicitDefEqProofs [h1,h2]
   refine Aa (hH d.up v hu) ?_
   simp -implicitDefEqProofs [NE,h1,h2]
  ·simp -implicitDefEqProofs [h1,h2,NE]
 ·simp -implicitDefEqProofs [h1,NE]
theorem Aoi (D:Dn) (hB:Fz (D 229)):Fz (Body D O3):=by
 intro d v hu
 simp -implicitDefEqProofs
 refine Aa (hB d v hu) ?_
 simp -implicitDefEqProofs
end Go.Eng.T
namespace Go.Eng.T
theorem Bl {y:Ty} {ys:List Ty} {cs:List V} (h:Xf (y::ys) cs):∃a b,Dat y a∧Xf ys b∧cs=a++b:=by simp only[Xf]at h;exact h
theorem Qr {cs:List V} (h:Xf [] cs):cs=[]:=by simp only[Xf]at h;exact h
theorem ZO {ys:List Ty} {cs:List V} (h:Dat (.st ys) cs):Xf ys cs:=by simp only[Dat]at h;exact h
def rgI (n:Int):Prop:= -9223372036854775808≤n∧n≤9223372036854775807
theorem rg_of {n:Int} (h:(Lit.int .i64 n).wf=true):rgI n:=by
 simp only[Lit.wf,IntKind.min,IntKind.max,IntKind.bits,IntKind.signed,Bool.and_eq_true,decide_eq_true_eq]at h
 exact⟨h.1,h.2⟩
theorem Yt {cs:List V} (h:Dat (.int .i64) cs):∃n,cs=[.sc (.int .i64 n)]∧rgI n:=by
 simp only[Dat]at h
 obtain⟨n,h1,h2⟩:=h
 exact⟨n,h2,rg_of h1⟩
theorem ACx {cs:List V} (h:Dat .bool cs):∃b,cs=[.sc (.bool b)]:=by simp only[Dat]at h;exact h
theorem AhS {α:Type} {f:α→List V} {p:α→Prop}:∀ {xs:List (List V)},(∀x,x∈xs→∃d,x=f d∧p d)→∃ds:List α,xs=ds.map f∧∀d,d∈ds→p d
 | [],_=>⟨[],rfl,by simp⟩
 | x::xs,h=>by
  obtain⟨d,rfl,hd⟩:=h x (by simp)
  obtain⟨ds,rfl,hds⟩:=AhS (xs:=xs) fun y hy=>h y (by simp[hy])
  exact⟨d::ds,rfl,by intro y hy;rcases List.mem_cons.1 hy with rfl | hy;exact hd;exact hds y hy⟩
theorem AhR {α:Type} {y:Ty} {f:α→List V} {p:α→Prop} (hf:∀cs,Dat y cs→∃d,cs=f d∧p d) {cs:List V} (h:Dat (.sl y) cs):
 ∃ds:List α,cs=[.sl 0 y.cells ds.length (ds.flatMap f)]∧ds.length≤maxLen∧∀d,d∈ds→p d:=by
 simp only[Dat]at h
 obtain⟨xs,h1,h2,rfl⟩:=h
 obtain⟨ds,rfl,h3⟩:=AhS (f:=f) (p:=p) (xs:=xs) fun x hx=>hf x (h2 x hx)
 exact⟨ds,by simp[List.flatMap_def],by simpa using h1,h3⟩
def R7 (xs:List Int):Prop:=∀x,x∈xs→rgI x
def rgS {α:Type} (f:α→Prop) (xs:List α):Prop:=∀x,x∈xs→f x
theorem PU {cs:List V} (h:Dat (.sl (.int .i64)) cs):∃xs:List Int,cs=[.sl 0 1 xs.length (ints xs)]∧IX xs∧R7 xs:=by
 obtain⟨ds,h1,h2,h3⟩:=AhR (f:=fun n=> [V.sc (.int .i64 n)]) (p:=rgI) (fun cs h=>Yt h) h
 refine⟨ds,?_,h2,h3⟩
 have e:ds.flatMap (fun n=> [V.sc (.int .i64 n)])=ints ds:=by
  clear h1 h2 h3
  induction ds with
  | nil=>rfl
  | cons a ds ih=>rw[List.flatMap_cons,ih];rfl
 rw[h1,e]
 rfl
def AAz:Ty:= .st [.bool,.int .i64,.sl (.int .i64)]
def AzY (d:ZK):Prop:=rgI d.version∧R7 d.tags
theorem ACF {cs:List V} (h:Dat AAz cs):∃x:ZK,cs=Wd x∧An0 x∧AzY x:=by
 have h0:=ZO h
 obtain⟨a0,r0,g0,h1,e0⟩:=Bl h0
 obtain⟨x0,rfl⟩:=ACx g0
 obtain⟨a1,r1,g1,h2,e1⟩:=Bl h1
 obtain⟨x1,rfl,w1⟩:=Yt g1
 obtain⟨a2,r2,g2,h3,e2⟩:=Bl h2
 obtain⟨x2,rfl,l2,w2⟩:=PU g2
 have z:=Qr h3
 subst z;subst e2;subst e1;subst e0
 exact⟨⟨x0,x1,x2⟩,rfl,l2,⟨w1,w2⟩⟩
def AAy:Ty:= .st [.int .i64,.sl (.int .i64),.sl (.int .i64),.bool]
def Au2 (d:FI):Prop:=rgI d.limit∧R7 d.drops∧R7 d.strips
theorem ADP {cs:List V} (h:Dat AAy cs):∃x:FI,cs=Cn x∧Ih x∧Au2 x:=by
 have h0:=ZO h
 obtain⟨a0,r0,g0,h1,e0⟩:=Bl h0
 obtain⟨x0,rfl,w0⟩:=Yt g0
 obtain⟨a1,r1,g1,h2,e1⟩:=Bl h1
 obtain⟨x1,rfl,l1,w1⟩:=PU g1
 obtain⟨a2,r2,g2,h3,e2⟩:=Bl h2
 obtain⟨x2,rfl,l2,w2⟩:=PU g2
 obtain⟨a3,r3,g3,h4,e3⟩:=Bl h3
 obtain⟨x3,rfl⟩:=ACx g3
 have z:=Qr h4
 subst z;subst e3;subst e2;subst e1;subst e0
 exact⟨⟨x0,x1,x2,x3⟩,rfl,⟨l1,l2⟩,⟨w0,w1,w2⟩⟩
theorem ACy {cs:List V} (h:Dat (.sl AAy) cs):∃xs:List FI,cs=[.sl 0 4 xs.length (xs.flatMap Cn)]∧lnS Ih xs∧rgS Au2 xs:=by
 obtain⟨ds,h1,h2,h3⟩:=AhR (f:=Cn) (p:=fun x=>Ih x∧Au2 x) (fun cs h=>ADP h) h
 exact⟨ds,h1,⟨h2,fun j hj=>(h3 _ (List.getElem_mem hj)).1⟩,fun x hx=>(h3 x hx).2⟩
def AbW:Ty:= .st [AAz,.int .i64,.sl (.int .i64)]
def Wo (d:BO):Prop:=AzY d.deal∧rgI d.tries∧R7 d.up
theorem Ank {cs:List V} (h:Dat AbW cs):∃x:BO,cs=Ao x∧Od x∧Wo x:=by
 have h0:=ZO h
 obtain⟨a0,r0,g0,h1,e0⟩:=Bl h0
 obtain⟨x0,rfl,l0,w0⟩:=ACF g0
 obtain⟨a1,r1,g1,h2,e1⟩:=Bl h1
 obtain⟨x1,rfl,w1⟩:=Yt g1
 obtain⟨a2,r2,g2,h3,e2⟩:=Bl h2
 obtain⟨x2,rfl,l2,w2⟩:=PU g2
 have z:=Qr h3
 subst z;subst e2;subst e1;subst e0
 exact⟨⟨x0,x1,x2⟩,rfl,⟨l0,l2⟩,⟨w0,w1,w2⟩⟩
theorem Atc {cs:List V} (h:Dat (.sl AbW) cs):∃xs:List BO,cs=[.sl 0 5 xs.length (xs.flatMap Ao)]∧lnS Od xs∧rgS Wo xs:=by
 obtain⟨ds,h1,h2,h3⟩:=AhR (f:=Ao) (p:=fun x=>Od x∧Wo x) (fun cs h=>Ank h) h
 exact⟨ds,h1,⟨h2,fun j hj=>(h3 _ (List.getElem_mem hj)).1⟩,fun x hx=>(h3 x hx).2⟩
def AmW:Ty:= .st [.int .i64,.sl (.int .i64),.int .i64,.bool]
def AmD (d:Ej):Prop:=rgI d.version∧R7 d.stages∧rgI d.pos
theorem Aue {cs:List V} (h:Dat AmW cs):∃x:Ej,cs=Ga x∧Xz x∧AmD x:=by
 have h0:=ZO h
 obtain⟨a0,r0,g0,h1,e0⟩:=Bl h0
 obtain⟨x0,rfl,w0⟩:=Yt g0
 obtain⟨a1,r1,g1,h2,e1⟩:=Bl h1
 obtain⟨x1,rfl,l1,w1⟩:=PU g1
 obtain⟨a2,r2,g2,h3,e2⟩:=Bl h2
 obtain⟨x2,rfl,w2⟩:=Yt g2
 obtain⟨a3,r3,g3,h4,e3⟩:=Bl h3
 obtain⟨x3,rfl⟩:=ACx g3
 have z:=Qr h4
 subst z;subst e3;subst e2;subst e1;subst e0
 exact⟨⟨x0,x1,x2,x3⟩,rfl,l1,⟨w0,w1,w2⟩⟩
def Z4:Ty:= .st [.sl (.int .i64),.sl (.int .i64),.sl AAy,.int .i64]
def UB (d:AQ):Prop:=R7 d.versions∧R7 d.tags∧rgS Au2 d.path∧rgI d.cls
theorem Ary {cs:List V} (h:Dat Z4 cs):∃x:AQ,cs=Ah x∧Hz x∧UB x:=by
 have h0:=ZO h
 obtain⟨a0,r0,g0,h1,e0⟩:=Bl h0
 obtain⟨x0,rfl,l0,w0⟩:=PU g0
 obtain⟨a1,r1,g1,h2,e1⟩:=Bl h1
 obtain⟨x1,rfl,l1,w1⟩:=PU g1
 obtain⟨a2,r2,g2,h3,e2⟩:=Bl h2
 obtain⟨x2,rfl,l2,w2⟩:=ACy g2
 obtain⟨a3,r3,g3,h4,e3⟩:=Bl h3
 obtain⟨x3,rfl,w3⟩:=Yt g3
 have z:=Qr h4
 subst z;subst e3;subst e2;subst e1;subst e0
 exact⟨⟨x0,x1,x2,x3⟩,rfl,⟨l0,l1,l2⟩,⟨w0,w1,w2,w3⟩⟩
theorem Apu {cs:List V} (h:Dat (.sl Z4) cs):∃xs:List AQ,cs=[.sl 0 4 xs.length (xs.flatMap Ah)]∧lnS Hz xs∧rgS UB xs:=by
 obtain⟨ds,h1,h2,h3⟩:=AhR (f:=Ah) (p:=fun x=>Hz x∧UB x) (fun cs h=>Ary h) h
 exact⟨ds,h1,⟨h2,fun j hj=>(h3 _ (List.getElem_mem hj)).1⟩,fun x hx=>(h3 x hx).2⟩
def Ait:Ty:= .st [.int .i64,.int .i64,.bool,AbW]
def Ab1 (d:Cm):Prop:=rgI d.fin∧rgI d.tick∧Wo d.dialed
theorem Awq {cs:List V} (h:Dat Ait cs):∃x:Cm,cs=Am x∧Qu x∧Ab1 x:=by
 have h0:=ZO h
 obtain⟨a0,r0,g0,h1,e0⟩:=Bl h0
 obtain⟨x0,rfl,w0⟩:=Yt g0
 obtain⟨a1,r1,g1,h2,e1⟩:=Bl h1
 obtain⟨x1,rfl,w1⟩:=Yt g1
 obtain⟨a2,r2,g2,h3,e2⟩:=Bl h2
 obtain⟨x2,rfl⟩:=ACx g2
 obtain⟨a3,r3,g3,h4,e3⟩:=Bl h3
 obtain⟨x3,rfl,l3,w3⟩:=Ank g3
 have z:=Qr h4
 subst z;subst e3;subst e2;subst e1;subst e0
 exact⟨⟨x0,x1,x2,x3⟩,rfl,l3,⟨w0,w1,w3⟩⟩
theorem Auw {cs:List V} (h:Dat (.sl Ait) cs):∃xs:List Cm,cs=[.sl 0 8 xs.length (xs.flatMap Am)]∧lnS Qu xs∧rgS Ab1 xs:=by
 obtain⟨ds,h1,h2,h3⟩:=AhR (f:=Am) (p:=fun x=>Qu x∧Ab1 x) (fun cs h=>Awq h) h
 exact⟨ds,h1,⟨h2,fun j hj=>(h3 _ (List.getElem_mem hj)).1⟩,fun x hx=>(h3 x hx).2⟩
def Ag9:Ty:= .st [.sl (.int .i64),.sl (.int .i64),.int .i64,.sl Z4,AmW,.int .i64,.int .i64,.sl AbW,.sl Ait,.int .i64,.int .i64,.int .i64]
def Ao0 (d:World):Prop:=R7 d.server∧R7 d.tags∧rgI d.key∧rgS UB d.ends∧AmD d.rollout∧rgI d.least∧rgI d.percent∧rgS Wo d.stage∧rgS Ab1 d.log∧rgI d.now∧rgI d.hurt∧rgI d.reached
theorem AzB {cs:List V} (h:Dat Ag9 cs):∃x:World,cs=Gd x∧Acs x∧Ao0 x:=by
 have h0:=ZO h
 obtain⟨a0,r0,g0,h1,e0⟩:=Bl h0
 obtain⟨x0,rfl,l0,w0⟩:=PU g0
 obtain⟨a1,r1,g1,h2,e1⟩:=Bl h1
 obtain⟨x1,rfl,l1,w1⟩:=PU g1
 obtain⟨a2,r2,g2,h3,e2⟩:=Bl h2
 obtain⟨x2,rfl,w2⟩:=Yt g2
 obtain⟨a3,r3,g3,h4,e3⟩:=Bl h3
 obtain⟨x3,rfl,l3,w3⟩:=Apu g3
 obtain⟨a4,r4,g4,h5,e4⟩:=Bl h4
 obtain⟨x4,rfl,l4,w4⟩:=Aue g4
 obtain⟨a5,r5,g5,h6,e5⟩:=Bl h5
 obtain⟨x5,rfl,w5⟩:=Yt g5
 obtain⟨a6,r6,g6,h7,e6⟩:=Bl h6
 obtain⟨x6,rfl,w6⟩:=Yt g6
 obtain⟨a7,r7,g7,h8,e7⟩:=Bl h7
 obtain⟨x7,rfl,l7,w7⟩:=Atc g7
 obtain⟨a8,r8,g8,h9,e8⟩:=Bl h8
 obtain⟨x8,rfl,l8,w8⟩:=Auw g8
 obtain⟨a9,r9,g9,h10,e9⟩:=Bl h9
 obtain⟨x9,rfl,w9⟩:=Yt g9
 obtain⟨a10,r10,g10,h11,e10⟩:=Bl h10
 obtain⟨x10,rfl,w10⟩:=Yt g10
 obtain⟨a11,r11,g11,h12,e11⟩:=Bl h11
 obtain⟨x11,rfl,w11⟩:=Yt g11
 have z:=Qr h12
 subst z;subst e11;subst e10;subst e9;subst e8;subst e7;subst e6;subst e5;subst e4;subst e3;subst e2;subst e1;subst e0
 exact⟨⟨x0,x1,x2,x3,x4,x5,x6,x7,x8,x9,x10,x11⟩,rfl,⟨l0,l1,l3,l4,l7,l8⟩,⟨w0,w1,w2,w3,w4,w5,w6,w7,w8,w9,w10,w11⟩⟩
theorem AGq {v:V} (h:Axa (.int .i64) v):∃n,v=I n∧rgI n:=by
 obtain⟨c,hd,rfl⟩:=h
 obtain⟨n,e,w⟩:=Yt hd
 cases e
 exact⟨n,rfl,w⟩
theorem Ayy {v:V} (h:Axa Ag9 v):∃x:World,v=arg (Gd x)∧Acs x∧Ao0 x:=by
 obtain⟨cs,hd,rfl⟩:=h
 obtain⟨x,rfl,w⟩:=AzB hd
 exact⟨x,rfl,w⟩
end Go.Eng.T
namespace Go.Eng.T
theorem AEs {n:Nat} {l:Int} (h:l<n):szl n l= -1:=by unfold szl;rw[if_pos h]
theorem JR {n:Nat} {l:Int} (h:¬l<n):szl n l=l-n:=by unfold szl;rw[if_neg h]
theorem AoP {α:Type} {mc sz:α→Nat} (c:Nat) (h:∀x,mc x≤c*(1+sz x)) (xs:List α):Gm mc xs≤c*BB sz xs:=by
 induction xs with
 | nil=>simp[Gm]
 | cons x r ih=>
  have:=h x
  simp only[Gm,BB,List.map_cons,List.sum_cons,List.length_cons]at *
  rw[Nat.mul_add]at *
  rw[Nat.mul_add]at *
  rw[Nat.mul_add]
  omega
theorem Axt (xs:List FI):Gm EF xs≤2*BB BP xs:=AoP 2 (fun x=>by unfold EF BP;omega) xs
theorem AlE (x:AQ):AJ x≤2*(1+Ae x):=by have:=Axt x.path;unfold AJ Ae;omega
theorem AiU (xs:List AQ):Gm AJ xs≤2*BB Ae xs:=AoP 2 AlE xs
theorem AnO (xs:List BO):Gm BL xs≤3*BB Aj xs:=AoP 3 (fun x=>by unfold BL Aj Ed;omega) xs
theorem Apj (xs:List Cm):Gm BS xs≤6*BB Ay xs:=AoP 6 (fun x=>by unfold BS Ay Aj Ed;omega) xs
theorem AhP (x:World):JE x≤6*AY x:=by
 have:=AiU x.ends
 have:=AnO x.stage
 have:=Apj x.log
 unfold JE AY Bd;omega
theorem AmP {w:World} (h:AY w≤4194304):w.log.length≤4194304:=by have:=Gb (f:=Ay) (xs:=w.log);unfold AY at h;omega
theorem Hq {w:World} (h:AY w≤4194304):w.ends.length≤4194304:=by have:=Gb (f:=Ae) (xs:=w.ends);unfold AY at h;omega
theorem AeS {w:World} (h:AY w≤4194304):w.stage.length≤4194304:=by have:=Gb (f:=Aj) (xs:=w.stage);unfold AY at h;omega
theorem Awg (a b:Int):(a==b)=decide (a=b):=by by_cases h:a=b<;>simp[h]
end Go.Eng.T
namespace Go.Eng.T
set_option maxRecDepth 20000
abbrev InR (a b c:Int):Prop:=b≤a∧a≤c
end Go.Eng.T
namespace Go.Eng.T
set_option maxRecDepth 20000
def G8 {α:Type} (p:α→Bool):List α→Int→Int
 | [],_=> -1
 | x::r,i=>if p x then i else G8 p r (i+1)
theorem T9 {α:Type} {p:α→Bool} {xs:List α} {j:Nat} (h:j<xs.length):G8 p (xs.drop j) j=if p xs[j]then(j:Int)else G8 p (xs.drop (j+1)) ((j:Int)+1):=by
 rw[List.drop_eq_getElem_cons h];rfl
theorem WJ {α:Type} {p:α→Bool} {xs:List α} {j:Nat} (h:xs.length≤j):G8 p (xs.drop j) j= -1:=by rw[List.drop_eq_nil_of_le h];rfl
theorem Vt {α:Type} {p:α→Bool}:∀ {xs:List α} {i:Int},0≤i→(0≤G8 p xs i)=(xs.any p=true)
 | [],i,_=>by simp[G8]
 | x::r,i,h=>by
  by_cases hp:p x=true
  ·simp[G8,hp,h]
  ·have:=Vt (p:=p) (xs:=r) (i:=i+1) (by omega)
   simp[G8,hp]at *
   exact this
def MR (caps:List V):Prop:=(∀(H:Hp) (n:Nat),Jv H n (caps.map fun v=>(false,v))=some [])∧(∀(H Hr:Hp) (n:Nat),Ie H Hr n (caps.map fun v=>(false,v))=some caps)∧∀H:Hp,AsS H caps=some caps
theorem Gp:MR []:=⟨fun _ _=>rfl,fun _ _ _=>rfl,fun _=>rfl⟩
theorem ZX {v:V} {r:List V} (hv:∀H,ro H v=some v) (hv2:∀H,ro2 H v=some v) (h:MR r):MR (v::r):=
 ⟨fun H n=>h.1 H n,fun H Hr n=>by simp only[List.map_cons,Ie,hv,h.2.1],fun H=>by simp only[AsS,hv2,h.2.2]⟩
theorem Aet {a:Int} {r:List V} (h:MR r):MR (.rptr 1 [.sc (.int .i64 a)] 0::r):=ZX (fun H=>by simp) (fun H=>by simp) h
abbrev U2 (D:Dn) (R:Rel):Prop:=∀(xs:List Int) (g:Nat) (caps:List V) (p:Int→Bool),xs.length≤maxLen→MR caps→(∀x:Int,D g (I x::caps) [] (B (p x)) [])→
 R [.sl 1 1 xs.length (ints xs),.fn g caps] [] (I (G8 p xs 0)) []
theorem ArO (D:Dn):U2 D (Body D FC):=by
 intro xs g caps p hl hc hp
 unfold maxLen at hl
 simp -implicitDefEqProofs
 refine Af (fun k s=>∃j,j+k=xs.length∧G8 p xs 0=G8 p (xs.drop j) j∧s=⟨[.sl 1 1 xs.length (ints xs),.fn g caps,.undef,.undef,.sc (.int .i64 xs.length),.sc (.int .i64 j),.undef,.undef],[]⟩) ?_ xs.length _ ⟨0,by simp,by simp,by simp⟩
 intro k s ⟨j,hj,hi,hs⟩
 subst hs
 by_cases hjn:j<xs.length
 ·have hw:IntKind.i64.wrap ((j:Int)+1)=(j+1:Nat):=by rw[Ab (by omega) (by omega)];simp
  rw[T9 hjn]at hi
  simp -implicitDefEqProofs [hjn,hc.1,hc.2.1]
  refine Aa (hp xs[j]) ?_
  by_cases he:p xs[j]=true
  ·rw[if_pos he]at hi
   simp -implicitDefEqProofs [he,hi]
  ·rw[if_neg he]at hi
   simp -implicitDefEqProofs [he]
   exact⟨k-1,by omega,j+1,by omega,by simpa using hi,by simp[hw]⟩
 ·rw[WJ (by omega)]at hi
  simp -implicitDefEqProofs [hjn,hi]
abbrev J2 (D:Dn) (R:Rel):Prop:=∀(xs:List Int) (g:Nat) (caps:List V) (p:Int→Bool),xs.length≤maxLen→MR caps→(∀x:Int,D g (I x::caps) [] (B (p x)) [])→
 R [.sl 1 1 xs.length (ints xs),.fn g caps] [] (B (xs.any p)) []
theorem AjC (D:Dn) (hI:U2 D (D O1)):J2 D (Body D ER):=by
 intro xs g caps p hl hc hp
 simp -implicitDefEqProofs [hc.2.2]
 refine Aa (hI xs g caps p hl hc hp) ?_
 have e:decide (0≤G8 p xs 0)=xs.any p:=by rw[Bool.eq_iff_iff];simp only[decide_eq_true_eq];rw[Vt (by omega)]
 simp -implicitDefEqProofs [e]
def allIn (xs:List Int) (lo hi:Int):Bool:=xs.all fun x=>decide (InR x lo hi)
abbrev II (R:Rel):Prop:=∀(xs:List Int) (lo hi:Int),xs.length≤maxLen→R [.sl 1 1 xs.length (ints xs),I lo,I hi] [] (B (allIn xs lo hi)) []
abbrev PZ (R:Rel):Prop:=∀(x lo hi:Int),R [I x,.rptr 1 [I lo] 0,.rptr 1 [I hi] 0] [] (B (!decide (InR x lo hi))) []
theorem Ald (D:Dn) (hI:Uk (D Cj)):PZ (Body D Kz):=by
 intro x lo hi
 simp -implicitDefEqProofs
 refine Aa (hI _ _ _) ?_
 simp -implicitDefEqProofs
theorem Aox (D:Dn) (h1:PZ (D Zx)) (hC:J2 D (D GJ)):II (Body D NC):=by
 intro xs lo hi hl
 simp -implicitDefEqProofs
 refine Aa (hC xs 266 _ (fun x=> !decide (InR x lo hi)) hl (Aet (Aet Gp)) (fun x=>h1 x lo hi)) ?_
 have e:(xs.any fun x=> !decide (InR x lo hi))= !allIn xs lo hi:=by unfold allIn;rw[List.all_eq_not_any_not];simp
 generalize(xs.any fun x=> !decide (InR x lo hi))=b at e⊢
 subst e
 simp -implicitDefEqProofs
end Go.Eng.T
namespace Go.Eng.T
set_option maxRecDepth 20000
abbrev Rp (a b c:Int):Prop:=b≤a∧a≤c
def ND (xs:List Int) (j:Nat):Bool:=(List.range j).all fun i=>decide (Rp (xs.getD i 0) 1 100)&&(decide (i=0)||decide (xs.getD (i-1) 0<xs.getD i 0))
theorem Wt (xs:List Int) (j:Nat):ND xs (j+1)=(ND xs j&&(decide (Rp (xs.getD j 0) 1 100)&&(decide (j=0)||decide (xs.getD (j-1) 0<xs.getD j 0)))):=by
 unfold ND
 rw[List.range_succ,List.all_append]
 simp
theorem Abb {xs:List Int} {j:Nat} (h:j<xs.length) (hn:ND xs (j+1)=false):ND xs xs.length=false:=by
 have:∀n,ND xs (j+1+n)=false:=by
  intro n
  induction n with
  | zero=>exact hn
  | succ n ih=>rw[show j+1+(n+1)=(j+1+n)+1 by omega,Wt,ih];rfl
 have:=this (xs.length-(j+1))
 rwa [show j+1+(xs.length-(j+1))=xs.length by omega]at this
def Ct (r:Ej):Bool:=
 ND r.stages r.stages.length&&(decide (Rp r.version 1 9)&&decide (Rp r.stages.length 1 5)&&decide (r.stages.getD (r.stages.length-1) 0=100)&&decide (Rp r.pos 0 (r.stages.length-1)))
abbrev I6 (R:Rel):Prop:=∀r:Ej,r.stages.length≤4194304→R [arg (Ga r)] [] (B (Ct r)) []
theorem getD_at {xs:List Int} {j:Nat} (h:j<xs.length):xs.getD j 0=xs[j]:=by simp[h]
theorem An9 (D:Dn) (hI:Uk (D Dk)):I6 (Body D OV):=by
 intro r hl
 simp -implicitDefEqProofs
 refine Af (fun k s=>∃j,j+k=r.stages.length∧ND r.stages j=true∧s=⟨[.undef,.ptr 0 0,.undef,.sc (.int .i64 j),.undef,.undef],[.var ((Ga r).map (Bc 1))]⟩) ?_ r.stages.length _ ⟨0,by simp,by simp[ND],by simp⟩
 intro k s ⟨j,hj,hr,hs⟩
 subst hs
 by_cases hjn:j<r.stages.length
 ·have hw:IntKind.i64.wrap ((j:Int)+1)=(j+1:Nat):=by rw[Ab (by omega) (by omega)];simp
  have hst:=Wt r.stages j
  rw[hr,Bool.true_and,getD_at hjn]at hst
  simp -implicitDefEqProofs [hjn]
  refine Aa (hI _ _ _) ?_
  by_cases h1:Rp r.stages[j] 1 100
  rotate_left
  ·have e:Ct r=false:=by unfold Ct;rw[Abb hjn (by rw[hst];simp[h1])];rfl
   simp -implicitDefEqProofs [h1,e]
  by_cases h0:j=0
  ·subst h0
   simp -implicitDefEqProofs [h1]
   exact⟨k-1,by omega,1,by omega,by rw[hst];simp[h1],by simpa using hw⟩
  ·have hp:((j-1:Nat):Int)=(j:Int)-1:=by omega
   have hw2:IntKind.i64.wrap ((j:Int)-1)=((j-1:Nat):Int):=by rw[Ab (by omega) (by omega)];omega
   have h2:(0:Int)<j:=by omega
   have h2':0<j:=by omega
   have h3:j-1<r.stages.length:=by omega
   rw[getD_at h3]at hst
   by_cases h4:r.stages[j-1]<r.stages[j]
   ·have h4':¬r.stages[j]≤r.stages[j-1]:=by omega
    simp -implicitDefEqProofs [h1,h2,h2',hw2,h3,hjn,h4']
    exact⟨k-1,by omega,j+1,by omega,by rw[hst];simp[h1,h0,h4],by simp[hw]⟩
   ·have e:Ct r=false:=by unfold Ct;rw[Abb hjn (by rw[hst];simp[h1,h0,h4])];rfl
    have h4':r.stages[j]≤r.stages[j-1]:=by omega
    simp -implicitDefEqProofs [h1,h2,h2',hw2,h3,hjn,h4',e]
 ·obtain rfl:j=r.stages.length:=by omega
  simp -implicitDefEqProofs
  refine Aa (hI _ _ _) ?_
  by_cases h1:Rp r.version 1 9
  rotate_left
  ·simp -implicitDefEqProofs [h1,Ct]
  simp -implicitDefEqProofs [h1]
  refine Aa (hI _ _ _) ?_
  by_cases h2:Rp r.stages.length 1 5
  rotate_left
  ·simp -implicitDefEqProofs [h2,Ct]
  have hw2:IntKind.i64.wrap ((r.stages.length:Int)-1)=((r.stages.length-1:Nat):Int):=by rw[Ab (by omega) (by omega)];omega
  have h3:r.stages.length-1<r.stages.length:=by omega
  have h5:0<r.stages.length:=by omega
  by_cases h4:r.stages[r.stages.length-1]=100
  rotate_left
  ·simp -implicitDefEqProofs [h2,hw2,h3,h4,h5,Ct]
  simp -implicitDefEqProofs [h2,hw2,h3,h4,h5]
  refine Aa (hI _ _ _) ?_
  have hc:((r.stages.length-1:Nat):Int)=(r.stages.length:Int)-1:=by omega
  have e:Ct r=decide (Rp r.pos 0 ((r.stages.length-1:Nat):Int)):=by unfold Ct;rw[hr,getD_at h3,h4,hc];simp[h1,h2]
  simp -implicitDefEqProofs [e]
theorem AoB (D:Dn) (hI:Uk (D Cj)):I6 (Body D Pm):=by
 intro r hl
 simp -implicitDefEqProofs
 refine Af (fun k s=>∃j v3 v4,j+k=r.stages.length∧ND r.stages j=true∧s=⟨[.undef,.ptr 0 0,.undef,v3,v4,.sl 1 1 r.stages.length (ints r.stages),.sc (.int .i64 r.stages.length),.sc (.int .i64 j),.undef,.undef],[.var ((Ga r).map (Bc 1))]⟩) ?_ r.stages.length _ ⟨0,.undef,.undef,by simp,by simp[ND],by simp⟩
 intro k s ⟨j,v3,v4,hj,hr,hs⟩
 subst hs
 by_cases hjn:j<r.stages.length
 ·have hw:IntKind.i64.wrap ((j:Int)+1)=(j+1:Nat):=by rw[Ab (by omega) (by omega)];simp
  have hst:=Wt r.stages j
  rw[hr,Bool.true_and,getD_at hjn]at hst
  simp -implicitDefEqProofs [hjn]
  refine Aa (hI _ _ _) ?_
  by_cases h1:Rp r.stages[j] 1 100
  rotate_left
  ·have e:Ct r=false:=by unfold Ct;rw[Abb hjn (by rw[hst];simp[h1])];rfl
   simp -implicitDefEqProofs [h1,e]
  by_cases h0:j=0
  ·subst h0
   simp -implicitDefEqProofs [h1]
   exact⟨k-1,by omega,1,by omega,by rw[hst];simp[h1],by simpa using hw⟩
  ·have hp:((j-1:Nat):Int)=(j:Int)-1:=by omega
   have hw2:IntKind.i64.wrap ((j:Int)-1)=((j-1:Nat):Int):=by rw[Ab (by omega) (by omega)];omega
   have h2:(0:Int)<j:=by omega
   have h2':0<j:=by omega
   have h3:j-1<r.stages.length:=by omega
   rw[getD_at h3]at hst
   by_cases h4:r.stages[j-1]<r.stages[j]
   ·have h4':¬r.stages[j]≤r.stages[j-1]:=by omega
    simp -implicitDefEqProofs [h1,h2,h2',hw2,h3,hjn,h4']
    exact⟨k-1,by omega,j+1,by omega,by rw[hst];simp[h1,h0,h4],by simp[hw]⟩
   ·have e:Ct r=false:=by unfold Ct;rw[Abb hjn (by rw[hst];simp[h1,h0,h4])];rfl
    have h4':r.stages[j]≤r.stages[j-1]:=by omega
    simp -implicitDefEqProofs [h1,h2,h2',hw2,h3,hjn,h4',e]
 ·obtain rfl:j=r.stages.length:=by omega
  simp -implicitDefEqProofs
  refine Aa (hI _ _ _) ?_
  by_cases h1:Rp r.version 1 9
  rotate_left
  ·simp -implicitDefEqProofs [h1,Ct]
  simp -implicitDefEqProofs [h1]
  refine Aa (hI _ _ _) ?_
  by_cases h2:Rp r.stages.length 1 5
  rotate_left
  ·simp -implicitDefEqProofs [h2,Ct]
  have hw2:IntKind.i64.wrap ((r.stages.length:Int)-1)=((r.stages.length-1:Nat):Int):=by rw[Ab (by omega) (by omega)];omega
  have h3:r.stages.length-1<r.stages.length:=by omega
  have h5:0<r.stages.length:=by omega
  by_cases h4:r.stages[r.stages.length-1]=100
  rotate_left
  ·simp -implicitDefEqProofs [h2,hw2,h3,h4,h5,Ct]
  simp -implicitDefEqProofs [h2,hw2,h3,h4,h5]
  refine Aa (hI _ _ _) ?_
  have hc:((r.stages.length-1:Nat):Int)=(r.stages.length:Int)-1:=by omega
  have e:Ct r=decide (Rp r.pos 0 ((r.stages.length-1:Nat):Int)):=by unfold Ct;rw[hr,getD_at h3,h4,hc];simp[h1,h2]
  simp -implicitDefEqProofs [e]
def Kr (a b:Int):Int:=if Rp a 0 1000000000000∧Rp b 1 1000000000000 then(a+b-1).tdiv b else 0
abbrev Oq (R:Rel):Prop:=∀a b:Int,R [I a,I b] [] (I (Kr a b)) []
theorem AqC {a b:Int} (h1:0≤a) (h2:a≤4000000000000) (h3:1≤b):IntKind.i64.wrap (a.tdiv b)=a.tdiv b:=by
 have a1:0≤a.tdiv b:=Int.tdiv_nonneg h1 (by omega)
 have a2:a.tdiv b≤a:=Int.tdiv_le_self _ h1
 exact Ab (by omega) (by omega)
theorem At0 (D:Dn) (hI:Uk (D Dk)):Oq (Body D SV):=by
 intro a b
 simp -implicitDefEqProofs
 refine Aa (hI _ _ _) ?_
 by_cases h1:Rp a 0 1000000000000
 rotate_left
 ·simp -implicitDefEqProofs [h1,Kr]
 simp -implicitDefEqProofs [h1]
 refine Aa (hI _ _ _) ?_
 by_cases h2:Rp b 1 1000000000000
 rotate_left
 ·simp -implicitDefEqProofs [h2,Kr]
 have w1:IntKind.i64.wrap (a+b)=a+b:=Ab (by omega) (by omega)
 have w2:IntKind.i64.wrap (a+b-1)=a+b-1:=Ab (by omega) (by omega)
 have w3:=AqC (a:=a+b-1) (b:=b) (by omega) (by omega) (by omega)
 have h0:¬b=0:=by omega
 have e:Kr a b=(a+b-1).tdiv b:=by unfold Kr;rw[if_pos ⟨h1,h2⟩]
 simp -implicitDefEqProofs [h2,w1,w2,w3,h0,e]
theorem Atk (D:Dn) (hI:Uk (D Cj)):Oq (Body D Sw):=by
 intro a b
 simp -implicitDefEqProofs
 refine Aa (hI _ _ _) ?_
 by_cases h1:Rp a 0 1000000000000
 rotate_left
 ·simp -implicitDefEqProofs [h1,Kr]
 simp -implicitDefEqProofs [h1]
 refine Aa (hI _ _ _) ?_
 by_cases h2:Rp b 1 1000000000000
 rotate_left
 ·simp -implicitDefEqProofs [h2,Kr]
 have w1:IntKind.i64.wrap (a+b)=a+b:=Ab (by omega) (by omega)
 have w2:IntKind.i64.wrap (a+b-1)=a+b-1:=Ab (by omega) (by omega)
 have w3:=AqC (a:=a+b-1) (b:=b) (by omega) (by omega) (by omega)
 have h0:¬b=0:=by omega
 have e:Kr a b=(a+b-1).tdiv b:=by unfold Kr;rw[if_pos ⟨h1,h2⟩]
 simp -implicitDefEqProofs [h2,w1,w2,w3,h0,e]
end Go.Eng.T
namespace Go.Eng.T
set_option maxRecDepth 20000
theorem Azz {xs:List Int} {n:Nat} (h:ND xs n=true) {i:Nat} (hi:i<n):Rp (xs.getD i 0) 1 100:=by
 unfold ND at h
 have:=List.all_eq_true.1 h i (List.mem_range.2 hi)
 simp at this
 exact⟨this.1.1,this.1.2⟩
theorem Ap1 {r:Ej} (h:Ct r=true):0≤r.pos∧r.pos<r.stages.length∧r.stages.length≤5∧Rp (r.stages.getD r.pos.toNat 0) 1 100:=by
 unfold Ct at h
 simp only[Bool.and_eq_true,decide_eq_true_eq]at h
 obtain⟨h1,⟨⟨h2,h3⟩,h4⟩,h5⟩:=h
 refine⟨h5.1,by omega,by omega,Azz h1 (by omega)⟩
def countIn (r:Ej) (n:Int):Int:=if Ct r=true∧r.off=false∧Rp n 0 10000 then Kr (n*r.stages.getD r.pos.toNat 0) 100 else 0
abbrev Oy (R:Rel):Prop:=∀(r:Ej) (n:Int),r.stages.length≤4194304→R [arg (Ga r),I n] [] (I (countIn r n)) []
theorem AuQ {n x:Int} (h1:Rp n 0 10000) (h2:Rp x 1 100):IntKind.i64.wrap (n*x)=n*x:=by
 have a1:0≤n*x:=Int.mul_nonneg h1.1 (by omega)
 have a2:n*x≤10000*100:=Int.mul_le_mul h1.2 h2.2 (by omega) (by omega)
 exact Ab (by omega) (by omega)
theorem Auo (D:Dn) (hR:I6 (D Agw)) (hI:Uk (D Dk)) (hC:Oq (D AlP)):Oy (Body D SK):=by
 intro r n hl
 simp -implicitDefEqProofs
 refine Aa (hR r hl) ?_
 by_cases h1:Ct r=true
 rotate_left
 ·simp -implicitDefEqProofs [h1,countIn]
 by_cases h2:r.off=true
 ·simp -implicitDefEqProofs [h1,h2,countIn]
 simp -implicitDefEqProofs [h1,h2]
 refine Aa (hI _ _ _) ?_
 by_cases h3:Rp n 0 10000
 rotate_left
 ·simp -implicitDefEqProofs [h3,countIn]
 obtain⟨p1,p2,p3,p4⟩:=Ap1 h1
 obtain⟨q,hq⟩:∃q:Nat,r.pos=q:=⟨r.pos.toNat,by omega⟩
 have hq2:q<r.stages.length:=by omega
 have e:countIn r n=Kr (n*r.stages[q]) 100:=by unfold countIn;rw[if_pos ⟨h1,by simpa using h2,h3⟩,hq];simp[hq2]
 have p4':Rp r.stages[q] 1 100:=by rw[hq]at p4;simpa[hq2]using p4
 have hw:=AuQ h3 p4'
 simp -implicitDefEqProofs [h3,hq,hq2,hw]
 refine Aa (hC _ _) ?_
 simp -implicitDefEqProofs [e]
theorem As6 (D:Dn) (hR:I6 (D Afm)) (hI:Uk (D Cj)) (hC:Oq (D AlO)):Oy (Body D SN):=by
 intro r n hl
 simp -implicitDefEqProofs
 refine Aa (hR r hl) ?_
 by_cases h1:Ct r=true
 rotate_left
 ·simp -implicitDefEqProofs [h1,countIn]
 by_cases h2:r.off=true
 ·simp -implicitDefEqProofs [h1,h2,countIn]
 simp -implicitDefEqProofs [h1,h2]
 refine Aa (hI _ _ _) ?_
 by_cases h3:Rp n 0 10000
 rotate_left
 ·simp -implicitDefEqProofs [h3,countIn]
 obtain⟨p1,p2,p3,p4⟩:=Ap1 h1
 obtain⟨q,hq⟩:∃q:Nat,r.pos=q:=⟨r.pos.toNat,by omega⟩
 have hq2:q<r.stages.length:=by omega
 have e:countIn r n=Kr (n*r.stages[q]) 100:=by unfold countIn;rw[if_pos ⟨h1,by simpa using h2,h3⟩,hq];simp[hq2]
 have p4':Rp r.stages[q] 1 100:=by rw[hq]at p4;simpa[hq2]using p4
 have hw:=AuQ h3 p4'
 simp -implicitDefEqProofs [h3,hq,hq2,hw]
 refine Aa (hC _ _) ?_
 simp -implicitDefEqProofs [e]
def isIn (r:Ej) (i n:Int):Bool:=decide (0≤i)&&decide (i<n)&&decide (i<countIn r n)
abbrev Ae2 (R:Rel):Prop:=∀(r:Ej) (i n:Int),r.stages.length≤4194304→R [arg (Ga r),I i,I n] [] (B (isIn r i n)) []
theorem AB8 (D:Dn) (hC:Oy (D AkY)):Ae2 (Body D Aak):=by
 intro r i n hl
 by_cases h1:0≤i
 ·by_cases h2:i<n
  ·simp -implicitDefEqProofs [h1,h2]
   refine Aa (hC r n hl) ?_
   simp -implicitDefEqProofs [isIn,h1,h2]
  ·simp -implicitDefEqProofs [h1,h2,isIn]
 ·simp -implicitDefEqProofs [h1,isIn]
theorem ACY (D:Dn) (hC:Oy (D Aly)):Ae2 (Body D Z7):=by
 intro r i n hl
 by_cases h1:0≤i
 ·by_cases h2:i<n
  ·simp -implicitDefEqProofs [h1,h2]
   refine Aa (hC r n hl) ?_
   simp -implicitDefEqProofs [isIn,h1,h2]
  ·simp -implicitDefEqProofs [h1,h2,isIn]
 ·simp -implicitDefEqProofs [h1,isIn]
abbrev XH (R:Rel):Prop:=∀(w:World) (i:Int),w.ends.length≤4194304→R [arg (Gd w),I i] [] (B (decide (Rp i 0 ((w.ends.length:Int)-1)))) []
theorem AzT (D:Dn) (hI:Uk (D Cj)):XH (Body D UE):=by
 intro w i hl
 have hw:IntKind.i64.wrap ((w.ends.length:Int)-1)=(w.ends.length:Int)-1:=Ab (by omega) (by omega)
 simp -implicitDefEqProofs [hw]
 refine Aa (hI _ _ _) ?_
 simp -implicitDefEqProofs
def Ko (w:World) (i:Int):Bool:=decide (Rp i 0 ((w.ends.length:Int)-1))&&isIn w.rollout i w.ends.length&&(match w.ends[i.toNat]? with | some e=>decide (w.rollout.version∈e.versions) | none=>false)
theorem AeY {w:World} (h:AY w≤4194304) {j:Nat} (hj:j<w.ends.length):w.ends[j].versions.length≤maxLen:=by
 have:=size_at (f:=Ae) hj
 have e:Ae w.ends[j]=w.ends[j].versions.length+w.ends[j].tags.length+BB BP w.ends[j].path:=rfl
 unfold AY at h
 unfold maxLen;omega
theorem Aij {w:World} (h:AY w≤4194304):w.rollout.stages.length≤4194304:=by unfold AY Bd at h;omega
abbrev Oo (R:Rel):Prop:=∀(w:World) (i:Int),AY w≤4194304→R [arg (Gd w),I i] [] (B (Ko w i)) []
theorem Atv (D:Dn) (hI:Uk (D Dk)) (hN:Ae2 (D As9)) (hH:QA (D IZ)):Oo (Body D SG):=by
 intro w i hsz
 have hl:=Hq hsz
 have hw:IntKind.i64.wrap ((w.ends.length:Int)-1)=(w.ends.length:Int)-1:=Ab (by omega) (by omega)
 simp -implicitDefEqProofs [hw]
 refine Aa (hI _ _ _) ?_
 by_cases h1:Rp i 0 ((w.ends.length:Int)-1)
 rotate_left
 ·simp -implicitDefEqProofs [h1,Ko]
 simp -implicitDefEqProofs [h1]
 refine Aa (hN w.rollout _ _ (Aij hsz)) ?_
 by_cases h2:isIn w.rollout i w.ends.length=true
 rotate_left
 ·simp -implicitDefEqProofs [h2,Ko]
 obtain⟨j,rfl⟩:∃j:Nat,i=j:=⟨i.toNat,by omega⟩
 have hj:j<w.ends.length:=by omega
 simp -implicitDefEqProofs [h2,hj]
 refine Aa (hH _ _ (AeY hsz hj)) ?_
 simp -implicitDefEqProofs [Ko,h1,h2,hj]
theorem Atu (D:Dn) (hE:XH (D UM)) (hN:Ae2 (D Aub)) (hH:QA (D Bv)):Oo (Body D Te):=by
 intro w i hsz
 have hl:=Hq hsz
 simp -implicitDefEqProofs
 refine Aa (hE w i hl) ?_
 by_cases h1:Rp i 0 ((w.ends.length:Int)-1)
 rotate_left
 ·simp -implicitDefEqProofs [h1,Ko]
 simp -implicitDefEqProofs [h1]
 refine Aa (hN w.rollout _ _ (Aij hsz)) ?_
 by_cases h2:isIn w.rollout i w.ends.length=true
 rotate_left
 ·simp -implicitDefEqProofs [h2,Ko]
 obtain⟨j,rfl⟩:∃j:Nat,i=j:=⟨i.toNat,by omega⟩
 have hj:j<w.ends.length:=by omega
 simp -implicitDefEqProofs [h2,hj]
 refine Aa (hH _ _ (AeY hsz hj)) ?_
 simp -implicitDefEqProofs [Ko,h1,h2,hj]
end Go.Eng.T
namespace Go.Eng.T
set_option maxRecDepth 20000
abbrev Jq (R:Rel):Prop:=∀r:Ej,Bd r≤4194304→R [arg (Ga r)] [] (.agg (Ga r)) []
theorem AwL (D:Dn):Jq (Body D Sc):=by
 intro r h
 have hb:r.stages.length*8≤1099511627776:=by unfold Bd at h;omega
 simp -implicitDefEqProofs [hb]
theorem Amh (D:Dn):Jq (Body D Lx):=by
 intro r h
 have hb:r.stages.length*8≤1099511627776:=by unfold Bd at h;omega
 simp -implicitDefEqProofs [hb]
abbrev Ij (R:Rel):Prop:=∀d:BO,Aj d≤4194304→R [arg (Ao d)] [] (.agg (Ao d)) []
theorem AqG (D:Dn):Ij (Body D OJ):=by
 intro d h
 unfold Aj Ed at h
 have h1:d.deal.tags.length*8≤1099511627776:=by omega
 have h2:d.up.length*8≤1099511627776:=by omega
 simp -implicitDefEqProofs [h1,h2]
theorem AnY (D:Dn):Ij (Body D Nl):=by
 intro d h
 unfold Aj Ed at h
 have h1:d.deal.tags.length*8≤1099511627776:=by omega
 have h2:d.up.length*8≤1099511627776:=by omega
 simp -implicitDefEqProofs [h1,h2]
theorem KX {α:Type} {f:α→List V} {xs:List α} {j:Nat} (h:j<xs.length):(xs.take j).flatMap f++f xs[j]=(xs.take (j+1)).flatMap f:=by
 have e:xs.take (j+1)=xs.take j++ [xs[j]]:=by simp
 rw[e,List.flatMap_append];simp
abbrev Ahp (R:Rel):Prop:=∀xs:List FI,BB BP xs≤4194304→R [.sl 1 4 xs.length (xs.flatMap Cn)] [] (.sl 0 4 xs.length (xs.flatMap Cn)) []
theorem Auk (D:Dn):Ahp (Body D Q6):=by
 intro xs h
 have hlen:=Gb (f:=BP) (xs:=xs)
 simp -implicitDefEqProofs
 refine Af (fun k s=>∃j o1 o2 o3 o4 o5 o6 o7,j+k=xs.length∧s=⟨[.undef,.undef,.arr 8,.undef,.sl 1 4 xs.length (xs.flatMap Cn),.sc (.int .i64 xs.length),.sc (.int .i64 j),.undef],[.free,o1,o2,o3,o4,o5,o6,o7,.arr 4 0 j ((xs.take j).flatMap Cn)]⟩) ?_ xs.length _ ⟨0,.free,.free,.free,.free,.free,.free,.free,by simp,by simp⟩
 intro k s ⟨j,o1,o2,o3,o4,o5,o6,o7,hj,hs⟩
 subst hs
 by_cases hjn:j<xs.length
 ·have hw:IntKind.i64.wrap ((j:Int)+1)=(j+1:Nat):=by rw[Ab (by omega) (by omega)];simp
  have hsz:=size_at (f:=BP) hjn
  have e:BP xs[j]=xs[j].drops.length+xs[j].strips.length:=rfl
  have h1:xs[j].drops.length*8≤1099511627776:=by omega
  have h2:xs[j].strips.length*8≤1099511627776:=by omega
  have h3:(j+1)*64≤1099511627776:=by omega
  have hst:=KX (f:=Cn) hjn
  simp -implicitDefEqProofs [hjn,h1,h2,h3]
  exact⟨k-1,by omega,j+1,by omega,by simp[hw],rfl,by rw[←hst];rfl⟩
 ·obtain rfl:j=xs.length:=by omega
  simp -implicitDefEqProofs
abbrev Hg (R:Rel):Prop:=∀x:AQ,Ae x≤4194304→R [arg (Ah x)] [] (.agg (Ah x)) []
theorem Ahx (D:Dn) (hP:Ahp (D Akk)):Hg (Body D Kw):=by
 intro x h
 unfold Ae at h
 have h1:x.versions.length*8≤1099511627776:=by omega
 have h2:x.tags.length*8≤1099511627776:=by omega
 simp -implicitDefEqProofs [h1,h2]
 refine Aa (hP x.path (by omega)) ?_
 simp -implicitDefEqProofs
theorem Azc (D:Dn):Hg (Body D Vo):=by
 intro x h
 unfold Ae at h
 have h1:x.versions.length*8≤1099511627776:=by omega
 have h2:x.tags.length*8≤1099511627776:=by omega
 have hlen:=Gb (f:=BP) (xs:=x.path)
 simp -implicitDefEqProofs [h1,h2]
 refine Af (fun k s=>∃j o7 o8 o9 o10 o11 o12 o13,j+k=x.path.length∧s=⟨[.undef,.ptr 0 0,.ptr 1 0,.ptr 6 0,.sc (.int .i64 j),.undef,.undef],[.var ((Ah x).map (Bc 1)),.var [.nil 1,.nil 1,.nil 4,.sc (.int .i64 0)],.dead,.arr 1 0 x.versions.length (ints x.versions),.dead,.arr 1 0 x.tags.length (ints x.tags),.var [.arr 3,.arr 5,.arr 14,.sc (.int .i64 x.cls)],o7,o8,o9,o10,o11,o12,o13,.arr 4 0 j ((x.path.take j).flatMap Cn)]⟩) ?_ x.path.length _ ⟨0,.free,.free,.free,.free,.free,.free,.free,by simp,by simp⟩
 intro k s ⟨j,o7,o8,o9,o10,o11,o12,o13,hj,hs⟩
 subst hs
 by_cases hjn:j<x.path.length
 ·have hw:IntKind.i64.wrap ((j:Int)+1)=(j+1:Nat):=by rw[Ab (by omega) (by omega)];simp
  have hsz:=size_at (f:=BP) hjn
  have e:BP x.path[j]=x.path[j].drops.length+x.path[j].strips.length:=rfl
  have h1:x.path[j].drops.length*8≤1099511627776:=by omega
  have h2:x.path[j].strips.length*8≤1099511627776:=by omega
  have h3:(j+1)*64≤1099511627776:=by omega
  have hst:=KX (f:=Cn) hjn
  simp -implicitDefEqProofs [hjn,h1,h2,h3]
  exact⟨k-1,by omega,j+1,by omega,by simp[hw],rfl,by rw[←hst];rfl⟩
 ·obtain rfl:j=x.path.length:=by omega
  simp -implicitDefEqProofs
end Go.Eng.T
namespace Go.Eng.T
set_option maxRecDepth 20000
theorem AeE {w:World} (h:AY w≤4194304):Bd w.rollout≤4194304:=by unfold AY at h;omega
theorem TT {w:World} (h:AY w≤4194304):w.server.length≤4194304∧w.tags.length≤4194304∧BB Ae w.ends≤4194304∧BB Aj w.stage≤4194304∧BB Ay w.log≤4194304:=by unfold AY at h;omega
abbrev Og (R:Rel):Prop:=∀w:World,AY w≤4194304→R [arg (Gd w)] [] (.agg (Gd w)) []
theorem Av5 (D:Dn) (hE:Hg (D Apo)) (hR:Jq (D AkF)) (hD:Ij (D VB)):Og (Body D SE):=by
 intro w h
 have hl:=AmP h
 have he:=Hq h
 have hs:=AeS h
 have hr:=AeE h
 have z:=TT h
 have b1:w.server.length*8≤1099511627776:=by omega
 have b2:w.tags.length*8≤1099511627776:=by omega
 simp -implicitDefEqProofs [b1,b2]
 refine Af (fun k s=>∃j o8 o9 o10 o11 o12,j+k=w.ends.length∧s=⟨[.undef,.ptr 0 0,.ptr 1 0,.ptr 2 0,.sc (.int .i64 j),.undef,.undef,.undef,.undef,.undef],[.var ((Gd w).map (Bc 1)),.var [.nil 1,.nil 1,.sc (.int .i64 0),.nil 4,.sc (.int .i64 0),.nil 1,.sc (.int .i64 0),.sc (.bool false),.sc (.int .i64 0),.sc (.int .i64 0),.nil 5,.nil 8,.sc (.int .i64 0),.sc (.int .i64 0),.sc (.int .i64 0)],.var [.arr 4,.arr 6,.sc (.int .i64 w.key),.arr 24,.sc (.int .i64 w.rollout.version),.sl 1 1 w.rollout.stages.length (ints w.rollout.stages),.sc (.int .i64 w.rollout.pos),.sc (.bool w.rollout.off),.sc (.int .i64 w.least),.sc (.int .i64 w.percent),.sl 1 5 w.stage.length (w.stage.flatMap Ao),.sl 1 8 w.log.length (w.log.flatMap Am),.sc (.int .i64 w.now),.sc (.int .i64 w.hurt),.sc (.int .i64 w.reached)],.dead,.arr 1 0 w.server.length (ints w.server),.dead,.arr 1 0 w.tags.length (ints w.tags),.free,o8,o9,o10,o11,o12,.free,.free,.free,.free,.free,.free,.free,.free,.free,.free,.free,.arr 4 0 j ((w.ends.take j).flatMap Ah),.free,.free]⟩) ?_ w.ends.length _ ⟨0,by simp⟩
 intro k s ⟨j,o8,o9,o10,o11,o12,hj,hs'⟩
 subst hs'
 by_cases hjn:j<w.ends.length
 ·have hw:IntKind.i64.wrap ((j:Int)+1)=(j+1:Nat):=by rw[Ab (by omega) (by omega)];simp
  have hsz:=size_at (f:=Ae) hjn
  have h3:(j+1)*80≤1099511627776:=by omega
  have hst:=KX (f:=Ah) hjn
  simp -implicitDefEqProofs [hjn]
  refine Aa (hE w.ends[j] (by first | omega | (simp only[Ay]at hsz;omega))) ?_
  simp -implicitDefEqProofs [hjn,h3]
  exact⟨k-1,by omega,j+1,by omega,by simp[hw],rfl,by rw[←hst];rfl⟩
 obtain rfl:j=w.ends.length:=by omega
 simp -implicitDefEqProofs
 refine Aa (hR w.rollout hr) ?_
 simp -implicitDefEqProofs
 refine Af (fun k s=>∃j o8 o9 o10 o11 o12 o15 o16 o17 o18,j+k=w.stage.length∧s=⟨[.undef,.ptr 0 0,.ptr 1 0,.ptr 2 0,.undef,.sc (.int .i64 j),.undef,.undef,.undef,.undef],[.var ((Gd w).map (Bc 1)),.var [.nil 1,.nil 1,.sc (.int .i64 0),.nil 4,.sc (.int .i64 0),.nil 1,.sc (.int .i64 0),.sc (.bool false),.sc (.int .i64 0),.sc (.int .i64 0),.nil 5,.nil 8,.sc (.int .i64 0),.sc (.int .i64 0),.sc (.int .i64 0)],.var [.arr 4,.arr 6,.sc (.int .i64 w.key),.arr 24,.sc (.int .i64 w.rollout.version),.arr 13,.sc (.int .i64 w.rollout.pos),.sc (.bool w.rollout.off),.sc (.int .i64 w.least),.sc (.int .i64 w.percent),.arr 25,.sl 1 8 w.log.length (w.log.flatMap Am),.sc (.int .i64 w.now),.sc (.int .i64 w.hurt),.sc (.int .i64 w.reached)],.dead,.arr 1 0 w.server.length (ints w.server),.dead,.arr 1 0 w.tags.length (ints w.tags),.free,o8,o9,o10,o11,o12,.arr 1 0 w.rollout.stages.length (ints w.rollout.stages),.free,o15,o16,o17,o18,.free,.free,.free,.free,.free,.arr 4 0 w.ends.length (w.ends.flatMap Ah),.arr 5 0 j ((w.stage.take j).flatMap Ao),.free]⟩) ?_ w.stage.length _ ⟨0,by simp⟩
 intro k s ⟨j,o8,o9,o10,o11,o12,o15,o16,o17,o18,hj,hs'⟩
 subst hs'
 by_cases hjn:j<w.stage.length
 ·have hw:IntKind.i64.wrap ((j:Int)+1)=(j+1:Nat):=by rw[Ab (by omega) (by omega)];simp
  have hsz:=size_at (f:=Aj) hjn
  have h3:(j+1)*72≤1099511627776:=by omega
  have hst:=KX (f:=Ao) hjn
  simp -implicitDefEqProofs [hjn]
  refine Aa (hD w.stage[j] (by first | omega | (simp only[Ay]at hsz;omega))) ?_
  simp -implicitDefEqProofs [hjn,h3]
  exact⟨k-1,by omega,j+1,by omega,by simp[hw],rfl,by rw[←hst];rfl⟩
 obtain rfl:j=w.stage.length:=by omega
 simp -implicitDefEqProofs
 refine Af (fun k s=>∃j o8 o9 o10 o11 o12 o15 o16 o17 o18 o20 o21 o22 o23,j+k=w.log.length∧s=⟨[.undef,.ptr 0 0,.ptr 1 0,.ptr 2 0,.undef,.undef,.sc (.int .i64 j),.undef,.undef,.undef],[.var ((Gd w).map (Bc 1)),.var [.nil 1,.nil 1,.sc (.int .i64 0),.nil 4,.sc (.int .i64 0),.nil 1,.sc (.int .i64 0),.sc (.bool false),.sc (.int .i64 0),.sc (.int .i64 0),.nil 5,.nil 8,.sc (.int .i64 0),.sc (.int .i64 0),.sc (.int .i64 0)],.var [.arr 4,.arr 6,.sc (.int .i64 w.key),.arr 24,.sc (.int .i64 w.rollout.version),.arr 13,.sc (.int .i64 w.rollout.pos),.sc (.bool w.rollout.off),.sc (.int .i64 w.least),.sc (.int .i64 w.percent),.arr 25,.arr 26,.sc (.int .i64 w.now),.sc (.int .i64 w.hurt),.sc (.int .i64 w.reached)],.dead,.arr 1 0 w.server.length (ints w.server),.dead,.arr 1 0 w.tags.length (ints w.tags),.free,o8,o9,o10,o11,o12,.arr 1 0 w.rollout.stages.length (ints w.rollout.stages),.free,o15,o16,o17,o18,.free,o20,o21,o22,o23,.arr 4 0 w.ends.length (w.ends.flatMap Ah),.arr 5 0 w.stage.length (w.stage.flatMap Ao),.arr 8 0 j ((w.log.take j).flatMap Am)]⟩) ?_ w.log.length _ ⟨0,by simp⟩
 intro k s ⟨j,o8,o9,o10,o11,o12,o15,o16,o17,o18,o20,o21,o22,o23,hj,hs'⟩
 subst hs'
 by_cases hjn:j<w.log.length
 ·have hw:IntKind.i64.wrap ((j:Int)+1)=(j+1:Nat):=by rw[Ab (by omega) (by omega)];simp
  have hsz:=size_at (f:=Ay) hjn
  have h3:(j+1)*96≤1099511627776:=by omega
  have hst:=KX (f:=Am) hjn
  simp -implicitDefEqProofs [hjn]
  refine Aa (hD w.log[j].dialed (by first | omega | (simp only[Ay]at hsz;omega))) ?_
  simp -implicitDefEqProofs [hjn,h3]
  exact⟨k-1,by omega,j+1,by omega,by simp[hw],rfl,by rw[←hst];rfl⟩
 obtain rfl:j=w.log.length:=by omega
 simp -implicitDefEqProofs
theorem ApK (D:Dn) (hE:Hg (D Aaa)) (hR:Jq (D Abo)) (hD:Ij (D TP)):Og (Body D OB):=by
 intro w h
 have hl:=AmP h
 have he:=Hq h
 have hs:=AeS h
 have hr:=AeE h
 have z:=TT h
 have b1:w.server.length*8≤1099511627776:=by omega
 have b2:w.tags.length*8≤1099511627776:=by omega
 simp -implicitDefEqProofs [b1,b2]
 refine Aa (hR w.rollout hr) ?_
 simp -implicitDefEqProofs
 refine Af (fun k s=>∃j o8 o9 o10 o11 o12 o13,j+k=w.ends.length∧s=⟨[.undef,.ptr 0 0,.ptr 1 0,.ptr 2 0,.undef,.undef,.undef,.sl 1 4 w.ends.length (w.ends.flatMap Ah),.sc (.int .i64 w.ends.length),.sc (.int .i64 j),.undef,.undef,.undef,.undef,.undef,.undef,.undef,.undef,.undef],[.var ((Gd w).map (Bc 1)),.var [.nil 1,.nil 1,.sc (.int .i64 0),.nil 4,.sc (.int .i64 0),.nil 1,.sc (.int .i64 0),.sc (.bool false),.sc (.int .i64 0),.sc (.int .i64 0),.nil 5,.nil 8,.sc (.int .i64 0),.sc (.int .i64 0),.sc (.int .i64 0)],.var [.arr 4,.arr 6,.sc (.int .i64 w.key),.arr 24,.sc (.int .i64 w.rollout.version),.arr 7,.sc (.int .i64 w.rollout.pos),.sc (.bool w.rollout.off),.sc (.int .i64 w.least),.sc (.int .i64 w.percent),.arr 25,.arr 26,.sc (.int .i64 w.now),.sc (.int .i64 w.hurt),.sc (.int .i64 w.reached)],.dead,.arr 1 0 w.server.length (ints w.server),.dead,.arr 1 0 w.tags.length (ints w.tags),.arr 1 0 w.rollout.stages.length (ints w.rollout.stages),o8,o9,o10,o11,o12,o13,.free,.free,.free,.free,.free,.free,.free,.free,.free,.free,.arr 4 0 j ((w.ends.take j).flatMap Ah),.arr 5 0 0 [],.arr 8 0 0 []]⟩) ?_ w.ends.length _ ⟨0,by simp⟩
 intro k s ⟨j,o8,o9,o10,o11,o12,o13,hj,hs'⟩
 subst hs'
 by_cases hjn:j<w.ends.length
 ·have hw:IntKind.i64.wrap ((j:Int)+1)=(j+1:Nat):=by rw[Ab (by omega) (by omega)];simp
  have hsz:=size_at (f:=Ae) hjn
  have h3:(j+1)*80≤1099511627776:=by omega
  have hst:=KX (f:=Ah) hjn
  simp -implicitDefEqProofs [hjn]
  refine Aa (hE w.ends[j] (by first | omega | (simp only[Ay]at hsz;omega))) ?_
  simp -implicitDefEqProofs [hjn,h3]
  exact⟨k-1,by omega,j+1,by omega,by simp[hw],rfl,by rw[←hst];rfl⟩
 obtain rfl:j=w.ends.length:=by omega
 simp -implicitDefEqProofs
 refine Af (fun k s=>∃j o8 o9 o10 o11 o12 o13 o14 o15 o16 o17 o18,j+k=w.stage.length∧s=⟨[.undef,.ptr 0 0,.ptr 1 0,.ptr 2 0,.undef,.undef,.undef,.undef,.undef,.undef,.undef,.sl 1 5 w.stage.length (w.stage.flatMap Ao),.sc (.int .i64 w.stage.length),.sc (.int .i64 j),.undef,.undef,.undef,.undef,.undef],[.var ((Gd w).map (Bc 1)),.var [.nil 1,.nil 1,.sc (.int .i64 0),.nil 4,.sc (.int .i64 0),.nil 1,.sc (.int .i64 0),.sc (.bool false),.sc (.int .i64 0),.sc (.int .i64 0),.nil 5,.nil 8,.sc (.int .i64 0),.sc (.int .i64 0),.sc (.int .i64 0)],.var [.arr 4,.arr 6,.sc (.int .i64 w.key),.arr 24,.sc (.int .i64 w.rollout.version),.arr 7,.sc (.int .i64 w.rollout.pos),.sc (.bool w.rollout.off),.sc (.int .i64 w.least),.sc (.int .i64 w.percent),.arr 25,.arr 26,.sc (.int .i64 w.now),.sc (.int .i64 w.hurt),.sc (.int .i64 w.reached)],.dead,.arr 1 0 w.server.length (ints w.server),.dead,.arr 1 0 w.tags.length (ints w.tags),.arr 1 0 w.rollout.stages.length (ints w.rollout.stages),o8,o9,o10,o11,o12,o13,o14,o15,o16,o17,o18,.free,.free,.free,.free,.free,.arr 4 0 w.ends.length (w.ends.flatMap Ah),.arr 5 0 j ((w.stage.take j).flatMap Ao),.arr 8 0 0 []]⟩) ?_ w.stage.length _ ⟨0,by simp⟩
 intro k s ⟨j,o8,o9,o10,o11,o12,o13,o14,o15,o16,o17,o18,hj,hs'⟩
 subst hs'
 by_cases hjn:j<w.stage.length
 ·have hw:IntKind.i64.wrap ((j:Int)+1)=(j+1:Nat):=by rw[Ab (by omega) (by omega)];simp
  have hsz:=size_at (f:=Aj) hjn
  have h3:(j+1)*72≤1099511627776:=by omega
  have hst:=KX (f:=Ao) hjn
  simp -implicitDefEqProofs [hjn]
  refine Aa (hD w.stage[j] (by first | omega | (simp only[Ay]at hsz;omega))) ?_
  simp -implicitDefEqProofs [hjn,h3]
  exact⟨k-1,by omega,j+1,by omega,by simp[hw],rfl,by rw[←hst];rfl⟩
 obtain rfl:j=w.stage.length:=by omega
 simp -implicitDefEqProofs
 refine Af (fun k s=>∃j o8 o9 o10 o11 o12 o13 o14 o15 o16 o17 o18 o19 o20 o21 o22 o23,j+k=w.log.length∧s=⟨[.undef,.undef,.ptr 1 0,.ptr 2 0,.undef,.undef,.undef,.undef,.undef,.undef,.undef,.undef,.undef,.undef,.undef,.sl 1 8 w.log.length (w.log.flatMap Am),.sc (.int .i64 w.log.length),.sc (.int .i64 j),.undef],[.var ((Gd w).map (Bc 1)),.var [.nil 1,.nil 1,.sc (.int .i64 0),.nil 4,.sc (.int .i64 0),.nil 1,.sc (.int .i64 0),.sc (.bool false),.sc (.int .i64 0),.sc (.int .i64 0),.nil 5,.nil 8,.sc (.int .i64 0),.sc (.int .i64 0),.sc (.int .i64 0)],.var [.arr 4,.arr 6,.sc (.int .i64 w.key),.arr 24,.sc (.int .i64 w.rollout.version),.arr 7,.sc (.int .i64 w.rollout.pos),.sc (.bool w.rollout.off),.sc (.int .i64 w.least),.sc (.int .i64 w.percent),.arr 25,.arr 26,.sc (.int .i64 w.now),.sc (.int .i64 w.hurt),.sc (.int .i64 w.reached)],.dead,.arr 1 0 w.server.length (ints w.server),.dead,.arr 1 0 w.tags.length (ints w.tags),.arr 1 0 w.rollout.stages.length (ints w.rollout.stages),o8,o9,o10,o11,o12,o13,o14,o15,o16,o17,o18,o19,o20,o21,o22,o23,.arr 4 0 w.ends.length (w.ends.flatMap Ah),.arr 5 0 w.stage.length (w.stage.flatMap Ao),.arr 8 0 j ((w.log.take j).flatMap Am)]⟩) ?_ w.log.length _ ⟨0,by simp⟩
 intro k s ⟨j,o8,o9,o10,o11,o12,o13,o14,o15,o16,o17,o18,o19,o20,o21,o22,o23,hj,hs'⟩
 subst hs'
 by_cases hjn:j<w.log.length
 ·have hw:IntKind.i64.wrap ((j:Int)+1)=(j+1:Nat):=by rw[Ab (by omega) (by omega)];simp
  have hsz:=size_at (f:=Ay) hjn
  have h3:(j+1)*96≤1099511627776:=by omega
  have hst:=KX (f:=Am) hjn
  simp -implicitDefEqProofs [hjn]
  refine Aa (hD w.log[j].dialed (by first | omega | (simp only[Ay]at hsz;omega))) ?_
  simp -implicitDefEqProofs [hjn,h3]
  exact⟨k-1,by omega,j+1,by omega,by simp[hw],rfl,by rw[←hst];rfl⟩
 obtain rfl:j=w.log.length:=by omega
 simp -implicitDefEqProofs
end Go.Eng.T
namespace Go.Eng.T
set_option maxRecDepth 20000
theorem ABO {α:Type} {f:α→Nat}:∀ {xs:List α} {j:Nat} (h:j<xs.length) (y:α),((xs.set j y).map f).sum+f xs[j]=(xs.map f).sum+f y
 | [],j,h,_=>by simp at h
 | x::r,0,h,y=>by simp;omega
 | x::r,j+1,h,y=>by
  have:=ABO (f:=f) (xs:=r) (j:=j) (by simpa using h) y
  simp at *
  omega
end Go.Eng.T
namespace Go.Eng.T
set_option maxRecDepth 20000
theorem ZF {xs:List Int} {lo hi:Int} {j:Nat} (h:j<xs.length):allIn (xs.take (j+1)) lo hi=(allIn (xs.take j) lo hi&&decide (InR xs[j] lo hi)):=by
 have e:xs.take (j+1)=xs.take j++ [xs[j]]:=by simp
 unfold allIn
 rw[e,List.all_append];simp
theorem Arf {xs:List Int} {lo hi:Int} {j:Nat} (h:j<xs.length) (hn:¬InR xs[j] lo hi):allIn xs lo hi=false:=by
 unfold allIn
 rw[List.all_eq_false]
 exact⟨xs[j],List.getElem_mem h,by simp[hn]⟩
theorem AmZ {xs:List Int} {lo hi:Int} {j:Nat} (h:xs.length≤j) (ha:allIn (xs.take j) lo hi=true):allIn xs lo hi=true:=by rwa [List.take_of_length_le h]at ha
abbrev XB (R:Rel):Prop:=∀xs:List Int,xs.length≤maxLen→R [.sl 1 1 xs.length (ints xs)] [] (B (allIn xs 0 255)) []
theorem AzN (D:Dn) (hI:Uk (D Dk)):XB (Body D Uv):=by
 intro xs hl
 unfold maxLen at hl
 simp -implicitDefEqProofs
 refine Af (fun k s=>∃j,j+k=xs.length∧allIn (xs.take j) 0 255=true∧s=⟨[.sl 1 1 xs.length (ints xs),.undef,.sc (.int .i64 j),.undef,.undef],[]⟩) ?_ xs.length _ ⟨0,by simp,by simp[allIn],by simp⟩
 intro k s ⟨j,hj,hp,hs⟩
 subst hs
 by_cases hjn:j<xs.length
 ·have hw:IntKind.i64.wrap ((j:Int)+1)=(j+1:Nat):=by rw[Ab (by omega) (by omega)];simp
  simp -implicitDefEqProofs [hjn]
  refine Aa (hI _ _ _) ?_
  by_cases h1:InR xs[j] 0 255
  ·simp -implicitDefEqProofs [h1]
   exact⟨k-1,by omega,j+1,by omega,by rw[ZF hjn,hp];simp[h1],by simp[hw]⟩
  ·simp -implicitDefEqProofs [h1,Arf hjn h1]
 ·simp -implicitDefEqProofs [hjn,AmZ (by omega) hp]
def Ib (b:FI):Bool:=decide (InR b.limit 0 9)&&decide (b.drops.length≤6)&&decide (b.strips.length≤6)&&allIn b.drops 0 255&&allIn b.strips 0 255
abbrev RZ (R:Rel):Prop:=∀b:FI,Ih b→R [arg (Cn b)] [] (B (Ib b)) []
theorem Azi (D:Dn) (hI:Uk (D Dk)) (hB:XB (D UI)):RZ (Body D Xk):=by
 intro b hl
 simp -implicitDefEqProofs
 refine Aa (hI _ _ _) ?_
 by_cases h1:InR b.limit 0 9
 rotate_left
 ·simp -implicitDefEqProofs [h1,Ib]
 by_cases h2:b.drops.length≤6
 rotate_left
 ·have h2':¬(b.drops.length:Int)≤6:=by omega
  simp -implicitDefEqProofs [h1,h2',h2,Ib]
 have h2':(b.drops.length:Int)≤6:=by omega
 by_cases h3:b.strips.length≤6
 rotate_left
 ·have h3':¬(b.strips.length:Int)≤6:=by omega
  simp -implicitDefEqProofs [h1,h2',h3',h3,Ib]
 have h3':(b.strips.length:Int)≤6:=by omega
 simp -implicitDefEqProofs [h1,h2',h3']
 refine Aa (hB _ hl.1) ?_
 by_cases h4:allIn b.drops 0 255=true
 rotate_left
 ·simp -implicitDefEqProofs [h4,Ib]
 simp -implicitDefEqProofs [h4]
 refine Aa (hB _ hl.2) ?_
 simp -implicitDefEqProofs [Ib,h1,h2,h3,h4]
theorem AyX (D:Dn) (hI:Uk (D Cj)) (hB:II (D Jz)):RZ (Body D Wv):=by
 intro b hl
 simp -implicitDefEqProofs
 refine Aa (hI _ _ _) ?_
 by_cases h1:InR b.limit 0 9
 rotate_left
 ·simp -implicitDefEqProofs [h1,Ib]
 by_cases h2:b.drops.length≤6
 rotate_left
 ·have h2':¬(b.drops.length:Int)≤6:=by omega
  simp -implicitDefEqProofs [h1,h2',h2,Ib]
 have h2':(b.drops.length:Int)≤6:=by omega
 by_cases h3:b.strips.length≤6
 rotate_left
 ·have h3':¬(b.strips.length:Int)≤6:=by omega
  simp -implicitDefEqProofs [h1,h2',h3',h3,Ib]
 have h3':(b.strips.length:Int)≤6:=by omega
 simp -implicitDefEqProofs [h1,h2',h3']
 refine Aa (hB _ _ _ hl.1) ?_
 by_cases h4:allIn b.drops 0 255=true
 rotate_left
 ·simp -implicitDefEqProofs [h4,Ib]
 simp -implicitDefEqProofs [h4]
 refine Aa (hB _ _ _ hl.2) ?_
 simp -implicitDefEqProofs [Ib,h1,h2,h3,h4]
end Go.Eng.T
namespace Go.Eng.T
set_option maxRecDepth 20000
abbrev NS (D:Dn) (R:Rel):Prop:=∀(xs:List FI) (g:Nat) (caps:List V) (p:FI→Bool),xs.length≤maxLen→MR caps→(∀(j:Nat) (h:j<xs.length),D g (arg (Cn xs[j])::caps) [] (B (p xs[j])) [])→R [.sl 1 4 xs.length (xs.flatMap Cn),.fn g caps] [] (I (G8 p xs 0)) []
theorem AjI (D:Dn):NS D (Body D Dv):=by
 intro xs g caps p hl hc hp
 unfold maxLen at hl
 simp -implicitDefEqProofs
 refine Af (fun k s=>∃j,j+k=xs.length∧G8 p xs 0=G8 p (xs.drop j) j∧s=⟨[.sl 1 4 xs.length (xs.flatMap Cn),.fn g caps,.undef,.undef,.sc (.int .i64 xs.length),.sc (.int .i64 j),.undef,.undef],[]⟩) ?_ xs.length _ ⟨0,by simp,by simp,by simp⟩
 intro k s ⟨j,hj,hi,hs⟩
 subst hs
 by_cases hjn:j<xs.length
 ·have hw:IntKind.i64.wrap ((j:Int)+1)=(j+1:Nat):=by rw[Ab (by omega) (by omega)];simp
  rw[T9 hjn]at hi
  simp -implicitDefEqProofs [hjn,hc.1,hc.2.1]
  refine Aa (hp j hjn) ?_
  by_cases he:p xs[j]=true
  ·rw[if_pos he]at hi
   simp -implicitDefEqProofs [he,hi]
  ·rw[if_neg he]at hi
   simp -implicitDefEqProofs [he]
   exact⟨k-1,by omega,j+1,by omega,by simpa using hi,by simp[hw]⟩
 ·rw[WJ (by omega)]at hi
  simp -implicitDefEqProofs [hjn,hi]
abbrev Jw (D:Dn) (R:Rel):Prop:=∀(xs:List FI) (g:Nat) (caps:List V) (p:FI→Bool),xs.length≤maxLen→MR caps→(∀(j:Nat) (h:j<xs.length),D g (arg (Cn xs[j])::caps) [] (B (p xs[j])) [])→R [.sl 1 4 xs.length (xs.flatMap Cn),.fn g caps] [] (B (xs.any p)) []
theorem Aca (D:Dn) (hI:NS D (D Jp)):Jw D (Body D Da):=by
 intro xs g caps p hl hc hp
 simp -implicitDefEqProofs [hc.2.2]
 refine Aa (hI xs g caps p hl hc hp) ?_
 have e:decide (0≤G8 p xs 0)=xs.any p:=by rw[Bool.eq_iff_iff];simp only[decide_eq_true_eq];rw[Vt (by omega)]
 simp -implicitDefEqProofs [e]
end Go.Eng.T
namespace Go.Eng.T
set_option maxRecDepth 20000
end Go.Eng.T
namespace Go.Eng.T
set_option maxRecDepth 20000
def AO (t:Int):Bool:=decide (InR t 0 255)&&decide (t.tmod 16=10)
abbrev Ff (R:Rel):Prop:=∀t:Int,R [I t] [] (B (AO t)) []
theorem AkQ (D:Dn) (hI:Uk (D Dk)):Ff (Body D MW):=by
 intro t
 simp -implicitDefEqProofs
 refine Aa (hI _ _ _) ?_
 by_cases h:InR t 0 255
 ·simp -implicitDefEqProofs [h,AO,Awg]
 ·simp -implicitDefEqProofs [h,AO]
theorem Alv (D:Dn) (hI:Uk (D Cj)):Ff (Body D Ng):=by
 intro t
 simp -implicitDefEqProofs
 refine Aa (hI _ _ _) ?_
 by_cases h:InR t 0 255
 ·simp -implicitDefEqProofs [h,AO,Awg]
 ·simp -implicitDefEqProofs [h,AO]
abbrev Ou (R:Rel):Prop:=∀xs:List Int,xs.length≤maxLen→R [.sl 1 1 xs.length (ints xs)] [] (B (xs.any AO)) []
theorem Ws {α:Type} {p:α→Bool} {xs:List α} {j:Nat} (h:j<xs.length) (hp:p xs[j]=true):xs.any p=true:=List.any_eq_true.2 ⟨_,List.getElem_mem h,hp⟩
theorem Aju {α:Type} {p:α→Bool} {xs:List α} {j:Nat} (h:j<xs.length):(xs.take (j+1)).any p=((xs.take j).any p||p xs[j]):=by
 have e:xs.take (j+1)=xs.take j++ [xs[j]]:=by simp
 rw[e,List.any_append];simp
theorem any_none {α:Type} {p:α→Bool} {xs:List α} {j:Nat} (h:xs.length≤j) (ha:(xs.take j).any p=false):xs.any p=false:=by rwa [List.take_of_length_le h]at ha
theorem Akz (D:Dn) (hR:Ff (D Ub)) (hC:J2 D (D GJ)):Ou (Body D NF):=by
 intro xs hl
 simp -implicitDefEqProofs
 refine Aa (hC xs 279 _ AO hl Gp (fun x=>hR x)) ?_
 generalize xs.any AO=b
 simp -implicitDefEqProofs
end Go.Eng.T
namespace Go.Eng.T
set_option maxRecDepth 20000
abbrev InV (a b c:Int):Prop:=b≤a∧a≤c
def KC (xs:List Int) (j:Nat):Bool:=(List.range j).all fun i=>decide (InV (xs.getD i 0) 1 9)&&(decide (i=0)||decide (xs.getD (i-1) 0<xs.getD i 0))
theorem Rw (xs:List Int) (j:Nat):KC xs (j+1)=(KC xs j&&(decide (InV (xs.getD j 0) 1 9)&&(decide (j=0)||decide (xs.getD (j-1) 0<xs.getD j 0)))):=by
 unfold KC
 rw[List.range_succ,List.all_append]
 simp
theorem Xx {xs:List Int} {j:Nat} (h:j<xs.length) (hn:KC xs (j+1)=false):KC xs xs.length=false:=by
 have:∀n,KC xs (j+1+n)=false:=by
  intro n
  induction n with
  | zero=>exact hn
  | succ n ih=>rw[show j+1+(n+1)=(j+1+n)+1 by omega,Rw,ih];rfl
 have:=this (xs.length-(j+1))
 rwa [show j+1+(xs.length-(j+1))=xs.length by omega]at this
theorem Wn {xs:List Int} {j:Nat} (h:j<xs.length):xs.getD j 0=xs[j]:=by simp[h]
def Bq (xs:List Int):Bool:=KC xs xs.length&&decide (0<xs.length)
abbrev CB (R:Rel):Prop:=∀xs:List Int,xs.length≤maxLen→R [.sl 1 1 xs.length (ints xs)] [] (B (Bq xs)) []
theorem AhN (D:Dn) (hI:Uk (D Dk)):CB (Body D Mr):=by
 intro xs hl
 unfold maxLen at hl
 simp -implicitDefEqProofs
 refine Af (fun k s=>∃j,j+k=xs.length∧KC xs j=true∧s=⟨[.sl 1 1 xs.length (ints xs),.undef,.sc (.int .i64 j),.undef,.undef],[]⟩) ?_ xs.length _ ⟨0,by simp,by simp[KC],by simp⟩
 intro k s ⟨j,hj,hr,hs⟩
 subst hs
 by_cases hjn:j<xs.length
 ·have hw:IntKind.i64.wrap ((j:Int)+1)=(j+1:Nat):=by rw[Ab (by omega) (by omega)];simp
  have hst:=Rw xs j
  rw[hr,Bool.true_and,Wn hjn]at hst
  simp -implicitDefEqProofs [hjn]
  refine Aa (hI _ _ _) ?_
  by_cases h1:InV xs[j] 1 9
  rotate_left
  ·have e:Bq xs=false:=by unfold Bq;rw[Xx hjn (by rw[hst];simp[h1])];rfl
   simp -implicitDefEqProofs [h1,e]
  by_cases h0:j=0
  ·subst h0
   simp -implicitDefEqProofs [h1]
   exact⟨k-1,by omega,1,by omega,by rw[hst];simp[h1],by simpa using hw⟩
  ·have hw2:IntKind.i64.wrap ((j:Int)-1)=((j-1:Nat):Int):=by rw[Ab (by omega) (by omega)];omega
   have h2:(0:Int)<j:=by omega
   have h2':0<j:=by omega
   have h3:j-1<xs.length:=by omega
   rw[Wn h3]at hst
   by_cases h4:xs[j-1]<xs[j]
   ·have h4':¬xs[j]≤xs[j-1]:=by omega
    simp -implicitDefEqProofs [h1,h2,h2',hw2,h3,hjn,h4']
    exact⟨k-1,by omega,j+1,by omega,by rw[hst];simp[h1,h0,h4],by simp[hw]⟩
   ·have e:Bq xs=false:=by unfold Bq;rw[Xx hjn (by rw[hst];simp[h1,h0,h4])];rfl
    have h4':xs[j]≤xs[j-1]:=by omega
    simp -implicitDefEqProofs [h1,h2,h2',hw2,h3,hjn,h4',e]
 ·obtain rfl:j=xs.length:=by omega
  have e:Bq xs=decide (0<xs.length):=by unfold Bq;rw[hr];rfl
  by_cases h5:0<xs.length
  ·have h5':(0:Int)<xs.length:=by omega
   simp -implicitDefEqProofs [e,h5,h5']
  ·have h5':¬(0:Int)<xs.length:=by omega
   simp -implicitDefEqProofs [e,h5,h5']
theorem AhG (D:Dn) (hI:Uk (D Cj)):CB (Body D Mh):=by
 intro xs hl
 unfold maxLen at hl
 simp -implicitDefEqProofs
 refine Af (fun k s=>∃j v2 v3,j+k=xs.length∧KC xs j=true∧s=⟨[.sl 1 1 xs.length (ints xs),.undef,v2,v3,.sl 1 1 xs.length (ints xs),.sc (.int .i64 xs.length),.sc (.int .i64 j),.undef,.undef],[]⟩) ?_ xs.length _ ⟨0,.undef,.undef,by simp,by simp[KC],by simp⟩
 intro k s ⟨j,v2,v3,hj,hr,hs⟩
 subst hs
 by_cases hjn:j<xs.length
 ·have hw:IntKind.i64.wrap ((j:Int)+1)=(j+1:Nat):=by rw[Ab (by omega) (by omega)];simp
  have hst:=Rw xs j
  rw[hr,Bool.true_and,Wn hjn]at hst
  simp -implicitDefEqProofs [hjn]
  refine Aa (hI _ _ _) ?_
  by_cases h1:InV xs[j] 1 9
  rotate_left
  ·have e:Bq xs=false:=by unfold Bq;rw[Xx hjn (by rw[hst];simp[h1])];rfl
   simp -implicitDefEqProofs [h1,e]
  by_cases h0:j=0
  ·subst h0
   simp -implicitDefEqProofs [h1]
   exact⟨k-1,by omega,1,by omega,by rw[hst];simp[h1],by simpa using hw⟩
  ·have hw2:IntKind.i64.wrap ((j:Int)-1)=((j-1:Nat):Int):=by rw[Ab (by omega) (by omega)];omega
   have h2:(0:Int)<j:=by omega
   have h2':0<j:=by omega
   have h3:j-1<xs.length:=by omega
   rw[Wn h3]at hst
   by_cases h4:xs[j-1]<xs[j]
   ·have h4':¬xs[j]≤xs[j-1]:=by omega
    simp -implicitDefEqProofs [h1,h2,h2',hw2,h3,hjn,h4']
    exact⟨k-1,by omega,j+1,by omega,by rw[hst];simp[h1,h0,h4],by simp[hw]⟩
   ·have e:Bq xs=false:=by unfold Bq;rw[Xx hjn (by rw[hst];simp[h1,h0,h4])];rfl
    have h4':xs[j]≤xs[j-1]:=by omega
    simp -implicitDefEqProofs [h1,h2,h2',hw2,h3,hjn,h4',e]
 ·obtain rfl:j=xs.length:=by omega
  have e:Bq xs=decide (0<xs.length):=by unfold Bq;rw[hr];rfl
  by_cases h5:0<xs.length
  ·have h5':(0:Int)<xs.length:=by omega
   simp -implicitDefEqProofs [e,h5,h5']
  ·have h5':¬(0:Int)<xs.length:=by omega
   simp -implicitDefEqProofs [e,h5,h5']
theorem KY {p:Int→Bool} {xs:List Int} {j:Nat} (h:j<xs.length):(xs.take (j+1)).filter p=(xs.take j).filter p++(if p xs[j]then [xs[j]]else []):=by
 have e:xs.take (j+1)=xs.take j++ [xs[j]]:=by simp
 rw[e,List.filter_append]
 by_cases hp:p xs[j]=true<;>simp[hp]
theorem Ma {p:Int→Bool} {xs:List Int} {j:Nat} (h:xs.length≤j):(xs.take j).filter p=xs.filter p:=by rw[List.take_of_length_le h]
theorem Om {p:Int→Bool} {xs:List Int} {j:Nat}:((xs.take j).filter p).length≤j:=by
 have:=List.length_filter_le p (xs.take j)
 have h2:(xs.take j).length≤j:=by simp;omega
 omega
def common (a b:List Int):List Int:=a.filter fun v=>decide (v∈b)
def AAI (a:List Int) (v:Int):List Int:=a.filter fun x=> !decide (x=v)
abbrev KW (R:Rel):Prop:=∀a b:List Int,a.length≤4194304→b.length≤maxLen→R [.sl 1 1 a.length (ints a),.sl 1 1 b.length (ints b)] [] (.sl 0 1 (common a b).length (ints (common a b))) []
theorem Ar0 (D:Dn) (hH:QA (D IZ)):KW (Body D QE):=by
 intro a b ha hb'
 have hres:common a b=a.filter (fun v=>decide (v∈b)):=rfl
 rw[hres]
 simp -implicitDefEqProofs
 refine Af (fun k s=>∃j o1 o2,j+k=a.length∧s=⟨[.sl 1 1 a.length (ints a),.sl 1 1 b.length (ints b),.undef,.arr 3,.sc (.int .i64 j),.undef,.undef],[.free,o1,o2,.arr 1 0 ((a.take j).filter (fun v=>decide (v∈b))).length (ints ((a.take j).filter (fun v=>decide (v∈b))))]⟩) ?_ a.length _ ⟨0,by simp⟩
 intro k s ⟨j,o1,o2,hj,hs⟩
 subst hs
 by_cases hjn:j<a.length
 ·have hw:IntKind.i64.wrap ((j:Int)+1)=(j+1:Nat):=by rw[Ab (by omega) (by omega)];simp
  have hst:=KY (p:=fun v=>decide (v∈b)) hjn
  have hln:=Om (p:=fun v=>decide (v∈b)) (xs:=a) (j:=j)
  have hb:(((a.take j).filter (fun v=>decide (v∈b))).length+1)*8≤1099511627776:=by omega
  simp -implicitDefEqProofs [hjn]
  refine Aa (hH b _ hb') ?_
  by_cases h1:a[j]∈b
  ·rw[if_pos (by simp[h1])]at hst
   simp -implicitDefEqProofs [h1,hjn,hb]
   exact⟨k-1,by omega,j+1,by omega,by simp[hw],by rw[hst];simp,by rw[hst]⟩
  ·rw[if_neg (by simp[h1]),List.append_nil]at hst
   simp -implicitDefEqProofs [h1,hjn,hb]
   exact⟨k-1,by omega,j+1,by omega,by simp[hw],by rw[hst],by rw[hst]⟩
 ·have hx:=Ma (p:=fun v=>decide (v∈b)) (xs:=a) (j:=j) (by omega)
  simp -implicitDefEqProofs [hjn,hx]
theorem ArV (D:Dn) (hH:QA (D Bv)):KW (Body D QF):=by
 intro a b ha hb'
 have hres:common a b=a.filter (fun v=>decide (v∈b)):=rfl
 rw[hres]
 simp -implicitDefEqProofs
 refine Af (fun k s=>∃j v4 o1 o2,j+k=a.length∧s=⟨[.undef,.sl 1 1 b.length (ints b),.undef,.arr 3,v4,.sl 1 1 a.length (ints a),.sc (.int .i64 a.length),.sc (.int .i64 j),.undef,.undef],[.free,o1,o2,.arr 1 0 ((a.take j).filter (fun v=>decide (v∈b))).length (ints ((a.take j).filter (fun v=>decide (v∈b))))]⟩) ?_ a.length _ ⟨0,by simp⟩
 intro k s ⟨j,v4,o1,o2,hj,hs⟩
 subst hs
 by_cases hjn:j<a.length
 ·have hw:IntKind.i64.wrap ((j:Int)+1)=(j+1:Nat):=by rw[Ab (by omega) (by omega)];simp
  have hst:=KY (p:=fun v=>decide (v∈b)) hjn
  have hln:=Om (p:=fun v=>decide (v∈b)) (xs:=a) (j:=j)
  have hb:(((a.take j).filter (fun v=>decide (v∈b))).length+1)*8≤1099511627776:=by omega
  simp -implicitDefEqProofs [hjn]
  refine Aa (hH b _ hb') ?_
  by_cases h1:a[j]∈b
  ·rw[if_pos (by simp[h1])]at hst
   simp -implicitDefEqProofs [h1,hjn,hb]
   exact⟨k-1,by omega,j+1,by omega,by simp[hw],by rw[hst];simp,by rw[hst]⟩
  ·rw[if_neg (by simp[h1]),List.append_nil]at hst
   simp -implicitDefEqProofs [h1,hjn,hb]
   exact⟨k-1,by omega,j+1,by omega,by simp[hw],by rw[hst],by rw[hst]⟩
 ·have hx:=Ma (p:=fun v=>decide (v∈b)) (xs:=a) (j:=j) (by omega)
  simp -implicitDefEqProofs [hjn,hx]
end Go.Eng.T
namespace Go.Eng.T
set_option maxRecDepth 20000
set_option maxHeartbeats 1000000
def Yd (l:List Int):Int:=l.foldl (fun a v=>if v>a then v else a) 0
theorem AuF {x:Int}:∀(l:List Int) (a:Int),(∀y,y∈l→y<x)→a<x→l.foldl (fun a v=>if v>a then v else a) a<x
 | [],a,_,h=>h
 | y::l,a,hl,h=>by
  simp only[List.foldl_cons]
  refine AuF l _ (fun z hz=>hl z (by simp[hz])) ?_
  split
  ·exact hl y (by simp)
  ·exact h
theorem AhA {xs:List Int}:∀(n:Nat),KC xs n=true→∀i j,i<j→j<n→xs.getD i 0<xs.getD j 0
 | 0,_,i,j,_,h=>by omega
 | n+1,hr,i,j,hij,hj=>by
  rw[Rw]at hr
  simp only[Bool.and_eq_true,Bool.or_eq_true,decide_eq_true_eq]at hr
  obtain⟨h1,_,h3⟩:=hr
  by_cases hjn:j<n
  ·exact AhA n h1 i j hij hjn
  ·obtain rfl:j=n:=by omega
   have h4:xs.getD (j-1) 0<xs.getD j 0:=by
    rcases h3 with h3 | h3
    ·omega
    ·exact h3
   by_cases he:i=j-1
   ·rw[he];exact h4
   ·have:=AhA j h1 i (j-1) (by omega) (by omega)
    omega
theorem Az4 {xs:List Int} {n i:Nat} (h:KC xs n=true) (hi:i<n):InV (xs.getD i 0) 1 9:=by
 unfold KC at h
 have:=List.all_eq_true.1 h i (List.mem_range.2 hi)
 simp at this
 exact⟨this.1.1,this.1.2⟩
theorem Am3 {xs:List Int} (h:Bq xs=true):xs.Pairwise (· < ·):=by
 unfold Bq at h
 simp only[Bool.and_eq_true,decide_eq_true_eq]at h
 rw[List.pairwise_iff_getElem]
 intro i j hi hj hij
 have:=AhA _ h.1 i j hij hj
 rwa [Wn hi,Wn hj]at this
theorem Avu {xs:List Int} (h:Bq xs=true):∀x,x∈xs→InV x 1 9:=by
 unfold Bq at h
 simp only[Bool.and_eq_true,decide_eq_true_eq]at h
 intro x hx
 obtain⟨i,hi,rfl⟩:=List.getElem_of_mem hx
 have:=Az4 h.1 hi
 rwa [Wn hi]at this
theorem AwR {l:List Int} (hp:l.Pairwise (· < ·)) (h0:∀x,x∈l→0<x) (hn:0<l.length):Yd l=l[l.length-1]:=by
 obtain⟨l',x,rfl⟩:∃l' x,l=l'++ [x]:=by
  rcases List.eq_nil_or_concat l with h | ⟨l',x,h⟩
  ·rw[h]at hn;simp at hn
  ·exact⟨l',x,by simpa using h⟩
 rw[List.pairwise_append]at hp
 have h1:Yd l' <x:=AuF l' 0 (fun y hy=>hp.2.2 y hy x (by simp)) (h0 x (by simp))
 have h2:Yd (l'++ [x])=if x>Yd l' then x else Yd l':=by unfold Yd;rw[List.foldl_append];rfl
 rw[h2,if_pos h1]
 simp
def Dl (a b:List Int):Int:=if Bq a=true∧Bq b=true then Yd (common a b)else 0
abbrev Hf (R:Rel):Prop:=∀a b:List Int,a.length≤4194304→b.length≤4194304→R [.sl 1 1 a.length (ints a),.sl 1 1 b.length (ints b)] [] (I (Dl a b)) []
theorem ml {n:Nat} (h:n≤4194304):n≤maxLen:=by unfold maxLen;omega
theorem AkR (D:Dn) (hC:KW (D Aj8)) (hA:CB (D Gz)):Hf (Body D M0):=by
 intro a b ha hb
 have hcl:(common a b).length≤4194304:=Nat.le_trans (List.length_filter_le _ _) ha
 simp -implicitDefEqProofs
 refine Aa (hC a b ha (ml hb)) ?_
 simp -implicitDefEqProofs
 refine Aa (hA a (ml ha)) ?_
 by_cases h1:Bq a=true
 rotate_left
 ·simp -implicitDefEqProofs [h1,Dl]
 simp -implicitDefEqProofs [h1]
 refine Aa (hA b (ml hb)) ?_
 by_cases h2:Bq b=true
 rotate_left
 ·simp -implicitDefEqProofs [h2,Dl]
 have e:Dl a b=Yd (common a b):=by unfold Dl;rw[if_pos ⟨h1,h2⟩]
 rw[e]
 by_cases h3:common a b=[]
 ·simp -implicitDefEqProofs [h2,h3,Yd]
 have h4:0<(common a b).length:=List.length_pos_iff.2 h3
 have h5:=AwR (l:=common a b) ((Am3 h1).filter _) (fun x hx=>by have:=Avu h1 x (List.mem_filter.1 hx).1;omega) h4
 rw[h5]
 generalize common a b=l at h3 h4 hcl
 have hw:IntKind.i64.wrap ((l.length:Int)-1)=((l.length-1:Nat):Int):=by rw[Ab (by omega) (by omega)];omega
 have h6:l.length-1<l.length:=by omega
 simp -implicitDefEqProofs [h2,h3,hw,h6,h4]
theorem Al0 (D:Dn) (hC:KW (D Aj7)) (hA:CB (D Gt)):Hf (Body D MS):=by
 intro a b ha hb
 have hcl:(common a b).length≤4194304:=Nat.le_trans (List.length_filter_le _ _) ha
 simp -implicitDefEqProofs
 refine Aa (hA a (ml ha)) ?_
 by_cases h1:Bq a=true
 rotate_left
 ·simp -implicitDefEqProofs [h1,Dl]
 simp -implicitDefEqProofs [h1]
 refine Aa (hA b (ml hb)) ?_
 by_cases h2:Bq b=true
 rotate_left
 ·simp -implicitDefEqProofs [h2,Dl]
 have e:Dl a b=Yd (common a b):=by unfold Dl;rw[if_pos ⟨h1,h2⟩]
 rw[e]
 simp -implicitDefEqProofs [h2]
 refine Aa (hC a b ha (ml hb)) ?_
 generalize common a b=l at hcl
 simp -implicitDefEqProofs
 refine Af (fun k s=>∃j,j+k=l.length∧s=⟨[.undef,.undef,.undef,.sc (.int .i64 (Yd (l.take j))),.undef,.undef,.arr 0,.sc (.int .i64 l.length),.sc (.int .i64 j),.undef],[.arr 1 0 l.length (ints l)]⟩) ?_ l.length _ ⟨0,by simp,by simp[Yd]⟩
 intro k s ⟨j,hj,hs⟩
 subst hs
 by_cases hjn:j<l.length
 ·have hw:IntKind.i64.wrap ((j:Int)+1)=(j+1:Nat):=by rw[Ab (by omega) (by omega)];simp
  have hst:Yd (l.take (j+1))=if l[j]>Yd (l.take j)then l[j]else Yd (l.take j):=by
   have e:l.take (j+1)=l.take j++ [l[j]]:=by simp
   unfold Yd
   rw[e,List.foldl_append];rfl
  simp -implicitDefEqProofs [hjn]
  exact⟨k-1,by omega,j+1,by omega,by rw[hst],by simp[hw]⟩
 ·have hx:l.take j=l:=List.take_of_length_le (by omega)
  simp -implicitDefEqProofs [hjn,hx]
end Go.Eng.T
namespace Go.Eng.T
structure Ext where
 tag:Int
 body:List Int
 deriving DecidableEq
structure Hello where
 versions:List Int
 exts:List Ext
 deriving DecidableEq
structure Qz where
 version:Int
 exts:List Ext
 deriving DecidableEq
def BD (x:Ext):List V:=[.sc (.int .i64 x.tag),.sl 0 1 x.body.length (ints x.body)]
def CV (h:Hello):List V:=[.sl 0 1 h.versions.length (ints h.versions),.sl 0 2 h.exts.length (h.exts.flatMap BD)]
def Xw (a:Qz):List V:=[.sc (.int .i64 a.version),.sl 0 2 a.exts.length (a.exts.flatMap BD)]
theorem Wq (x:Ext):(BD x).length=2:=rfl
@[simp] theorem AGm (xs:List Ext):(xs.flatMap BD).map (Bc 0)=xs.flatMap BD:=Xq (fun _=>rfl) xs
@[simp high] theorem AGl {xs:List Ext} {j:Nat} (h:j<xs.length):FU (xs.flatMap BD) (j*2) 2=some (BD xs[j]):=Nu Wq h
@[simp high] theorem Ql (xs:List Ext):(xs.flatMap BD).length=xs.length*2:=L8 Wq xs
@[simp high] theorem AF6 {xs:List Ext} {j:Nat} (h:j<xs.length):(xs.flatMap BD)[j*2]? =some (.sc (.int .i64 xs[j].tag)):=by
 have:=AU (o:=0) Wq h (by omega)
 simpa[BD]using this
@[simp high] theorem AF2 {xs:List Ext} {j:Nat} (h:j<xs.length):(xs.flatMap BD)[j*2+1]? =some (.sl 0 1 xs[j].body.length (ints xs[j].body)):=by
 have:=AU (o:=1) Wq h (by omega)
 simpa[BD]using this
theorem Awe {α:Type} {f:α→List V} {e:Nat} (hf:∀x,(f x).length=e) (xs:List α) (i:Nat):(xs.flatMap f).take (i*e)=(xs.take i).flatMap f:=by
 induction xs generalizing i with
 | nil=>simp
 | cons x xs ih=>
  cases i with
  | zero=>simp
  | succ i=>
   simp only[List.flatMap_cons,List.take_succ_cons]
   rw[←ih i,show(i+1)*e=(f x).length+i*e by rw[hf,Nat.add_mul];omega,List.take_length_add_append]
theorem Awu {α:Type} {f:α→List V} {e:Nat} (hf:∀x,(f x).length=e) (xs:List α) (o n:Nat):part (xs.flatMap f) e o n=((xs.drop o).take n).flatMap f:=by
 unfold part
 rw[XG hf,Awe hf]
@[simp high] theorem AE6 (xs:List Ext) (o n:Nat):part (xs.flatMap BD) 2 o n=((xs.drop o).take n).flatMap BD:=Awu Wq xs o n
attribute [simp] BD CV Xw
def SY (l:List Ext):Prop:=l.length≤4194304∧∀x,x∈l→x.body.length≤4194304
theorem MF {l:List Ext} (h:SY l) {j:Nat} (hj:j<l.length):l[j].body.length≤4194304:=h.2 _ (List.getElem_mem hj)
theorem Acb:SY []:=⟨by simp,by simp⟩
theorem AtB {l:List Ext} (h:SY l) (p:Ext→Bool):SY (l.filter p):=
 ⟨Nat.le_trans (List.length_filter_le p l) h.1,fun x hx=>h.2 x (List.mem_filter.1 hx).1⟩
def RO (q:Nat→Bool) (j:Nat):Bool:=(List.range j).all q
@[simp] theorem AEa (q:Nat→Bool):RO q 0=true:=rfl
theorem Nh (q:Nat→Bool) (j:Nat):RO q (j+1)=(RO q j&&q j):=by
 unfold RO
 rw[List.range_succ,List.all_append]
 simp
theorem Aq7 {q:Nat→Bool} {j n:Nat} (h:j<n) (hn:q j=false):RO q n=false:=by
 have:∀m,RO q (j+1+m)=false:=by
  intro m
  induction m with
  | zero=>rw[Nat.add_zero,Nh,hn];simp
  | succ m ih=>rw[show j+1+(m+1)=(j+1+m)+1 by omega,Nh,ih];rfl
 have:=this (n-(j+1))
 rwa [show j+1+(n-(j+1))=n by omega]at this
theorem AvX {q:Nat→Bool} {n:Nat}:RO q n=true↔∀i,i<n→q i=true:=by
 unfold RO
 rw[List.all_eq_true]
 simp
theorem Aiq {α:Type} {p:α→Bool} {xs:List α} {j:Nat} (h:j<xs.length):(xs.take (j+1)).filter p=(xs.take j).filter p++(if p xs[j]then [xs[j]]else []):=by
 have e:xs.take (j+1)=xs.take j++ [xs[j]]:=by simp
 rw[e,List.filter_append]
 by_cases hp:p xs[j]=true<;>simp[hp]
theorem Ad6 {α:Type} {p:α→Bool} {xs:List α} {j:Nat} (h:xs.length≤j):(xs.take j).filter p=xs.filter p:=by rw[List.take_of_length_le h]
theorem Amw {α:Type} {p:α→Bool} {xs:List α} {j:Nat}:((xs.take j).filter p).length≤j:=by
 have:=List.length_filter_le p (xs.take j)
 have h2:(xs.take j).length≤j:=by simp;omega
 omega
end Go.Eng.T
namespace Go.Eng.T
end Go.Eng.T
