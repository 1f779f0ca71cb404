/- Own work: part 45 of the proof of FnExactTryAll. -/
import Derived.Test.YtdgpapmladligabGreatP44
set_option linter.unusedSimpArgs false
set_option linter.unusedVariables false
namespace Go.Eng.T
abbrev I (a:Int):V:= .sc (.int .i64 a)
abbrev B (a:Bool):V:= .sc (.bool a)
abbrev S (a:ByteArray):V:= .sc (.string a)
abbrev Rel:=List V→List O→V→List O→Prop
def ints (xs:List Int):List V:=xs.map fun x=> .sc (.int .i64 x)
@[simp] theorem AIU (xs:List Int):(ints xs).length=xs.length:=by simp[ints]
@[simp] theorem AIR:ints []=[]:=rfl
@[simp] theorem ints_at {xs:List Int} {j:Nat} (h:j<xs.length):(ints xs)[j]? =some (V.sc (.int .i64 xs[j])):=by simp[ints,h]
@[simp] theorem AHZ {xs:List Int} {j:Nat} (h:j<(ints xs).length):(ints xs)[j]=V.sc (.int .i64 (xs[j]'(by simpa using h))):=by simp[ints]
@[simp] theorem AJf (xs:List Int) (k:Nat):(ints xs).map (AL k)=ints xs:=by simp[ints,Function.comp_def,AL]
theorem Amz (xs ys:List Int):ints xs++ints ys=ints (xs++ys):=by simp[ints]
@[simp] theorem AH0 (xs:List Int) (y:Int):ints xs++ [V.sc (.int .i64 y)]=ints (xs++ [y]):=by simp[ints]
@[simp] theorem ints_set (xs:List Int) (j:Nat) (y:Int):(ints xs).set j (V.sc (.int .i64 y))=ints (xs.set j y):=by simp[ints]
@[simp] theorem AII (n:Nat):(List.replicate n [V.sc (.int .i64 0)]).flatten=ints (List.replicate n 0):=by
 induction n with
 | zero=>rfl
 | succ n ih=>simp[List.replicate_succ,ints]at *
@[simp] theorem AJb (xs:List Int):(ints xs).all Sy=true:=by simp[ints,Sy]
@[simp] theorem AIc (xs:List Int) (o n:Nat):part (ints xs) 1 o n=ints ((xs.drop o).take n):=by simp[part,ints]
@[simp] theorem AHX:∀xs:List Int,(∀x,x∈ints xs→Sy x=true)=True:=by simp[ints,Sy]
@[simp] theorem AIg (a:V) (cs:List V) (off n:Nat):Gs (a::cs) off n=if off+n≤cs.length+1 then some (((a::cs).drop off).take n)else none:=by simp[Gs]
structure AAc where
 ok:Bool
 version:Int
 tags:List Int
 deriving DecidableEq
structure Gu where
 limit:Int
 drops:List Int
 strips:List Int
 lists:Bool
 deriving DecidableEq
structure Eh where
 deal:AAc
 tries:Int
 up:List Int
 deriving DecidableEq
structure BL where
 version:Int
 stages:List Int
 pos:Int
 off:Bool
 deriving DecidableEq
structure Aq where
 versions:List Int
 tags:List Int
 path:List Gu
 cls:Int
 deriving DecidableEq
structure CO where
 fin:Int
 tick:Int
 on:Bool
 dialed:Eh
 deriving DecidableEq
structure World where
 server:List Int
 tags:List Int
 key:Int
 ends:List Aq
 rollout:BL
 least:Int
 percent:Int
 stage:List Eh
 log:List CO
 now:Int
 hurt:Int
 reached:Int
 deriving DecidableEq
structure Event where
 kind:Int
 n:Int
 box:Gu
 deriving DecidableEq
abbrev sl (fl e n:Nat) (cs:List V):V:= .sl fl e n cs
def Asq (d:AAc):List V:=[.sc (.bool d.ok),.sc (.int .i64 d.version),.sl 0 1 d.tags.length (ints d.tags)]
def Dy (d:Gu):List V:=[.sc (.int .i64 d.limit),.sl 0 1 d.drops.length (ints d.drops),.sl 0 1 d.strips.length (ints d.strips),.sc (.bool d.lists)]
def A9 (d:Eh):List V:=[.sc (.bool d.deal.ok),.sc (.int .i64 d.deal.version),.sl 0 1 d.deal.tags.length (ints d.deal.tags),.sc (.int .i64 d.tries),.sl 0 1 d.up.length (ints d.up)]
def F7 (d:BL):List V:=[.sc (.int .i64 d.version),.sl 0 1 d.stages.length (ints d.stages),.sc (.int .i64 d.pos),.sc (.bool d.off)]
def Ak (d:Aq):List V:=[.sl 0 1 d.versions.length (ints d.versions),.sl 0 1 d.tags.length (ints d.tags),.sl 0 4 d.path.length (d.path.flatMap Dy),.sc (.int .i64 d.cls)]
def Av (d:CO):List V:=[.sc (.int .i64 d.fin),.sc (.int .i64 d.tick),.sc (.bool d.on),.sc (.bool d.dialed.deal.ok),.sc (.int .i64 d.dialed.deal.version),.sl 0 1 d.dialed.deal.tags.length (ints d.dialed.deal.tags),.sc (.int .i64 d.dialed.tries),.sl 0 1 d.dialed.up.length (ints d.dialed.up)]
def Bn (d:World):List V:=[.sl 0 1 d.server.length (ints d.server),.sl 0 1 d.tags.length (ints d.tags),.sc (.int .i64 d.key),.sl 0 4 d.ends.length (d.ends.flatMap Ak),.sc (.int .i64 d.rollout.version),.sl 0 1 d.rollout.stages.length (ints d.rollout.stages),.sc (.int .i64 d.rollout.pos),.sc (.bool d.rollout.off),.sc (.int .i64 d.least),.sc (.int .i64 d.percent),.sl 0 5 d.stage.length (d.stage.flatMap A9),.sl 0 8 d.log.length (d.log.flatMap Av),.sc (.int .i64 d.now),.sc (.int .i64 d.hurt),.sc (.int .i64 d.reached)]
def Cs (d:Event):List V:=[.sc (.int .i64 d.kind),.sc (.int .i64 d.n),.sc (.int .i64 d.box.limit),.sl 0 1 d.box.drops.length (ints d.box.drops),.sl 0 1 d.box.strips.length (ints d.box.strips),.sc (.bool d.box.lists)]
abbrev arg (cs:List V):V:= .agg (cs.map (AL 1))
section
variable {α:Type} {f:α→List V} {e:Nat}
theorem ZF (hf:∀x,(f x).map (AL 0)=f x) (xs:List α):(xs.flatMap f).map (AL 0)=xs.flatMap f:=by
 induction xs with
 | nil=>rfl
 | cons x xs ih=>simp[hf,ih]
theorem ZC (cs ds:List V) (o:Nat):∀(azs:List V),o+azs.length≤ds.length→putAt (cs++ds) (cs.length+o) azs=cs++putAt ds o azs:=by
 intro azs
 induction azs generalizing ds o with
 | nil=>intro _;simp[putAt]
 | cons a azs ih=>
  intro h
  simp only[putAt,List.length_cons]at *
  rw[List.set_append_right _ _ (by omega),show cs.length+o-cs.length=o by omega,show cs.length+o+1=cs.length+(o+1)by omega]
  exact ih _ _ (by simp;omega)
theorem Av3:∀(ds azs:List V),azs.length≤ds.length→putAt ds 0 azs=azs++ds.drop azs.length:=by
 have key:∀(azs pre ds:List V),azs.length≤ds.length→putAt (pre++ds) pre.length azs=pre++azs++ds.drop azs.length:=by
  intro azs
  induction azs with
  | nil=>intro pre ds _;simp[putAt]
  | cons a azs ih=>
   intro pre ds h
   cases ds with
   | nil=>simp at h
   | cons d ds=>
    have:=ih (pre++ [a]) ds (by simpa using h)
    simp only[putAt]
    rw[List.set_append_right _ _ (Nat.le_refl _),Nat.sub_self,List.set_cons_zero]
    simpa using this
 intro ds azs h
 simpa using key azs [] ds h
theorem SK (hf:∀x,(f x).length=e) {xs:List α} {i:Nat} (hi:i<xs.length) (x:α):putAt (xs.flatMap f) (i*e) (f x)=(xs.set i x).flatMap f:=by
 induction xs generalizing i with
 | nil=>simp at hi
 | cons y ys ih=>
  cases i with
  | zero=>
   rw[Nat.zero_mul,Av3 _ _ (by simp[hf])]
   simp[hf]
  | succ i=>
   simp only[List.flatMap_cons,List.set_cons_succ]
   rw[show(i+1)*e=(f y).length+i*e by rw[hf,Nat.add_mul];omega,ZC]
   ·rw[ih (by simpa using hi)]
   ·rw[Nz hf,hf]
    have:=Nat.mul_le_mul_right e (show i+1≤ys.length by simp at hi;omega)
    rw[Nat.add_mul]at this;omega
theorem ZB (z:α) (n:Nat):(List.replicate n (f z)).flatten=(List.replicate n z).flatMap f:=by
 induction n with
 | zero=>rfl
 | succ n ih=>simp[List.replicate_succ,ih]
end
def fd (o:O):Prop:=o= .free∨o= .dead
@[simp] theorem AIX:fd .free:= .inl rfl
@[simp] theorem AI1:fd .dead:= .inr rfl
def mix {α:Type} (z:α) (xs:List α) (j:Nat):List α:=xs.take j++List.replicate (xs.length-j) z
section
variable {α:Type} {z:α} {xs:List α} {j:Nat}
@[simp] theorem AJa (h:j≤xs.length):(mix z xs j).length=xs.length:=by simp[mix];omega
theorem TN:mix z xs 0=List.replicate xs.length z:=by simp[mix]
theorem Zl (h:xs.length≤j):mix z xs j=xs:=by simp[mix,Nat.sub_eq_zero_of_le h,List.take_of_length_le h]
theorem Aal (h:j<xs.length):(mix z xs j).set j xs[j]=mix z xs (j+1):=by
 unfold mix
 have hl:(xs.take j).length=j:=by simp;omega
 rw[List.set_append_right _ _ (by omega),hl,Nat.sub_self]
 obtain⟨k,hk⟩:∃k,xs.length-j=k+1:=⟨xs.length-j-1,by omega⟩
 have hk':xs.length-(j+1)=k:=by omega
 have ht:xs.take (j+1)=xs.take j++ [xs[j]]:=by simp
 rw[hk,hk',List.replicate_succ,List.set_cons_zero,ht,List.append_assoc]
 rfl
end
theorem Ab {n:Int} (h1:-9223372036854775808≤n) (h2:n≤9223372036854775807):IntKind.i64.wrap n=n:=by
 show(if(true&&decide (n % (2 ^ 64:Int)≥(2 ^ 63:Int)))=true then n % (2 ^ 64:Int)-(2 ^ 64:Int)else n % (2 ^ 64:Int))=n
 by_cases h:n % (2 ^ 64:Int)≥(2 ^ 63:Int)
 ·rw[if_pos (by simp only[h];rfl)];omega
 ·rw[if_neg (by simp only[h];simp)];omega
section
variable {α:Type} {xs ys:List α} {j:Nat}
theorem Zx (hx:j<xs.length) (hy:j<ys.length) (h:xs.take j=ys.take j) (he:xs[j]=ys[j]):xs.take (j+1)=ys.take (j+1):=by
 rw[List.take_add_one,List.take_add_one,h,List.getElem?_eq_getElem hx,List.getElem?_eq_getElem hy,he]
theorem Ad5 (hx:xs.length≤j) (hl:xs.length=ys.length) (h:xs.take j=ys.take j):xs=ys:=by
 rwa [List.take_of_length_le hx,List.take_of_length_le (by omega)]at h
end
def Cu {α:Type} (f:α→Nat) (xs:List α):Nat:=xs.length+(xs.map f).sum
def YJ (d:AAc):Nat:=d.tags.length
def JS (d:Gu):Nat:=d.drops.length+d.strips.length
def DW (d:Eh):Nat:=YJ d.deal+d.up.length
def BX (d:BL):Nat:=d.stages.length
def Ar (d:Aq):Nat:=d.versions.length+d.tags.length+Cu JS d.path
def Ce (d:CO):Nat:=DW d.dialed
def Af (d:World):Nat:=d.server.length+d.tags.length+Cu Ar d.ends+BX d.rollout+Cu DW d.stage+Cu Ce d.log
def Lg (d:Event):Nat:=JS d.box
def szl (n:Nat) (l:Int):Int:=if l<n then -1 else l-n
section
variable {α:Type} {f:α→Nat} {xs:List α} {j:Nat}
theorem ACD (h:j<xs.length):((xs.take (j+1)).map f).sum=((xs.take j).map f).sum+f xs[j]:=by
 rw[List.take_add_one,List.getElem?_eq_getElem h,List.map_append,List.sum_append,Option.toList_some,List.map_cons,List.map_nil,List.sum_cons,List.sum_nil,Nat.add_zero]
theorem As3:((xs.take j).map f).sum≤(xs.map f).sum:=by
 conv=>rhs;rw[←List.take_append_drop j xs,List.map_append,List.sum_append]
 omega
theorem Aac (h:xs.length≤j):((xs.take j).map f).sum=(xs.map f).sum:=by rw[List.take_of_length_le h]
theorem size_at (h:j<xs.length):f xs[j]≤Cu f xs:=by
 have h1:=ACD (f:=f) h
 have h2:=As3 (f:=f) (xs:=xs) (j:=j+1)
 unfold Cu;omega
theorem K6:xs.length≤Cu f xs:=by unfold Cu;omega
end
def Uo (xs:List Int):Prop:=xs.length≤maxLen
def lnS {α:Type} (f:α→Prop) (xs:List α):Prop:=xs.length≤maxLen∧∀(j:Nat) (h:j<xs.length),f xs[j]
def Ak6 (d:AAc):Prop:=Uo d.tags
def JI (d:Gu):Prop:=Uo d.drops∧Uo d.strips
def Ku (d:Eh):Prop:=Ak6 d.deal∧Uo d.up
def Va (d:BL):Prop:=Uo d.stages
def AkQ (d:Aq):Prop:=Uo d.versions∧Uo d.tags∧lnS JI d.path
def Pk (d:CO):Prop:=Ku d.dialed
def AaL (d:World):Prop:=Uo d.server∧Uo d.tags∧lnS AkQ d.ends∧Va d.rollout∧lnS Ku d.stage∧lnS Pk d.log
def AsD (d:Event):Prop:=JI d.box
theorem JR (x:Gu):(Dy x).length=4:=rfl
theorem D8 (x:Eh):(A9 x).length=5:=rfl
theorem Eg (x:Aq):(Ak x).length=4:=rfl
theorem BP (x:CO):(Av x).length=8:=rfl
theorem DX (x:Event):(Cs x).length=6:=rfl
@[simp] theorem AI3 (xs:List Gu):(xs.flatMap Dy).map (AL 0)=xs.flatMap Dy:=ZF (fun _=>rfl) xs
@[simp] theorem AHn (xs:List Eh):(xs.flatMap A9).map (AL 0)=xs.flatMap A9:=ZF (fun _=>rfl) xs
@[simp] theorem AFx (xs:List Aq):(xs.flatMap Ak).map (AL 0)=xs.flatMap Ak:=ZF (fun _=>rfl) xs
@[simp] theorem AHa (xs:List CO):(xs.flatMap Av).map (AL 0)=xs.flatMap Av:=ZF (fun _=>rfl) xs
@[simp] theorem AHV (xs:List Event):(xs.flatMap Cs).map (AL 0)=xs.flatMap Cs:=ZF (fun _=>rfl) xs
@[simp high] theorem AIY {xs:List Gu} {j:Nat} (h:j<xs.length):Gs (xs.flatMap Dy) (j*4) 4=some (Dy xs[j]):=O1 JR h
@[simp high] theorem AHd {xs:List Eh} {j:Nat} (h:j<xs.length):Gs (xs.flatMap A9) (j*5) 5=some (A9 xs[j]):=O1 D8 h
@[simp high] theorem AFq {xs:List Aq} {j:Nat} (h:j<xs.length):Gs (xs.flatMap Ak) (j*4) 4=some (Ak xs[j]):=O1 Eg h
@[simp high] theorem AHP {xs:List CO} {j:Nat} (h:j<xs.length):Gs (xs.flatMap Av) (j*8) 8=some (Av xs[j]):=O1 BP h
@[simp high] theorem AIf {xs:List Event} {j:Nat} (h:j<xs.length):Gs (xs.flatMap Cs) (j*6) 6=some (Cs xs[j]):=O1 DX h
@[simp high] theorem AH8 (xs:List Gu):(xs.flatMap Dy).length=xs.length*4:=Nz JR xs
@[simp high] theorem AIQ {xs:List Gu} {j:Nat} (h:j<xs.length) (a:Int) (b c:List Int) (d:Bool) {nb:Nat} (hb:nb=b.length) {nc:Nat} (hc:nc=c.length):putAt (xs.flatMap Dy) (j*4) [.sc (.int .i64 a),.sl 0 1 nb (ints b),.sl 0 1 nc (ints c),.sc (.bool d)]=(xs.set j ⟨a,b,c,d⟩).flatMap Dy:=by subst hb;subst hc;exact SK JR h ⟨a,b,c,d⟩
@[simp high] theorem AEH (xs:List Eh):(xs.flatMap A9).length=xs.length*5:=Nz D8 xs
@[simp high] theorem AGs {xs:List Eh} {j:Nat} (h:j<xs.length) (a:Bool) (b:Int) (c:List Int) (d:Int) (u:List Int) {nc:Nat} (hc:nc=c.length) {nu:Nat} (hu:nu=u.length):putAt (xs.flatMap A9) (j*5) [.sc (.bool a),.sc (.int .i64 b),.sl 0 1 nc (ints c),.sc (.int .i64 d),.sl 0 1 nu (ints u)]=(xs.set j ⟨⟨a,b,c⟩,d,u⟩).flatMap A9:=by subst hc;subst hu;exact SK D8 h ⟨⟨a,b,c⟩,d,u⟩
@[simp high] theorem ACC (xs:List Aq):(xs.flatMap Ak).length=xs.length*4:=Nz Eg xs
@[simp high] theorem AEz {xs:List Aq} {j:Nat} (h:j<xs.length) (a b:List Int) (c:List Gu) (d:Int) {na:Nat} (ha:na=a.length) {nb:Nat} (hb:nb=b.length) {nc:Nat} (hc:nc=c.length):putAt (xs.flatMap Ak) (j*4) [.sl 0 1 na (ints a),.sl 0 1 nb (ints b),.sl 0 4 nc (c.flatMap Dy),.sc (.int .i64 d)]=(xs.set j ⟨a,b,c,d⟩).flatMap Ak:=by subst ha;subst hb;subst hc;exact SK Eg h ⟨a,b,c,d⟩
@[simp high] theorem AGd (xs:List CO):(xs.flatMap Av).length=xs.length*8:=Nz BP xs
@[simp high] theorem AGg {xs:List CO} {j:Nat} (h:j<xs.length) (m n:Int) (o a:Bool) (b:Int) (c:List Int) (d:Int) (u:List Int) {nc:Nat} (hc:nc=c.length) {nu:Nat} (hu:nu=u.length):putAt (xs.flatMap Av) (j*8) [.sc (.int .i64 m),.sc (.int .i64 n),.sc (.bool o),.sc (.bool a),.sc (.int .i64 b),.sl 0 1 nc (ints c),.sc (.int .i64 d),.sl 0 1 nu (ints u)]=(xs.set j ⟨m,n,o,⟨⟨a,b,c⟩,d,u⟩⟩).flatMap Av:=by subst hc;subst hu;exact SK BP h ⟨m,n,o,⟨⟨a,b,c⟩,d,u⟩⟩
@[simp high] theorem AGt (xs:List Event):(xs.flatMap Cs).length=xs.length*6:=Nz DX xs
@[simp high] theorem AHo {xs:List Event} {j:Nat} (h:j<xs.length) (m n:Int) (a:Int) (b c:List Int) (d:Bool) {nb:Nat} (hb:nb=b.length) {nc:Nat} (hc:nc=c.length):putAt (xs.flatMap Cs) (j*6) [.sc (.int .i64 m),.sc (.int .i64 n),.sc (.int .i64 a),.sl 0 1 nb (ints b),.sl 0 1 nc (ints c),.sc (.bool d)]=(xs.set j ⟨m,n,⟨a,b,c,d⟩⟩).flatMap Cs:=by subst hb;subst hc;exact SK DX h ⟨m,n,⟨a,b,c,d⟩⟩
@[simp high] theorem AI5 {xs:List Gu} {j:Nat} (h:j<xs.length):(xs.flatMap Dy)[j*4]? =some (.sc (.int .i64 xs[j].limit)):=by
 have:=AP (o:=0) JR h (by omega)
 simpa[Dy]using this
@[simp high] theorem AJl {xs:List Gu} {j:Nat} (h:j<xs.length):(xs.flatMap Dy)[j*4+1]? =some (.sl 0 1 xs[j].drops.length (ints xs[j].drops)):=by
 have:=AP (o:=1) JR h (by omega)
 simpa[Dy]using this
@[simp high] theorem AI9 {xs:List Gu} {j:Nat} (h:j<xs.length):(xs.flatMap Dy)[j*4+2]? =some (.sl 0 1 xs[j].strips.length (ints xs[j].strips)):=by
 have:=AP (o:=2) JR h (by omega)
 simpa[Dy]using this
@[simp high] theorem AJh {xs:List Gu} {j:Nat} (h:j<xs.length):(xs.flatMap Dy)[j*4+3]? =some (.sc (.bool xs[j].lists)):=by
 have:=AP (o:=3) JR h (by omega)
 simpa[Dy]using this
@[simp high] theorem AHD {xs:List Eh} {j:Nat} (h:j<xs.length):(xs.flatMap A9)[j*5]? =some (.sc (.bool xs[j].deal.ok)):=by
 have:=AP (o:=0) D8 h (by omega)
 simpa[A9]using this
@[simp high] theorem AHS {xs:List Eh} {j:Nat} (h:j<xs.length):(xs.flatMap A9)[j*5+1]? =some (.sc (.int .i64 xs[j].deal.version)):=by
 have:=AP (o:=1) D8 h (by omega)
 simpa[A9]using this
@[simp high] theorem AGU {xs:List Eh} {j:Nat} (h:j<xs.length):(xs.flatMap A9)[j*5+2]? =some (.sl 0 1 xs[j].deal.tags.length (ints xs[j].deal.tags)):=by
 have:=AP (o:=2) D8 h (by omega)
 simpa[A9]using this
@[simp high] theorem AHB {xs:List Eh} {j:Nat} (h:j<xs.length):(xs.flatMap A9)[j*5+3]? =some (.sc (.int .i64 xs[j].tries)):=by
 have:=AP (o:=3) D8 h (by omega)
 simpa[A9]using this
@[simp high] theorem AHv {xs:List Eh} {j:Nat} (h:j<xs.length):(xs.flatMap A9)[j*5+4]? =some (.sl 0 1 xs[j].up.length (ints xs[j].up)):=by
 have:=AP (o:=4) D8 h (by omega)
 simpa[A9]using this
@[simp high] theorem AFy {xs:List Aq} {j:Nat} (h:j<xs.length):(xs.flatMap Ak)[j*4]? =some (.sl 0 1 xs[j].versions.length (ints xs[j].versions)):=by
 have:=AP (o:=0) Eg h (by omega)
 simpa[Ak]using this
@[simp high] theorem AFU {xs:List Aq} {j:Nat} (h:j<xs.length):(xs.flatMap Ak)[j*4+1]? =some (.sl 0 1 xs[j].tags.length (ints xs[j].tags)):=by
 have:=AP (o:=1) Eg h (by omega)
 simpa[Ak]using this
@[simp high] theorem AFt {xs:List Aq} {j:Nat} (h:j<xs.length):(xs.flatMap Ak)[j*4+2]? =some (.sl 0 4 xs[j].path.length (xs[j].path.flatMap Dy)):=by
 have:=AP (o:=2) Eg h (by omega)
 simpa[Ak]using this
@[simp high] theorem AEV {xs:List Aq} {j:Nat} (h:j<xs.length):(xs.flatMap Ak)[j*4+3]? =some (.sc (.int .i64 xs[j].cls)):=by
 have:=AP (o:=3) Eg h (by omega)
 simpa[Ak]using this
@[simp high] theorem AGH {xs:List CO} {j:Nat} (h:j<xs.length):(xs.flatMap Av)[j*8]? =some (.sc (.int .i64 xs[j].fin)):=by
 have:=AP (o:=0) BP h (by omega)
 simpa[Av]using this
@[simp high] theorem AHu {xs:List CO} {j:Nat} (h:j<xs.length):(xs.flatMap Av)[j*8+1]? =some (.sc (.int .i64 xs[j].tick)):=by
 have:=AP (o:=1) BP h (by omega)
 simpa[Av]using this
@[simp high] theorem AHq {xs:List CO} {j:Nat} (h:j<xs.length):(xs.flatMap Av)[j*8+2]? =some (.sc (.bool xs[j].on)):=by
 have:=AP (o:=2) BP h (by omega)
 simpa[Av]using this
@[simp high] theorem AHN {xs:List CO} {j:Nat} (h:j<xs.length):(xs.flatMap Av)[j*8+3]? =some (.sc (.bool xs[j].dialed.deal.ok)):=by
 have:=AP (o:=3) BP h (by omega)
 simpa[Av]using this
@[simp high] theorem AGM {xs:List CO} {j:Nat} (h:j<xs.length):(xs.flatMap Av)[j*8+4]? =some (.sc (.int .i64 xs[j].dialed.deal.version)):=by
 have:=AP (o:=4) BP h (by omega)
 simpa[Av]using this
@[simp high] theorem AG9 {xs:List CO} {j:Nat} (h:j<xs.length):(xs.flatMap Av)[j*8+5]? =some (.sl 0 1 xs[j].dialed.deal.tags.length (ints xs[j].dialed.deal.tags)):=by
 have:=AP (o:=5) BP h (by omega)
 simpa[Av]using this
@[simp high] theorem AHc {xs:List CO} {j:Nat} (h:j<xs.length):(xs.flatMap Av)[j*8+6]? =some (.sc (.int .i64 xs[j].dialed.tries)):=by
 have:=AP (o:=6) BP h (by omega)
 simpa[Av]using this
@[simp high] theorem AHI {xs:List CO} {j:Nat} (h:j<xs.length):(xs.flatMap Av)[j*8+7]? =some (.sl 0 1 xs[j].dialed.up.length (ints xs[j].dialed.up)):=by
 have:=AP (o:=7) BP h (by omega)
 simpa[Av]using this
@[simp high] theorem AIn {xs:List Event} {j:Nat} (h:j<xs.length):(xs.flatMap Cs)[j*6]? =some (.sc (.int .i64 xs[j].kind)):=by
 have:=AP (o:=0) DX h (by omega)
 simpa[Cs]using this
@[simp high] theorem AIh {xs:List Event} {j:Nat} (h:j<xs.length):(xs.flatMap Cs)[j*6+1]? =some (.sc (.int .i64 xs[j].n)):=by
 have:=AP (o:=1) DX h (by omega)
 simpa[Cs]using this
@[simp high] theorem AH6 {xs:List Event} {j:Nat} (h:j<xs.length):(xs.flatMap Cs)[j*6+2]? =some (.sc (.int .i64 xs[j].box.limit)):=by
 have:=AP (o:=2) DX h (by omega)
 simpa[Cs]using this
@[simp high] theorem AH9 {xs:List Event} {j:Nat} (h:j<xs.length):(xs.flatMap Cs)[j*6+3]? =some (.sl 0 1 xs[j].box.drops.length (ints xs[j].box.drops)):=by
 have:=AP (o:=3) DX h (by omega)
 simpa[Cs]using this
@[simp high] theorem AH1 {xs:List Event} {j:Nat} (h:j<xs.length):(xs.flatMap Cs)[j*6+4]? =some (.sl 0 1 xs[j].box.strips.length (ints xs[j].box.strips)):=by
 have:=AP (o:=4) DX h (by omega)
 simpa[Cs]using this
@[simp high] theorem AIm {xs:List Event} {j:Nat} (h:j<xs.length):(xs.flatMap Cs)[j*6+5]? =some (.sc (.bool xs[j].box.lists)):=by
 have:=AP (o:=5) DX h (by omega)
 simpa[Cs]using this
theorem Rx {α:Type} {f:α→List V} {e:Nat} (hf:∀x,(f x).length=e) {xs:List α} {j o n:Nat} (h:j<xs.length) (ho:o+n≤e):Gs (xs.flatMap f) (j*e+o) n=some (((f xs[j]).drop o).take n):=by
 unfold Gs
 have hl:=Nz hf xs
 have h2:j*e+e≤xs.length*e:=by
  have:=Nat.mul_le_mul_right e (show j+1≤xs.length by omega)
  rw[Nat.add_mul]at this;omega
 rw[hl,if_pos (by omega),←List.drop_drop,Y6 hf,List.drop_eq_getElem_cons h,List.flatMap_cons,List.drop_append,List.take_append]
 have h3:=hf xs[j]
 rw[List.length_drop,h3]
 have:n-(e-o)=0:=by omega
 rw[this,List.take_zero,List.append_nil]
@[simp high] theorem AG3 {xs:List CO} {j:Nat} (h:j<xs.length):Gs (xs.flatMap Av) (j*8+3) 5=some (A9 xs[j].dialed):=Rx BP h (by omega)
@[simp high] theorem AHh {xs:List CO} {j:Nat} (h:j<xs.length):Gs (xs.flatMap Av) (j*8+3) 3=some (Asq xs[j].dialed.deal):=Rx BP h (by omega)
@[simp high] theorem AHs {xs:List Eh} {j:Nat} (h:j<xs.length):Gs (xs.flatMap A9) (j*5) 3=some (Asq xs[j].deal):=Rx (o:=0) D8 h (by omega)
@[simp high] theorem AH5 {xs:List Event} {j:Nat} (h:j<xs.length):Gs (xs.flatMap Cs) (j*6+2) 4=some (Dy xs[j].box):=Rx DX h (by omega)
attribute [simp] Nat.add_one_le_iff Asq Dy A9 F7 Ak Av Bn Cs
end Go.Eng.T
namespace Go.Eng.T
abbrev Qo (R:Rel):Prop:=∀a b c:Int,R [I a,I b,I c] [] (B (decide (b≤a∧a≤c))) []
theorem AHp (D:Dn):Qo (Body D AbI):=by
 intro a b c
 by_cases h1:b≤a<;>by_cases h2:a≤c<;>simp -implicitDefEqProofs [h1,h2]
theorem Az5 (D:Dn):Qo (Body D U3):=by
 intro a b c
 by_cases h1:b≤a<;>by_cases h2:a≤c<;>simp -implicitDefEqProofs [h1,h2]
end Go.Eng.T
namespace Go.Eng.T
abbrev NI (R:Rel):Prop:=∀(xs:List Int) (l:Int),0≤l→l≤4194304→Uo xs→R [.sl 1 1 xs.length (ints xs),I l] [] (I (szl xs.length l)) []
theorem AqR (D:Dn):NI (Body D RL):=by
 intro xs l h1 h2 h3
 have hw:IntKind.i64.wrap (l-(xs.length:Int))=l-xs.length:=by unfold Uo maxLen at h3;exact Ab (by omega) (by omega)
 by_cases h:l<xs.length
 ·have h':l-(xs.length:Int)<0:=by omega
  simp -implicitDefEqProofs [hw,h,h',szl]
 ·have h':¬l-(xs.length:Int)<0:=by omega
  simp -implicitDefEqProofs [hw,h,h',szl]
abbrev Oz (R:Rel):Prop:=∀(xs:List Int),xs.length*8≤2 ^ 40→R [.sl 1 1 xs.length (ints xs)] [] (.sl 0 1 xs.length (ints xs)) []
theorem Arp (D:Dn):Oz (Body D Rl):=by
 intro xs hl
 have h1:((xs.length:Nat):Int)*8≤1099511627776:=by omega
 simp -implicitDefEqProofs [h1]
 refine Ad (fun k s=>∃j,j+k=xs.length∧s=⟨[.sl 1 1 xs.length (ints xs),.undef,.arr 0,.sc (.int .i64 j),.undef],[.arr 1 0 xs.length (ints (mix 0 xs j))]⟩) ?_ xs.length _ ⟨0,by simp,by simp[TN,ints]⟩
 intro k s ⟨j,hj,hs⟩
 subst hs
 by_cases hjn:j<xs.length
 ·have hw:IntKind.i64.wrap ((j:Int)+1)=(j+1:Nat):=by rw[Ab (by omega) (by omega)];simp
  simp -implicitDefEqProofs [hjn,Nat.le_of_lt hjn,Aal]
  exact⟨k-1,by omega,j+1,by omega,by simp[hw],rfl⟩
 ·have hje:mix 0 xs j=xs:=Zl (by omega)
  simp -implicitDefEqProofs [hjn,hje]
abbrev Pp (R:Rel):Prop:=∀(xs ys:List Int),xs.length≤maxLen→ys.length≤maxLen→R [.sl 1 1 xs.length (ints xs),.sl 1 1 ys.length (ints ys)] [] (B (decide (xs=ys))) []
theorem Aqk (D:Dn):Pp (Body D Rt):=by
 intro xs ys h1 h2
 unfold maxLen at h1 h2
 by_cases hl:xs.length=ys.length
 ·have hl':(xs.length:Int)=ys.length:=by omega
  simp -implicitDefEqProofs [hl']
  refine Ad (fun k s=>∃j,j+k=xs.length∧xs.take j=ys.take j∧s=⟨[.sl 1 1 xs.length (ints xs),.sl 1 1 ys.length (ints ys),.undef,.sc (.int .i64 j),.undef,.undef,.undef],[]⟩) ?_ xs.length _ ⟨0,by simp,by simp,by simp⟩
  intro k s ⟨j,hj,hp,hs⟩
  subst hs
  by_cases hjn:j<xs.length
  ·have hw:IntKind.i64.wrap ((j:Int)+1)=(j+1:Nat):=by rw[Ab (by omega) (by omega)];simp
   have hy:j<ys.length:=by omega
   by_cases he:xs[j]=ys[j]
   ·simp -implicitDefEqProofs [hjn,hy,he]
    exact⟨k-1,by omega,j+1,by omega,Zx hjn hy hp he,by simp[hw]⟩
   ·have hne:xs≠ys:=fun h=>he (by simp[h])
    simp -implicitDefEqProofs [hjn,hy,he,hne]
  ·obtain rfl:xs=ys:=Ad5 (by omega) hl hp
   simp -implicitDefEqProofs [hjn]
 ·have hl':¬(xs.length:Int)=ys.length:=by omega
  have:xs≠ys:=fun h=>hl (by rw[h])
  simp -implicitDefEqProofs [hl',this]
end Go.Eng.T
namespace Go.Eng.T
abbrev Alx (R:Rel):Prop:=∀(x:Gu) (l:Int),0≤l→l≤4194304→JI x→R [arg (Dy x),I l] [] (I (szl (JS x) l)) []
theorem ArJ (D:Dn) (hszIntS:NI (D 16)):Alx (Body D Ux):=by
 intro x l hl1 hl2 hln
 simp only[JI]at hln
 simp -implicitDefEqProofs
 refine Aa (hszIntS x.drops (l) (by omega) (by omega) hln.1) ?_
 by_cases g0:l<((x.drops.length:Nat):Int)
 ·have gg:l<((JS x:Nat):Int):=by simp only[JS];omega
  have e1:szl (x.drops.length) (l)= -1:=by unfold szl;rw[if_pos g0]
  have e2:szl (JS x) l= -1:=by unfold szl;rw[if_pos gg]
  simp -implicitDefEqProofs [e1,e2]
 have e3:szl (x.drops.length) (l)=l-((x.drops.length:Nat):Int):=by unfold szl;rw[if_neg g0]
 have p0:¬l-((x.drops.length:Nat):Int)<0:=by omega
 simp -implicitDefEqProofs [e3,p0]
 refine Aa (hszIntS x.strips (l-((x.drops.length:Nat):Int)) (by omega) (by omega) hln.2) ?_
 by_cases g1:l-((x.drops.length:Nat):Int)<((x.strips.length:Nat):Int)
 ·have gg:l<((JS x:Nat):Int):=by simp only[JS];omega
  have e1:szl (x.strips.length) (l-((x.drops.length:Nat):Int))= -1:=by unfold szl;rw[if_pos g1]
  have e2:szl (JS x) l= -1:=by unfold szl;rw[if_pos gg]
  simp -implicitDefEqProofs [e1,e2]
 have e4:szl (x.strips.length) (l-((x.drops.length:Nat):Int))=l-((x.drops.length:Nat):Int)-((x.strips.length:Nat):Int):=by unfold szl;rw[if_neg g1]
 have p1:¬l-((x.drops.length:Nat):Int)-((x.strips.length:Nat):Int)<0:=by omega
 simp -implicitDefEqProofs [e4,p1]
 have gg:¬l<((JS x:Nat):Int):=by simp only[JS];omega
 unfold szl;rw[if_neg gg];simp only[JS]<;>omega
abbrev AkB (R:Rel):Prop:=∀x:Gu,JS x≤4194304→R [arg (Dy x)] [] (.agg (Dy x)) []
theorem Asz (D:Dn) (htoIntS:Oz (D 31)):AkB (Body D Uv):=by
 intro x h
 simp only[JS]at h
 simp -implicitDefEqProofs
 refine Aa (htoIntS x.drops (by omega)) ?_
 simp -implicitDefEqProofs
 refine Aa (htoIntS x.strips (by omega)) ?_
 simp -implicitDefEqProofs
abbrev Amk (R:Rel):Prop:=∀x y:Gu,JS x≤2 ^ 40→JS y≤2 ^ 40→R [arg (Dy x),arg (Dy y)] [] (B (decide (x=y))) []
theorem Asn (D:Dn) (heqIntS:Pp (D 47)):Amk (Body D UQ):=by
 intro x y h1 h2
 simp only[JS]at h1 h2
 by_cases g_limit:x.limit=y.limit
 rotate_left
 ·have hne:x≠y:=fun h=>g_limit (by rw[h])
  simp -implicitDefEqProofs [g_limit,hne]
 simp -implicitDefEqProofs [g_limit]
 refine Aa (heqIntS x.drops y.drops (by unfold maxLen;omega) (by unfold maxLen;omega)) ?_
 by_cases g_drops:x.drops=y.drops
 rotate_left
 ·have hne:x≠y:=fun h=>g_drops (by rw[h])
  simp -implicitDefEqProofs [g_drops,hne]
 simp -implicitDefEqProofs [g_drops]
 refine Aa (heqIntS x.strips y.strips (by unfold maxLen;omega) (by unfold maxLen;omega)) ?_
 by_cases g_strips:x.strips=y.strips
 rotate_left
 ·have hne:x≠y:=fun h=>g_strips (by rw[h])
  simp -implicitDefEqProofs [g_strips,hne]
 simp -implicitDefEqProofs [g_strips]
 by_cases g_lists:x.lists=y.lists
 rotate_left
 ·have hne:x≠y:=fun h=>g_lists (by rw[h])
  simp -implicitDefEqProofs [g_lists,hne]
 simp -implicitDefEqProofs [g_lists]
 have hxy:x=y:=by cases x;cases y;simp_all
 simp -implicitDefEqProofs [hxy]
abbrev AtA (R:Rel):Prop:=∀(x:Event) (l:Int),0≤l→l≤4194304→AsD x→R [arg (Cs x),I l] [] (I (szl (Lg x) l)) []
abbrev AtB (R:Rel):Prop:=∀x:Event,Lg x≤4194304→R [arg (Cs x)] [] (.agg (Cs x)) []
abbrev Atz (R:Rel):Prop:=∀x y:Event,Lg x≤2 ^ 40→Lg y≤2 ^ 40→R [arg (Cs x),arg (Cs y)] [] (B (decide (x=y))) []
end Go.Eng.T
namespace Go.Eng.T
abbrev Afc (R:Rel):Prop:=∀xs ys:List Gu,Cu JS xs≤2 ^ 40→Cu JS ys≤2 ^ 40→R [.sl 1 4 xs.length (xs.flatMap Dy),.sl 1 4 ys.length (ys.flatMap Dy)] [] (B (decide (xs=ys))) []
theorem Aqr (D:Dn) (heq:Amk (D 249)):Afc (Body D Rw):=by
 intro xs ys h1 h2
 have hlen:=K6 (f:=JS) (xs:=xs)
 by_cases hl:xs.length=ys.length
 ·have hl':(xs.length:Int)=ys.length:=by omega
  simp -implicitDefEqProofs [hl']
  refine Ad (fun k s=>∃j,j+k=xs.length∧xs.take j=ys.take j∧s=⟨[.sl 1 4 xs.length (xs.flatMap Dy),.sl 1 4 ys.length (ys.flatMap Dy),.undef,.sc (.int .i64 j),.undef,.undef,.undef],[]⟩) ?_ xs.length _ ⟨0,by simp,by simp,by simp⟩
  intro k s ⟨j,hj,hp,hs⟩
  subst hs
  by_cases hjn:j<xs.length
  ·have hw:IntKind.i64.wrap ((j:Int)+1)=(j+1:Nat):=by rw[Ab (by omega) (by omega)];simp
   have hy:j<ys.length:=by omega
   have hsx:=size_at (f:=JS) hjn
   have hsy:=size_at (f:=JS) hy
   simp -implicitDefEqProofs [hjn,hy]
   refine Aa (heq xs[j] ys[j] (by omega) (by omega)) ?_
   by_cases he:xs[j]=ys[j]
   ·simp -implicitDefEqProofs [he]
    exact⟨k-1,by omega,j+1,by omega,Zx hjn hy hp he,by simp[hw]⟩
   ·have hne:xs≠ys:=fun h=>he (by simp[h])
    simp -implicitDefEqProofs [he,hne]
  ·obtain rfl:xs=ys:=Ad5 (by omega) hl hp
   simp -implicitDefEqProofs [hjn]
 ·have hl':¬(xs.length:Int)=ys.length:=by omega
  have:xs≠ys:=fun h=>hl (by rw[h])
  simp -implicitDefEqProofs [hl',this]
abbrev Pz (R:Rel):Prop:=∀x y:Aq,Ar x≤2 ^ 40→Ar y≤2 ^ 40→R [arg (Ak x),arg (Ak y)] [] (B (decide (x=y))) []
theorem AkL (D:Dn) (heqIntS:Pp (D 47)) (heqBoxS:Afc (D 204)):Pz (Body D JO):=by
 intro x y h1 h2
 simp only[Ar]at h1 h2
 simp -implicitDefEqProofs
 refine Aa (heqIntS x.versions y.versions (by unfold maxLen;omega) (by unfold maxLen;omega)) ?_
 by_cases g_versions:x.versions=y.versions
 rotate_left
 ·have hne:x≠y:=fun h=>g_versions (by rw[h])
  simp -implicitDefEqProofs [g_versions,hne]
 simp -implicitDefEqProofs [g_versions]
 refine Aa (heqIntS x.tags y.tags (by unfold maxLen;omega) (by unfold maxLen;omega)) ?_
 by_cases g_tags:x.tags=y.tags
 rotate_left
 ·have hne:x≠y:=fun h=>g_tags (by rw[h])
  simp -implicitDefEqProofs [g_tags,hne]
 simp -implicitDefEqProofs [g_tags]
 refine Aa (heqBoxS x.path y.path (by omega) (by omega)) ?_
 by_cases g_path:x.path=y.path
 rotate_left
 ·have hne:x≠y:=fun h=>g_path (by rw[h])
  simp -implicitDefEqProofs [g_path,hne]
 simp -implicitDefEqProofs [g_path]
 by_cases g_cls:x.cls=y.cls
 rotate_left
 ·have hne:x≠y:=fun h=>g_cls (by rw[h])
  simp -implicitDefEqProofs [g_cls,hne]
 simp -implicitDefEqProofs [g_cls]
 have hxy:x=y:=by cases x;cases y;simp_all
 simp -implicitDefEqProofs [hxy]
abbrev Oo (R:Rel):Prop:=∀xs ys:List Aq,Cu Ar xs≤2 ^ 40→Cu Ar ys≤2 ^ 40→R [.sl 1 4 xs.length (xs.flatMap Ak),.sl 1 4 ys.length (ys.flatMap Ak)] [] (B (decide (xs=ys))) []
theorem Aj6 (D:Dn) (heq:Pz (D 134)):Oo (Body D Jt):=by
 intro xs ys h1 h2
 have hlen:=K6 (f:=Ar) (xs:=xs)
 by_cases hl:xs.length=ys.length
 ·have hl':(xs.length:Int)=ys.length:=by omega
  simp -implicitDefEqProofs [hl']
  refine Ad (fun k s=>∃j,j+k=xs.length∧xs.take j=ys.take j∧s=⟨[.sl 1 4 xs.length (xs.flatMap Ak),.sl 1 4 ys.length (ys.flatMap Ak),.undef,.sc (.int .i64 j),.undef,.undef,.undef],[]⟩) ?_ xs.length _ ⟨0,by simp,by simp,by simp⟩
  intro k s ⟨j,hj,hp,hs⟩
  subst hs
  by_cases hjn:j<xs.length
  ·have hw:IntKind.i64.wrap ((j:Int)+1)=(j+1:Nat):=by rw[Ab (by omega) (by omega)];simp
   have hy:j<ys.length:=by omega
   have hsx:=size_at (f:=Ar) hjn
   have hsy:=size_at (f:=Ar) hy
   simp -implicitDefEqProofs [hjn,hy]
   refine Aa (heq xs[j] ys[j] (by omega) (by omega)) ?_
   by_cases he:xs[j]=ys[j]
   ·simp -implicitDefEqProofs [he]
    exact⟨k-1,by omega,j+1,by omega,Zx hjn hy hp he,by simp[hw]⟩
   ·have hne:xs≠ys:=fun h=>he (by simp[h])
    simp -implicitDefEqProofs [he,hne]
  ·obtain rfl:xs=ys:=Ad5 (by omega) hl hp
   simp -implicitDefEqProofs [hjn]
 ·have hl':¬(xs.length:Int)=ys.length:=by omega
  have:xs≠ys:=fun h=>hl (by rw[h])
  simp -implicitDefEqProofs [hl',this]
end Go.Eng.T
namespace Go.Eng.T
abbrev Afb (R:Rel):Prop:=∀xs:List Gu,Cu JS xs≤4194304→R [.sl 1 4 xs.length (xs.flatMap Dy)] [] (.sl 0 4 xs.length (xs.flatMap Dy)) []
theorem AqQ (D:Dn) (hto:AkB (D 226)):Afb (Body D QZ):=by
 intro xs h
 have hlen:=K6 (f:=JS) (xs:=xs)
 have h1:((xs.length:Nat):Int)*64≤1099511627776:=by omega
 simp -implicitDefEqProofs [h1]
 refine Ad (fun k s=>∃j o1 o2,j+k=xs.length∧s=⟨[.sl 1 4 xs.length (xs.flatMap Dy),.undef,.arr 0,.sc (.int .i64 j),.undef],[.arr 4 0 xs.length ((mix (⟨0,[],[],false⟩:Gu) xs j).flatMap Dy),o1,o2]⟩) ?_ xs.length _ ⟨0,.free,.free,by simp,by simp[TN];exact ZB (f:=Dy) (⟨0,[],[],false⟩:Gu) _⟩
 intro k s ⟨j,o1,o2,hj,hs⟩
 subst hs
 by_cases hjn:j<xs.length
 ·have hw:IntKind.i64.wrap ((j:Int)+1)=(j+1:Nat):=by rw[Ab (by omega) (by omega)];simp
  have hsz:=size_at (f:=JS) hjn
  have hfit:j*4+4≤xs.length*4:=by omega
  have hjl:j≤xs.length:=by omega
  simp -implicitDefEqProofs [hjn]
  refine Aa (hto xs[j] (by omega)) ?_
  simp -implicitDefEqProofs [hjn,hfit,hjl]
  exact⟨k-1,by omega,j+1,by omega,by simp[hw],by rw[←Aal hjn]⟩
 ·have hje:mix (⟨0,[],[],false⟩:Gu) xs j=xs:=Zl (by omega)
  simp -implicitDefEqProofs [hjn,hje]
abbrev Afm (R:Rel):Prop:=∀(xs:List Gu) (l:Int),0≤l→l≤4194304→lnS JI xs→R [.sl 1 4 xs.length (xs.flatMap Dy),I l] [] (I (szl (Cu JS xs) l)) []
theorem AqO (D:Dn) (hsz:Alx (D 206)):Afm (Body D QL):=by
 intro xs l h1 h2 hln
 have h3:=hln.1
 unfold maxLen at h3
 have hw:IntKind.i64.wrap (l-(xs.length:Int))=l-xs.length:=Ab (by omega) (by omega)
 by_cases h:l<(xs.length:Int)
 ·have h':l-(xs.length:Int)<0:=by omega
  have e2:szl (Cu JS xs) l= -1:=by unfold szl Cu;rw[if_pos (by omega)]
  simp -implicitDefEqProofs [hw,h',e2]
 ·have h':¬l-(xs.length:Int)<0:=by omega
  simp -implicitDefEqProofs [hw,h']
  refine Ad (fun k s=>∃j,j+k=xs.length∧((xs.take j).map JS).sum+xs.length≤l∧s=⟨[.sl 1 4 xs.length (xs.flatMap Dy),.sc (.int .i64 (l-xs.length-((((xs.take j).map JS).sum:Nat):Int))),.undef,.sc (.int .i64 j),.undef,.undef,.undef],[]⟩) ?_ xs.length _ ⟨0,by simp,by simp;omega,by simp⟩
  intro k s ⟨j,hj,hp,hs⟩
  subst hs
  by_cases hjn:j<xs.length
  ·have hw:IntKind.i64.wrap ((j:Int)+1)=(j+1:Nat):=by rw[Ab (by omega) (by omega)];simp
   have ht:=ACD (f:=JS) hjn
   have htl:=As3 (f:=JS) (xs:=xs) (j:=j+1)
   simp -implicitDefEqProofs [hjn, -List.map_take]
   refine Aa (hsz xs[j] _ (by omega) (by omega) (hln.2 j hjn)) ?_
   by_cases he:l-xs.length-((((xs.take j).map JS).sum:Nat):Int)<JS xs[j]
   ·have e1:szl (JS xs[j]) (l-xs.length-((((xs.take j).map JS).sum:Nat):Int))= -1:=by unfold szl;rw[if_pos he]
    have e2:szl (Cu JS xs) l= -1:=by unfold szl Cu;rw[if_pos (by omega)]
    simp -implicitDefEqProofs [e1,e2, -List.map_take]
   ·have e1:szl (JS xs[j]) (l-xs.length-((((xs.take j).map JS).sum:Nat):Int))=l-xs.length-((((xs.take j).map JS).sum:Nat):Int)-JS xs[j]:=by unfold szl;rw[if_neg he]
    have e3:¬l-xs.length-((((xs.take j).map JS).sum:Nat):Int)-JS xs[j]<0:=by omega
    simp -implicitDefEqProofs [e1,e3, -List.map_take]
    refine⟨k-1,by omega,j+1,by omega,by omega,?_,by simp[hw]⟩
    rw[ht];omega
  ·have hsm:=Aac (f:=JS) (xs:=xs) (j:=j) (by omega)
   have e2:szl (Cu JS xs) l=l-xs.length-((((xs.take j).map JS).sum:Nat):Int):=by unfold szl Cu;rw[if_neg (by omega)];omega
   simp -implicitDefEqProofs [hjn,e2, -List.map_take]
abbrev P8 (R:Rel):Prop:=∀(x:Aq) (l:Int),0≤l→l≤4194304→AkQ x→R [arg (Ak x),I l] [] (I (szl (Ar x) l)) []
theorem Ama (D:Dn) (hszIntS:NI (D 16)) (hszBoxS:Afm (D 139)):P8 (Body D JY):=by
 intro x l hl1 hl2 hln
 simp only[AkQ]at hln
 simp -implicitDefEqProofs
 refine Aa (hszIntS x.versions (l) (by omega) (by omega) hln.1) ?_
 by_cases g0:l<((x.versions.length:Nat):Int)
 ·have gg:l<((Ar x:Nat):Int):=by simp only[Ar];omega
  have e1:szl (x.versions.length) (l)= -1:=by unfold szl;rw[if_pos g0]
  have e2:szl (Ar x) l= -1:=by unfold szl;rw[if_pos gg]
  simp -implicitDefEqProofs [e1,e2]
 have e3:szl (x.versions.length) (l)=l-((x.versions.length:Nat):Int):=by unfold szl;rw[if_neg g0]
 have p0:¬l-((x.versions.length:Nat):Int)<0:=by omega
 simp -implicitDefEqProofs [e3,p0]
 refine Aa (hszIntS x.tags (l-((x.versions.length:Nat):Int)) (by omega) (by omega) hln.2.1) ?_
 by_cases g1:l-((x.versions.length:Nat):Int)<((x.tags.length:Nat):Int)
 ·have gg:l<((Ar x:Nat):Int):=by simp only[Ar];omega
  have e1:szl (x.tags.length) (l-((x.versions.length:Nat):Int))= -1:=by unfold szl;rw[if_pos g1]
  have e2:szl (Ar x) l= -1:=by unfold szl;rw[if_pos gg]
  simp -implicitDefEqProofs [e1,e2]
 have e4:szl (x.tags.length) (l-((x.versions.length:Nat):Int))=l-((x.versions.length:Nat):Int)-((x.tags.length:Nat):Int):=by unfold szl;rw[if_neg g1]
 have p1:¬l-((x.versions.length:Nat):Int)-((x.tags.length:Nat):Int)<0:=by omega
 simp -implicitDefEqProofs [e4,p1]
 refine Aa (hszBoxS x.path (l-((x.versions.length:Nat):Int)-((x.tags.length:Nat):Int)) (by omega) (by omega) hln.2.2) ?_
 by_cases g2:l-((x.versions.length:Nat):Int)-((x.tags.length:Nat):Int)<((Cu JS x.path:Nat):Int)
 ·have gg:l<((Ar x:Nat):Int):=by simp only[Ar];omega
  have e1:szl (Cu JS x.path) (l-((x.versions.length:Nat):Int)-((x.tags.length:Nat):Int))= -1:=by unfold szl;rw[if_pos g2]
  have e2:szl (Ar x) l= -1:=by unfold szl;rw[if_pos gg]
  simp -implicitDefEqProofs [e1,e2]
 have e5:szl (Cu JS x.path) (l-((x.versions.length:Nat):Int)-((x.tags.length:Nat):Int))=l-((x.versions.length:Nat):Int)-((x.tags.length:Nat):Int)-((Cu JS x.path:Nat):Int):=by unfold szl;rw[if_neg g2]
 have p2:¬l-((x.versions.length:Nat):Int)-((x.tags.length:Nat):Int)-((Cu JS x.path:Nat):Int)<0:=by omega
 simp -implicitDefEqProofs [e5,p2]
 have gg:¬l<((Ar x:Nat):Int):=by simp only[Ar];omega
 unfold szl;rw[if_neg gg];simp only[Ar]<;>omega
abbrev P9 (R:Rel):Prop:=∀x:Aq,Ar x≤4194304→R [arg (Ak x)] [] (.agg (Ak x)) []
theorem Akx (D:Dn) (htoIntS:Oz (D 31)) (htoBoxS:Afb (D 170)):P9 (Body D Kr):=by
 intro x h
 simp only[Ar]at h
 simp -implicitDefEqProofs
 refine Aa (htoIntS x.versions (by omega)) ?_
 simp -implicitDefEqProofs
 refine Aa (htoIntS x.tags (by omega)) ?_
 simp -implicitDefEqProofs
 refine Aa (htoBoxS x.path (by omega)) ?_
 simp -implicitDefEqProofs
abbrev NY (R:Rel):Prop:=∀(xs:List Aq) (l:Int),0≤l→l≤4194304→lnS AkQ xs→R [.sl 1 4 xs.length (xs.flatMap Ak),I l] [] (I (szl (Cu Ar xs) l)) []
theorem Aij (D:Dn) (hsz:P8 (D 62)):NY (Body D JC):=by
 intro xs l h1 h2 hln
 have h3:=hln.1
 unfold maxLen at h3
 have hw:IntKind.i64.wrap (l-(xs.length:Int))=l-xs.length:=Ab (by omega) (by omega)
 by_cases h:l<(xs.length:Int)
 ·have h':l-(xs.length:Int)<0:=by omega
  have e2:szl (Cu Ar xs) l= -1:=by unfold szl Cu;rw[if_pos (by omega)]
  simp -implicitDefEqProofs [hw,h',e2]
 ·have h':¬l-(xs.length:Int)<0:=by omega
  simp -implicitDefEqProofs [hw,h']
  refine Ad (fun k s=>∃j,j+k=xs.length∧((xs.take j).map Ar).sum+xs.length≤l∧s=⟨[.sl 1 4 xs.length (xs.flatMap Ak),.sc (.int .i64 (l-xs.length-((((xs.take j).map Ar).sum:Nat):Int))),.undef,.sc (.int .i64 j),.undef,.undef,.undef],[]⟩) ?_ xs.length _ ⟨0,by simp,by simp;omega,by simp⟩
  intro k s ⟨j,hj,hp,hs⟩
  subst hs
  by_cases hjn:j<xs.length
  ·have hw:IntKind.i64.wrap ((j:Int)+1)=(j+1:Nat):=by rw[Ab (by omega) (by omega)];simp
   have ht:=ACD (f:=Ar) hjn
   have htl:=As3 (f:=Ar) (xs:=xs) (j:=j+1)
   simp -implicitDefEqProofs [hjn, -List.map_take]
   refine Aa (hsz xs[j] _ (by omega) (by omega) (hln.2 j hjn)) ?_
   by_cases he:l-xs.length-((((xs.take j).map Ar).sum:Nat):Int)<Ar xs[j]
   ·have e1:szl (Ar xs[j]) (l-xs.length-((((xs.take j).map Ar).sum:Nat):Int))= -1:=by unfold szl;rw[if_pos he]
    have e2:szl (Cu Ar xs) l= -1:=by unfold szl Cu;rw[if_pos (by omega)]
    simp -implicitDefEqProofs [e1,e2, -List.map_take]
   ·have e1:szl (Ar xs[j]) (l-xs.length-((((xs.take j).map Ar).sum:Nat):Int))=l-xs.length-((((xs.take j).map Ar).sum:Nat):Int)-Ar xs[j]:=by unfold szl;rw[if_neg he]
    have e3:¬l-xs.length-((((xs.take j).map Ar).sum:Nat):Int)-Ar xs[j]<0:=by omega
    simp -implicitDefEqProofs [e1,e3, -List.map_take]
    refine⟨k-1,by omega,j+1,by omega,by omega,?_,by simp[hw]⟩
    rw[ht];omega
  ·have hsm:=Aac (f:=Ar) (xs:=xs) (j:=j) (by omega)
   have e2:szl (Cu Ar xs) l=l-xs.length-((((xs.take j).map Ar).sum:Nat):Int):=by unfold szl Cu;rw[if_neg (by omega)];omega
   simp -implicitDefEqProofs [hjn,e2, -List.map_take]
abbrev Nj (R:Rel):Prop:=∀xs:List Aq,Cu Ar xs≤4194304→R [.sl 1 4 xs.length (xs.flatMap Ak)] [] (.sl 0 4 xs.length (xs.flatMap Ak)) []
theorem AjL (D:Dn) (hto:P9 (D 98)):Nj (Body D Jk):=by
 intro xs h
 have hlen:=K6 (f:=Ar) (xs:=xs)
 have h1:((xs.length:Nat):Int)*80≤1099511627776:=by omega
 simp -implicitDefEqProofs [h1]
 refine Ad (fun k s=>∃j o1 o2 o3,j+k=xs.length∧s=⟨[.sl 1 4 xs.length (xs.flatMap Ak),.undef,.arr 0,.sc (.int .i64 j),.undef],[.arr 4 0 xs.length ((mix (⟨[],[],[],0⟩:Aq) xs j).flatMap Ak),o1,o2,o3]⟩) ?_ xs.length _ ⟨0,.free,.free,.free,by simp,by simp[TN];exact ZB (f:=Ak) (⟨[],[],[],0⟩:Aq) _⟩
 intro k s ⟨j,o1,o2,o3,hj,hs⟩
 subst hs
 by_cases hjn:j<xs.length
 ·have hw:IntKind.i64.wrap ((j:Int)+1)=(j+1:Nat):=by rw[Ab (by omega) (by omega)];simp
  have hsz:=size_at (f:=Ar) hjn
  have hfit:j*4+4≤xs.length*4:=by omega
  have hjl:j≤xs.length:=by omega
  simp -implicitDefEqProofs [hjn]
  refine Aa (hto xs[j] (by omega)) ?_
  simp -implicitDefEqProofs [hjn,hfit,hjl]
  exact⟨k-1,by omega,j+1,by omega,by simp[hw],by rw[←Aal hjn]⟩
 ·have hje:mix (⟨[],[],[],0⟩:Aq) xs j=xs:=Zl (by omega)
  simp -implicitDefEqProofs [hjn,hje]
abbrev Q0 (R:Rel):Prop:=∀(x:BL) (l:Int),0≤l→l≤4194304→Va x→R [arg (F7 x),I l] [] (I (szl (BX x) l)) []
theorem AmP (D:Dn) (hszIntS:NI (D 16)):Q0 (Body D MC):=by
 intro x l hl1 hl2 hln
 simp only[Va]at hln
 simp -implicitDefEqProofs
 refine Aa (hszIntS x.stages (l) (by omega) (by omega) hln) ?_
 by_cases g0:l<((x.stages.length:Nat):Int)
 ·have gg:l<((BX x:Nat):Int):=by simp only[BX];omega
  have e1:szl (x.stages.length) (l)= -1:=by unfold szl;rw[if_pos g0]
  have e2:szl (BX x) l= -1:=by unfold szl;rw[if_pos gg]
  simp -implicitDefEqProofs [e1,e2]
 have e3:szl (x.stages.length) (l)=l-((x.stages.length:Nat):Int):=by unfold szl;rw[if_neg g0]
 have p0:¬l-((x.stages.length:Nat):Int)<0:=by omega
 simp -implicitDefEqProofs [e3,p0]
 have gg:¬l<((BX x:Nat):Int):=by simp only[BX];omega
 unfold szl;rw[if_neg gg];simp only[BX]<;>omega
abbrev SX (R:Rel):Prop:=∀x:BL,BX x≤4194304→R [arg (F7 x)] [] (.agg (F7 x)) []
theorem AnB (D:Dn) (htoIntS:Oz (D 31)):SX (Body D MI):=by
 intro x h
 simp only[BX]at h
 simp -implicitDefEqProofs
 refine Aa (htoIntS x.stages (by omega)) ?_
 simp -implicitDefEqProofs
abbrev QW (R:Rel):Prop:=∀x y:BL,BX x≤2 ^ 40→BX y≤2 ^ 40→R [arg (F7 x),arg (F7 y)] [] (B (decide (x=y))) []
theorem AmR (D:Dn) (heqIntS:Pp (D 47)):QW (Body D Md):=by
 intro x y h1 h2
 simp only[BX]at h1 h2
 by_cases g_version:x.version=y.version
 rotate_left
 ·have hne:x≠y:=fun h=>g_version (by rw[h])
  simp -implicitDefEqProofs [g_version,hne]
 simp -implicitDefEqProofs [g_version]
 refine Aa (heqIntS x.stages y.stages (by unfold maxLen;omega) (by unfold maxLen;omega)) ?_
 by_cases g_stages:x.stages=y.stages
 rotate_left
 ·have hne:x≠y:=fun h=>g_stages (by rw[h])
  simp -implicitDefEqProofs [g_stages,hne]
 simp -implicitDefEqProofs [g_stages]
 by_cases g_pos:x.pos=y.pos
 rotate_left
 ·have hne:x≠y:=fun h=>g_pos (by rw[h])
  simp -implicitDefEqProofs [g_pos,hne]
 simp -implicitDefEqProofs [g_pos]
 by_cases g_off:x.off=y.off
 rotate_left
 ·have hne:x≠y:=fun h=>g_off (by rw[h])
  simp -implicitDefEqProofs [g_off,hne]
 simp -implicitDefEqProofs [g_off]
 have hxy:x=y:=by cases x;cases y;simp_all
 simp -implicitDefEqProofs [hxy]
end Go.Eng.T
namespace Go.Eng.T
abbrev Afq (R:Rel):Prop:=∀(x:AAc) (l:Int),0≤l→l≤4194304→Ak6 x→R [arg (Asq x),I l] [] (I (szl (YJ x) l)) []
theorem Aqu (D:Dn) (hszIntS:NI (D 16)):Afq (Body D Sg):=by
 intro x l hl1 hl2 hln
 simp only[Ak6]at hln
 simp -implicitDefEqProofs
 refine Aa (hszIntS x.tags (l) (by omega) (by omega) hln) ?_
 by_cases g0:l<((x.tags.length:Nat):Int)
 ·have gg:l<((YJ x:Nat):Int):=by simp only[YJ];omega
  have e1:szl (x.tags.length) (l)= -1:=by unfold szl;rw[if_pos g0]
  have e2:szl (YJ x) l= -1:=by unfold szl;rw[if_pos gg]
  simp -implicitDefEqProofs [e1,e2]
 have e3:szl (x.tags.length) (l)=l-((x.tags.length:Nat):Int):=by unfold szl;rw[if_neg g0]
 have p0:¬l-((x.tags.length:Nat):Int)<0:=by omega
 simp -implicitDefEqProofs [e3,p0]
 have gg:¬l<((YJ x:Nat):Int):=by simp only[YJ];omega
 unfold szl;rw[if_neg gg];simp only[YJ]<;>omega
abbrev Afj (R:Rel):Prop:=∀x:AAc,YJ x≤4194304→R [arg (Asq x)] [] (.agg (Asq x)) []
theorem AqG (D:Dn) (htoIntS:Oz (D 31)):Afj (Body D SH):=by
 intro x h
 simp only[YJ]at h
 simp -implicitDefEqProofs
 refine Aa (htoIntS x.tags (by omega)) ?_
 simp -implicitDefEqProofs
abbrev Afy (R:Rel):Prop:=∀x y:AAc,YJ x≤2 ^ 40→YJ y≤2 ^ 40→R [arg (Asq x),arg (Asq y)] [] (B (decide (x=y))) []
theorem AqJ (D:Dn) (heqIntS:Pp (D 47)):Afy (Body D SI):=by
 intro x y h1 h2
 simp only[YJ]at h1 h2
 by_cases g_ok:x.ok=y.ok
 rotate_left
 ·have hne:x≠y:=fun h=>g_ok (by rw[h])
  simp -implicitDefEqProofs [g_ok,hne]
 simp -implicitDefEqProofs [g_ok]
 by_cases g_version:x.version=y.version
 rotate_left
 ·have hne:x≠y:=fun h=>g_version (by rw[h])
  simp -implicitDefEqProofs [g_version,hne]
 simp -implicitDefEqProofs [g_version]
 refine Aa (heqIntS x.tags y.tags (by unfold maxLen;omega) (by unfold maxLen;omega)) ?_
 by_cases g_tags:x.tags=y.tags
 rotate_left
 ·have hne:x≠y:=fun h=>g_tags (by rw[h])
  simp -implicitDefEqProofs [g_tags,hne]
 simp -implicitDefEqProofs [g_tags]
 have hxy:x=y:=by cases x;cases y;simp_all
 simp -implicitDefEqProofs [hxy]
abbrev QJ (R:Rel):Prop:=∀(x:Eh) (l:Int),0≤l→l≤4194304→Ku x→R [arg (A9 x),I l] [] (I (szl (DW x) l)) []
theorem AoN (D:Dn) (hszDeal:Afq (D 140)) (hszIntS:NI (D 16)):QJ (Body D Pt):=by
 intro x l hl1 hl2 hln
 simp only[Ku]at hln
 simp -implicitDefEqProofs
 refine Aa (hszDeal x.deal (l) (by omega) (by omega) hln.1) ?_
 by_cases g0:l<((YJ x.deal:Nat):Int)
 ·have gg:l<((DW x:Nat):Int):=by simp only[DW];omega
  have e1:szl (YJ x.deal) (l)= -1:=by unfold szl;rw[if_pos g0]
  have e2:szl (DW x) l= -1:=by unfold szl;rw[if_pos gg]
  simp -implicitDefEqProofs [e1,e2]
 have e3:szl (YJ x.deal) (l)=l-((YJ x.deal:Nat):Int):=by unfold szl;rw[if_neg g0]
 have p0:¬l-((YJ x.deal:Nat):Int)<0:=by omega
 simp -implicitDefEqProofs [e3,p0]
 refine Aa (hszIntS x.up (l-((YJ x.deal:Nat):Int)) (by omega) (by omega) hln.2) ?_
 by_cases g1:l-((YJ x.deal:Nat):Int)<((x.up.length:Nat):Int)
 ·have gg:l<((DW x:Nat):Int):=by simp only[DW];omega
  have e1:szl (x.up.length) (l-((YJ x.deal:Nat):Int))= -1:=by unfold szl;rw[if_pos g1]
  have e2:szl (DW x) l= -1:=by unfold szl;rw[if_pos gg]
  simp -implicitDefEqProofs [e1,e2]
 have e4:szl (x.up.length) (l-((YJ x.deal:Nat):Int))=l-((YJ x.deal:Nat):Int)-((x.up.length:Nat):Int):=by unfold szl;rw[if_neg g1]
 have p1:¬l-((YJ x.deal:Nat):Int)-((x.up.length:Nat):Int)<0:=by omega
 simp -implicitDefEqProofs [e4,p1]
 have gg:¬l<((DW x:Nat):Int):=by simp only[DW];omega
 unfold szl;rw[if_neg gg];simp only[DW]<;>omega
abbrev QE (R:Rel):Prop:=∀x:Eh,DW x≤4194304→R [arg (A9 x)] [] (.agg (A9 x)) []
theorem AoK (D:Dn) (htoDeal:Afj (D 171)) (htoIntS:Oz (D 31)):QE (Body D Pe):=by
 intro x h
 simp only[DW]at h
 simp -implicitDefEqProofs
 refine Aa (htoDeal x.deal (by omega)) ?_
 simp -implicitDefEqProofs
 refine Aa (htoIntS x.up (by omega)) ?_
 simp -implicitDefEqProofs
abbrev QH (R:Rel):Prop:=∀x y:Eh,DW x≤2 ^ 40→DW y≤2 ^ 40→R [arg (A9 x),arg (A9 y)] [] (B (decide (x=y))) []
theorem AoX (D:Dn) (heqDeal:Afy (D 205)) (heqIntS:Pp (D 47)):QH (Body D OP):=by
 intro x y h1 h2
 simp only[DW]at h1 h2
 simp -implicitDefEqProofs
 refine Aa (heqDeal x.deal y.deal (by omega) (by omega)) ?_
 by_cases g_deal:x.deal=y.deal
 rotate_left
 ·have hne:x≠y:=fun h=>g_deal (by rw[h])
  simp -implicitDefEqProofs [g_deal,hne]
 simp -implicitDefEqProofs [g_deal]
 by_cases g_tries:x.tries=y.tries
 rotate_left
 ·have hne:x≠y:=fun h=>g_tries (by rw[h])
  simp -implicitDefEqProofs [g_tries,hne]
 simp -implicitDefEqProofs [g_tries]
 refine Aa (heqIntS x.up y.up (by unfold maxLen;omega) (by unfold maxLen;omega)) ?_
 by_cases g_up:x.up=y.up
 rotate_left
 ·have hne:x≠y:=fun h=>g_up (by rw[h])
  simp -implicitDefEqProofs [g_up,hne]
 simp -implicitDefEqProofs [g_up]
 have hxy:x=y:=by cases x;cases y;simp_all
 simp -implicitDefEqProofs [hxy]
end Go.Eng.T
namespace Go.Eng.T
abbrev Te (R:Rel):Prop:=∀(xs:List Eh) (l:Int),0≤l→l≤4194304→lnS Ku xs→R [.sl 1 5 xs.length (xs.flatMap A9),I l] [] (I (szl (Cu DW xs) l)) []
theorem Anf (D:Dn) (hsz:QJ (D 63)):Te (Body D KA):=by
 intro xs l h1 h2 hln
 have h3:=hln.1
 unfold maxLen at h3
 have hw:IntKind.i64.wrap (l-(xs.length:Int))=l-xs.length:=Ab (by omega) (by omega)
 by_cases h:l<(xs.length:Int)
 ·have h':l-(xs.length:Int)<0:=by omega
  have e2:szl (Cu DW xs) l= -1:=by unfold szl Cu;rw[if_pos (by omega)]
  simp -implicitDefEqProofs [hw,h',e2]
 ·have h':¬l-(xs.length:Int)<0:=by omega
  simp -implicitDefEqProofs [hw,h']
  refine Ad (fun k s=>∃j,j+k=xs.length∧((xs.take j).map DW).sum+xs.length≤l∧s=⟨[.sl 1 5 xs.length (xs.flatMap A9),.sc (.int .i64 (l-xs.length-((((xs.take j).map DW).sum:Nat):Int))),.undef,.sc (.int .i64 j),.undef,.undef,.undef],[]⟩) ?_ xs.length _ ⟨0,by simp,by simp;omega,by simp⟩
  intro k s ⟨j,hj,hp,hs⟩
  subst hs
  by_cases hjn:j<xs.length
  ·have hw:IntKind.i64.wrap ((j:Int)+1)=(j+1:Nat):=by rw[Ab (by omega) (by omega)];simp
   have ht:=ACD (f:=DW) hjn
   have htl:=As3 (f:=DW) (xs:=xs) (j:=j+1)
   simp -implicitDefEqProofs [hjn, -List.map_take]
   refine Aa (hsz xs[j] _ (by omega) (by omega) (hln.2 j hjn)) ?_
   by_cases he:l-xs.length-((((xs.take j).map DW).sum:Nat):Int)<DW xs[j]
   ·have e1:szl (DW xs[j]) (l-xs.length-((((xs.take j).map DW).sum:Nat):Int))= -1:=by unfold szl;rw[if_pos he]
    have e2:szl (Cu DW xs) l= -1:=by unfold szl Cu;rw[if_pos (by omega)]
    simp -implicitDefEqProofs [e1,e2, -List.map_take]
   ·have e1:szl (DW xs[j]) (l-xs.length-((((xs.take j).map DW).sum:Nat):Int))=l-xs.length-((((xs.take j).map DW).sum:Nat):Int)-DW xs[j]:=by unfold szl;rw[if_neg he]
    have e3:¬l-xs.length-((((xs.take j).map DW).sum:Nat):Int)-DW xs[j]<0:=by omega
    simp -implicitDefEqProofs [e1,e3, -List.map_take]
    refine⟨k-1,by omega,j+1,by omega,by omega,?_,by simp[hw]⟩
    rw[ht];omega
  ·have hsm:=Aac (f:=DW) (xs:=xs) (j:=j) (by omega)
   have e2:szl (Cu DW xs) l=l-xs.length-((((xs.take j).map DW).sum:Nat):Int):=by unfold szl Cu;rw[if_neg (by omega)];omega
   simp -implicitDefEqProofs [hjn,e2, -List.map_take]
abbrev QR (R:Rel):Prop:=∀xs:List Eh,Cu DW xs≤4194304→R [.sl 1 5 xs.length (xs.flatMap A9)] [] (.sl 0 5 xs.length (xs.flatMap A9)) []
theorem AmJ (D:Dn) (hto:QE (D 99)):QR (Body D LY):=by
 intro xs h
 have hlen:=K6 (f:=DW) (xs:=xs)
 have h1:((xs.length:Nat):Int)*72≤1099511627776:=by omega
 simp -implicitDefEqProofs [h1]
 refine Ad (fun k s=>∃j o1 o2,j+k=xs.length∧s=⟨[.sl 1 5 xs.length (xs.flatMap A9),.undef,.arr 0,.sc (.int .i64 j),.undef],[.arr 5 0 xs.length ((mix (⟨⟨false,0,[]⟩,0,[]⟩:Eh) xs j).flatMap A9),o1,o2]⟩) ?_ xs.length _ ⟨0,.free,.free,by simp,by simp[TN];exact ZB (f:=A9) (⟨⟨false,0,[]⟩,0,[]⟩:Eh) _⟩
 intro k s ⟨j,o1,o2,hj,hs⟩
 subst hs
 by_cases hjn:j<xs.length
 ·have hw:IntKind.i64.wrap ((j:Int)+1)=(j+1:Nat):=by rw[Ab (by omega) (by omega)];simp
  have hsz:=size_at (f:=DW) hjn
  have hfit:j*5+5≤xs.length*5:=by omega
  have hjl:j≤xs.length:=by omega
  simp -implicitDefEqProofs [hjn]
  refine Aa (hto xs[j] (by omega)) ?_
  simp -implicitDefEqProofs [hjn,hfit,hjl]
  exact⟨k-1,by omega,j+1,by omega,by simp[hw],by rw[←Aal hjn]⟩
 ·have hje:mix (⟨⟨false,0,[]⟩,0,[]⟩:Eh) xs j=xs:=Zl (by omega)
  simp -implicitDefEqProofs [hjn,hje]
abbrev RA (R:Rel):Prop:=∀xs ys:List Eh,Cu DW xs≤2 ^ 40→Cu DW ys≤2 ^ 40→R [.sl 1 5 xs.length (xs.flatMap A9),.sl 1 5 ys.length (ys.flatMap A9)] [] (B (decide (xs=ys))) []
theorem Am9 (D:Dn) (heq:QH (D 135)):RA (Body D KT):=by
 intro xs ys h1 h2
 have hlen:=K6 (f:=DW) (xs:=xs)
 by_cases hl:xs.length=ys.length
 ·have hl':(xs.length:Int)=ys.length:=by omega
  simp -implicitDefEqProofs [hl']
  refine Ad (fun k s=>∃j,j+k=xs.length∧xs.take j=ys.take j∧s=⟨[.sl 1 5 xs.length (xs.flatMap A9),.sl 1 5 ys.length (ys.flatMap A9),.undef,.sc (.int .i64 j),.undef,.undef,.undef],[]⟩) ?_ xs.length _ ⟨0,by simp,by simp,by simp⟩
  intro k s ⟨j,hj,hp,hs⟩
  subst hs
  by_cases hjn:j<xs.length
  ·have hw:IntKind.i64.wrap ((j:Int)+1)=(j+1:Nat):=by rw[Ab (by omega) (by omega)];simp
   have hy:j<ys.length:=by omega
   have hsx:=size_at (f:=DW) hjn
   have hsy:=size_at (f:=DW) hy
   simp -implicitDefEqProofs [hjn,hy]
   refine Aa (heq xs[j] ys[j] (by omega) (by omega)) ?_
   by_cases he:xs[j]=ys[j]
   ·simp -implicitDefEqProofs [he]
    exact⟨k-1,by omega,j+1,by omega,Zx hjn hy hp he,by simp[hw]⟩
   ·have hne:xs≠ys:=fun h=>he (by simp[h])
    simp -implicitDefEqProofs [he,hne]
  ·obtain rfl:xs=ys:=Ad5 (by omega) hl hp
   simp -implicitDefEqProofs [hjn]
 ·have hl':¬(xs.length:Int)=ys.length:=by omega
  have:xs≠ys:=fun h=>hl (by rw[h])
  simp -implicitDefEqProofs [hl',this]
abbrev UX (R:Rel):Prop:=∀(x:CO) (l:Int),0≤l→l≤4194304→Pk x→R [arg (Av x),I l] [] (I (szl (Ce x) l)) []
theorem An9 (D:Dn) (hszDialed:QJ (D 63)):UX (Body D Pf):=by
 intro x l hl1 hl2 hln
 simp only[Pk]at hln
 simp -implicitDefEqProofs
 refine Aa (hszDialed x.dialed (l) (by omega) (by omega) hln) ?_
 by_cases g0:l<((DW x.dialed:Nat):Int)
 ·have gg:l<((Ce x:Nat):Int):=by simp only[Ce];omega
  have e1:szl (DW x.dialed) (l)= -1:=by unfold szl;rw[if_pos g0]
  have e2:szl (Ce x) l= -1:=by unfold szl;rw[if_pos gg]
  simp -implicitDefEqProofs [e1,e2]
 have e3:szl (DW x.dialed) (l)=l-((DW x.dialed:Nat):Int):=by unfold szl;rw[if_neg g0]
 have p0:¬l-((DW x.dialed:Nat):Int)<0:=by omega
 simp -implicitDefEqProofs [e3,p0]
 have gg:¬l<((Ce x:Nat):Int):=by simp only[Ce];omega
 unfold szl;rw[if_neg gg];simp only[Ce]<;>omega
abbrev UZ (R:Rel):Prop:=∀x:CO,Ce x≤4194304→R [arg (Av x)] [] (.agg (Av x)) []
theorem AoA (D:Dn) (htoDialed:QE (D 99)):UZ (Body D Py):=by
 intro x h
 simp only[Ce]at h
 simp -implicitDefEqProofs
 refine Aa (htoDialed x.dialed (by omega)) ?_
 simp -implicitDefEqProofs
abbrev U9 (R:Rel):Prop:=∀x y:CO,Ce x≤2 ^ 40→Ce y≤2 ^ 40→R [arg (Av x),arg (Av y)] [] (B (decide (x=y))) []
theorem Aoe (D:Dn) (heqDialed:QH (D 135)):U9 (Body D OV):=by
 intro x y h1 h2
 simp only[Ce]at h1 h2
 by_cases g_fin:x.fin=y.fin
 rotate_left
 ·have hne:x≠y:=fun h=>g_fin (by rw[h])
  simp -implicitDefEqProofs [g_fin,hne]
 simp -implicitDefEqProofs [g_fin]
 by_cases g_tick:x.tick=y.tick
 rotate_left
 ·have hne:x≠y:=fun h=>g_tick (by rw[h])
  simp -implicitDefEqProofs [g_tick,hne]
 simp -implicitDefEqProofs [g_tick]
 by_cases g_on:x.on=y.on
 rotate_left
 ·have hne:x≠y:=fun h=>g_on (by rw[h])
  simp -implicitDefEqProofs [g_on,hne]
 simp -implicitDefEqProofs [g_on]
 refine Aa (heqDialed x.dialed y.dialed (by omega) (by omega)) ?_
 by_cases g_dialed:x.dialed=y.dialed
 rotate_left
 ·have hne:x≠y:=fun h=>g_dialed (by rw[h])
  simp -implicitDefEqProofs [g_dialed,hne]
 simp -implicitDefEqProofs [g_dialed]
 have hxy:x=y:=by cases x;cases y;simp_all
 simp -implicitDefEqProofs [hxy]
abbrev QU (R:Rel):Prop:=∀(xs:List CO) (l:Int),0≤l→l≤4194304→lnS Pk xs→R [.sl 1 8 xs.length (xs.flatMap Av),I l] [] (I (szl (Cu Ce xs) l)) []
theorem AmZ (D:Dn) (hsz:UX (D 64)):QU (Body D Lx):=by
 intro xs l h1 h2 hln
 have h3:=hln.1
 unfold maxLen at h3
 have hw:IntKind.i64.wrap (l-(xs.length:Int))=l-xs.length:=Ab (by omega) (by omega)
 by_cases h:l<(xs.length:Int)
 ·have h':l-(xs.length:Int)<0:=by omega
  have e2:szl (Cu Ce xs) l= -1:=by unfold szl Cu;rw[if_pos (by omega)]
  simp -implicitDefEqProofs [hw,h',e2]
 ·have h':¬l-(xs.length:Int)<0:=by omega
  simp -implicitDefEqProofs [hw,h']
  refine Ad (fun k s=>∃j,j+k=xs.length∧((xs.take j).map Ce).sum+xs.length≤l∧s=⟨[.sl 1 8 xs.length (xs.flatMap Av),.sc (.int .i64 (l-xs.length-((((xs.take j).map Ce).sum:Nat):Int))),.undef,.sc (.int .i64 j),.undef,.undef,.undef],[]⟩) ?_ xs.length _ ⟨0,by simp,by simp;omega,by simp⟩
  intro k s ⟨j,hj,hp,hs⟩
  subst hs
  by_cases hjn:j<xs.length
  ·have hw:IntKind.i64.wrap ((j:Int)+1)=(j+1:Nat):=by rw[Ab (by omega) (by omega)];simp
   have ht:=ACD (f:=Ce) hjn
   have htl:=As3 (f:=Ce) (xs:=xs) (j:=j+1)
   simp -implicitDefEqProofs [hjn, -List.map_take]
   refine Aa (hsz xs[j] _ (by omega) (by omega) (hln.2 j hjn)) ?_
   by_cases he:l-xs.length-((((xs.take j).map Ce).sum:Nat):Int)<Ce xs[j]
   ·have e1:szl (Ce xs[j]) (l-xs.length-((((xs.take j).map Ce).sum:Nat):Int))= -1:=by unfold szl;rw[if_pos he]
    have e2:szl (Cu Ce xs) l= -1:=by unfold szl Cu;rw[if_pos (by omega)]
    simp -implicitDefEqProofs [e1,e2, -List.map_take]
   ·have e1:szl (Ce xs[j]) (l-xs.length-((((xs.take j).map Ce).sum:Nat):Int))=l-xs.length-((((xs.take j).map Ce).sum:Nat):Int)-Ce xs[j]:=by unfold szl;rw[if_neg he]
    have e3:¬l-xs.length-((((xs.take j).map Ce).sum:Nat):Int)-Ce xs[j]<0:=by omega
    simp -implicitDefEqProofs [e1,e3, -List.map_take]
    refine⟨k-1,by omega,j+1,by omega,by omega,?_,by simp[hw]⟩
    rw[ht];omega
  ·have hsm:=Aac (f:=Ce) (xs:=xs) (j:=j) (by omega)
   have e2:szl (Cu Ce xs) l=l-xs.length-((((xs.take j).map Ce).sum:Nat):Int):=by unfold szl Cu;rw[if_neg (by omega)];omega
   simp -implicitDefEqProofs [hjn,e2, -List.map_take]
abbrev Q6 (R:Rel):Prop:=∀xs:List CO,Cu Ce xs≤4194304→R [.sl 1 8 xs.length (xs.flatMap Av)] [] (.sl 0 8 xs.length (xs.flatMap Av)) []
theorem AmU (D:Dn) (hto:UZ (D 100)):Q6 (Body D K8):=by
 intro xs h
 have hlen:=K6 (f:=Ce) (xs:=xs)
 have h1:((xs.length:Nat):Int)*96≤1099511627776:=by omega
 simp -implicitDefEqProofs [h1]
 refine Ad (fun k s=>∃j o1 o2,j+k=xs.length∧s=⟨[.sl 1 8 xs.length (xs.flatMap Av),.undef,.arr 0,.sc (.int .i64 j),.undef],[.arr 8 0 xs.length ((mix (⟨0,0,false,⟨⟨false,0,[]⟩,0,[]⟩⟩:CO) xs j).flatMap Av),o1,o2]⟩) ?_ xs.length _ ⟨0,.free,.free,by simp,by simp[TN];exact ZB (f:=Av) (⟨0,0,false,⟨⟨false,0,[]⟩,0,[]⟩⟩:CO) _⟩
 intro k s ⟨j,o1,o2,hj,hs⟩
 subst hs
 by_cases hjn:j<xs.length
 ·have hw:IntKind.i64.wrap ((j:Int)+1)=(j+1:Nat):=by rw[Ab (by omega) (by omega)];simp
  have hsz:=size_at (f:=Ce) hjn
  have hfit:j*8+8≤xs.length*8:=by omega
  have hjl:j≤xs.length:=by omega
  simp -implicitDefEqProofs [hjn]
  refine Aa (hto xs[j] (by omega)) ?_
  simp -implicitDefEqProofs [hjn,hfit,hjl]
  exact⟨k-1,by omega,j+1,by omega,by simp[hw],by rw[←Aal hjn]⟩
 ·have hje:mix (⟨0,0,false,⟨⟨false,0,[]⟩,0,[]⟩⟩:CO) xs j=xs:=Zl (by omega)
  simp -implicitDefEqProofs [hjn,hje]
abbrev RV (R:Rel):Prop:=∀xs ys:List CO,Cu Ce xs≤2 ^ 40→Cu Ce ys≤2 ^ 40→R [.sl 1 8 xs.length (xs.flatMap Av),.sl 1 8 ys.length (ys.flatMap Av)] [] (B (decide (xs=ys))) []
theorem Anj (D:Dn) (heq:U9 (D 136)):RV (Body D MR):=by
 intro xs ys h1 h2
 have hlen:=K6 (f:=Ce) (xs:=xs)
 by_cases hl:xs.length=ys.length
 ·have hl':(xs.length:Int)=ys.length:=by omega
  simp -implicitDefEqProofs [hl']
  refine Ad (fun k s=>∃j,j+k=xs.length∧xs.take j=ys.take j∧s=⟨[.sl 1 8 xs.length (xs.flatMap Av),.sl 1 8 ys.length (ys.flatMap Av),.undef,.sc (.int .i64 j),.undef,.undef,.undef],[]⟩) ?_ xs.length _ ⟨0,by simp,by simp,by simp⟩
  intro k s ⟨j,hj,hp,hs⟩
  subst hs
  by_cases hjn:j<xs.length
  ·have hw:IntKind.i64.wrap ((j:Int)+1)=(j+1:Nat):=by rw[Ab (by omega) (by omega)];simp
   have hy:j<ys.length:=by omega
   have hsx:=size_at (f:=Ce) hjn
   have hsy:=size_at (f:=Ce) hy
   simp -implicitDefEqProofs [hjn,hy]
   refine Aa (heq xs[j] ys[j] (by omega) (by omega)) ?_
   by_cases he:xs[j]=ys[j]
   ·simp -implicitDefEqProofs [he]
    exact⟨k-1,by omega,j+1,by omega,Zx hjn hy hp he,by simp[hw]⟩
   ·have hne:xs≠ys:=fun h=>he (by simp[h])
    simp -implicitDefEqProofs [he,hne]
  ·obtain rfl:xs=ys:=Ad5 (by omega) hl hp
   simp -implicitDefEqProofs [hjn]
 ·have hl':¬(xs.length:Int)=ys.length:=by omega
  have:xs≠ys:=fun h=>hl (by rw[h])
  simp -implicitDefEqProofs [hl',this]
end Go.Eng.T
namespace Go.Eng.T
def nums:Nat→Int→List Int
 | 0,_=> []
 | n+1,k=>k::nums n (k+1)
@[simp] theorem ADt:∀(n:Nat) (k:Int),(nums n k).length=n
 | 0,_=>rfl
 | n+1,k=>by simp[nums,ADt n]
theorem ADl:∀(n:Nat) (k:Int) (j:Nat) (h:j<(nums n k).length),(nums n k)[j]=k+j
 | 0,k,j,h=>by simp[nums]at h
 | n+1,k,0,h=>by simp[nums]
 | n+1,k,j+1,h=>by
  simp only[nums,List.getElem_cons_succ]
  rw[ADl n (k+1) j (by simpa[nums]using h)]
  simp;omega
def WY {α:Type} (mc:α→Nat) (mk:α→Int→α):List α→Int→List α
 | [],_=> []
 | x::r,k=>mk x k::WY mc mk r (k+mc x)
def F8 {α:Type} (mc:α→Nat) (xs:List α):Nat:=(xs.map mc).sum
section
variable {α:Type} {mc:α→Nat} {mk:α→Int→α}
@[simp] theorem AFa:∀(xs:List α) (k:Int),(WY mc mk xs k).length=xs.length
 | [],_=>rfl
 | x::r,k=>by simp[WY,AFa r]
theorem AFH:∀(xs:List α) (k:Int) (j:Nat) (h:j<xs.length),(WY mc mk xs k)[j]'(by simpa using h)=mk xs[j] (k+(F8 mc (xs.take j):Nat))
 | [],k,j,h=>by simp at h
 | x::r,k,0,h=>by simp[WY,F8]
 | x::r,k,j+1,h=>by
  simp only[WY,List.getElem_cons_succ]
  rw[AFH r (k+mc x) j (by simpa using h)]
  simp[F8];congr 1;omega
theorem Av5 (ys:List α):∀(xs:List α) (k:Int),WY mc mk (xs++ys) k=WY mc mk xs k++WY mc mk ys (k+(F8 mc xs:Nat))
 | [],k=>by simp[WY,F8]
 | x::r,k=>by
  simp only[List.cons_append,WY,Av5 ys r]
  simp[F8];congr 1;omega
def mkJ (mc:α→Nat) (mk:α→Int→α) (xs:List α) (k:Int) (j:Nat):List α:=WY mc mk (xs.take j) k++xs.drop j
theorem Aao {xs:List α} {k:Int}:mkJ mc mk xs k 0=xs:=by simp[mkJ,WY]
theorem Ae5 {xs:List α} {k:Int} {j:Nat} (h:xs.length≤j):mkJ mc mk xs k j=WY mc mk xs k:=by simp[mkJ,List.take_of_length_le h,List.drop_eq_nil_of_le h]
@[simp] theorem AJd {xs:List α} {k:Int} {j:Nat} (h:j≤xs.length):(mkJ mc mk xs k j).length=xs.length:=by simp[mkJ];omega
theorem Hf {xs:List α} {k:Int} {j:Nat} (h:j<xs.length):(mkJ mc mk xs k j)[j]'(by rw[AJd (by omega)];exact h)=xs[j]:=by
 unfold mkJ
 have hl:(WY mc mk (xs.take j) k).length=j:=by simp;omega
 rw[List.getElem_append_right (by omega)]
 simp[hl]
theorem Afn {xs:List α} {k:Int} {j:Nat} (h:j<xs.length):(mkJ mc mk xs k j).set j (mk xs[j] (k+(F8 mc (xs.take j):Nat)))=mkJ mc mk xs k (j+1):=by
 unfold mkJ
 have hl:(WY mc mk (xs.take j) k).length=j:=by simp;omega
 have ht:xs.take (j+1)=xs.take j++ [xs[j]]:=by simp
 rw[List.set_append_right _ _ (by omega),hl,Nat.sub_self,ht,Av5,List.drop_eq_getElem_cons h,List.set_cons_zero,List.append_assoc]
 rfl
theorem Kz {xs:List α} {j:Nat} (h:j<xs.length):F8 mc (xs.take (j+1))=F8 mc (xs.take j)+mc xs[j]:=ACD h
theorem UK {xs:List α} {j:Nat}:F8 mc (xs.take j)≤F8 mc xs:=As3
theorem PL {xs:List α} {j:Nat} (h:xs.length≤j):F8 mc (xs.take j)=F8 mc xs:=Aac h
theorem UD (h:∀x,1≤mc x) (xs:List α):xs.length≤F8 mc xs:=by
 induction xs with
 | nil=>simp
 | cons x r ih=>
  have:=h x
  simp[F8]at *
  omega
end
theorem Ct {α:Type} {f:α→List V} {e:Nat} (hf:∀x,(f x).length=e) {o:Nat} (ho:o<e) {v:V} {y:α}:∀ {xs:List α} {j:Nat} (h:j<xs.length),f y=(f xs[j]).set o v→(xs.flatMap f).set (j*e+o) v=(xs.set j y).flatMap f
 | [],j,h,_=>by simp at h
 | x::xs,0,_,hy=>by
  simp only[List.flatMap_cons,List.set_cons_zero,Nat.zero_mul,Nat.zero_add]
  rw[List.set_append_left _ _ (by rw[hf];exact ho),hy]
  rfl
 | x::xs,j+1,h,hy=>by
  simp only[List.flatMap_cons,List.set_cons_succ]
  have e1:(j+1)*e+o=(f x).length+(j*e+o):=by rw[hf,Nat.add_mul];omega
  rw[e1,List.set_append_right _ _ (by omega),Nat.add_sub_cancel_left,Ct hf ho (by simpa using h) (by simpa using hy)]
@[simp high] theorem AI0 {xs:List Gu} {j:Nat} (h:j<xs.length) (a:Int):(xs.flatMap Dy).set (j*4) (.sc (.int .i64 a))=(xs.set j ⟨a,xs[j].drops,xs[j].strips,xs[j].lists⟩).flatMap Dy:=Ct (o:=0) JR (by omega) h rfl
@[simp high] theorem AI6 {xs:List Gu} {j:Nat} (h:j<xs.length) {n:Nat} (a:List Int) (hn:n=a.length):(xs.flatMap Dy).set (j*4+1) (.sl 0 1 n (ints a))=(xs.set j ⟨xs[j].limit,a,xs[j].strips,xs[j].lists⟩).flatMap Dy:=by subst hn;exact Ct (o:=1) JR (by omega) h rfl
@[simp high] theorem AI7 {xs:List Gu} {j:Nat} (h:j<xs.length) {n:Nat} (a:List Int) (hn:n=a.length):(xs.flatMap Dy).set (j*4+2) (.sl 0 1 n (ints a))=(xs.set j ⟨xs[j].limit,xs[j].drops,a,xs[j].lists⟩).flatMap Dy:=by subst hn;exact Ct (o:=2) JR (by omega) h rfl
@[simp high] theorem AJi {xs:List Gu} {j:Nat} (h:j<xs.length) (a:Bool):(xs.flatMap Dy).set (j*4+3) (.sc (.bool a))=(xs.set j ⟨xs[j].limit,xs[j].drops,xs[j].strips,a⟩).flatMap Dy:=Ct (o:=3) JR (by omega) h rfl
@[simp high] theorem AHO {xs:List Eh} {j:Nat} (h:j<xs.length) (a:Bool):(xs.flatMap A9).set (j*5) (.sc (.bool a))=(xs.set j ⟨⟨a,xs[j].deal.version,xs[j].deal.tags⟩,xs[j].tries,xs[j].up⟩).flatMap A9:=Ct (o:=0) D8 (by omega) h rfl
@[simp high] theorem AG4 {xs:List Eh} {j:Nat} (h:j<xs.length) (a:Int):(xs.flatMap A9).set (j*5+1) (.sc (.int .i64 a))=(xs.set j ⟨⟨xs[j].deal.ok,a,xs[j].deal.tags⟩,xs[j].tries,xs[j].up⟩).flatMap A9:=Ct (o:=1) D8 (by omega) h rfl
@[simp high] theorem AHQ {xs:List Eh} {j:Nat} (h:j<xs.length) {n:Nat} (a:List Int) (hn:n=a.length):(xs.flatMap A9).set (j*5+2) (.sl 0 1 n (ints a))=(xs.set j ⟨⟨xs[j].deal.ok,xs[j].deal.version,a⟩,xs[j].tries,xs[j].up⟩).flatMap A9:=by subst hn;exact Ct (o:=2) D8 (by omega) h rfl
@[simp high] theorem AHH {xs:List Eh} {j:Nat} (h:j<xs.length) (a:Int):(xs.flatMap A9).set (j*5+3) (.sc (.int .i64 a))=(xs.set j ⟨⟨xs[j].deal.ok,xs[j].deal.version,xs[j].deal.tags⟩,a,xs[j].up⟩).flatMap A9:=Ct (o:=3) D8 (by omega) h rfl
@[simp high] theorem AHT {xs:List Eh} {j:Nat} (h:j<xs.length) {n:Nat} (a:List Int) (hn:n=a.length):(xs.flatMap A9).set (j*5+4) (.sl 0 1 n (ints a))=(xs.set j ⟨⟨xs[j].deal.ok,xs[j].deal.version,xs[j].deal.tags⟩,xs[j].tries,a⟩).flatMap A9:=by subst hn;exact Ct (o:=4) D8 (by omega) h rfl
@[simp high] theorem AFv {xs:List Aq} {j:Nat} (h:j<xs.length) {n:Nat} (a:List Int) (hn:n=a.length):(xs.flatMap Ak).set (j*4) (.sl 0 1 n (ints a))=(xs.set j ⟨a,xs[j].tags,xs[j].path,xs[j].cls⟩).flatMap Ak:=by subst hn;exact Ct (o:=0) Eg (by omega) h rfl
@[simp high] theorem AFn {xs:List Aq} {j:Nat} (h:j<xs.length) {n:Nat} (a:List Int) (hn:n=a.length):(xs.flatMap Ak).set (j*4+1) (.sl 0 1 n (ints a))=(xs.set j ⟨xs[j].versions,a,xs[j].path,xs[j].cls⟩).flatMap Ak:=by subst hn;exact Ct (o:=1) Eg (by omega) h rfl
@[simp high] theorem AdW {xs:List Aq} {j:Nat} (h:j<xs.length) {n:Nat} (a:List Gu) (hn:n=a.length):(xs.flatMap Ak).set (j*4+2) (.sl 0 4 n (a.flatMap Dy))=(xs.set j ⟨xs[j].versions,xs[j].tags,a,xs[j].cls⟩).flatMap Ak:=by subst hn;exact Ct (o:=2) Eg (by omega) h rfl
@[simp high] theorem AFg {xs:List Aq} {j:Nat} (h:j<xs.length) (a:Int):(xs.flatMap Ak).set (j*4+3) (.sc (.int .i64 a))=(xs.set j ⟨xs[j].versions,xs[j].tags,xs[j].path,a⟩).flatMap Ak:=Ct (o:=3) Eg (by omega) h rfl
@[simp high] theorem AGZ {xs:List CO} {j:Nat} (h:j<xs.length) (a:Int):(xs.flatMap Av).set (j*8) (.sc (.int .i64 a))=(xs.set j ⟨a,xs[j].tick,xs[j].on,⟨⟨xs[j].dialed.deal.ok,xs[j].dialed.deal.version,xs[j].dialed.deal.tags⟩,xs[j].dialed.tries,xs[j].dialed.up⟩⟩).flatMap Av:=Ct (o:=0) BP (by omega) h rfl
@[simp high] theorem AG1 {xs:List CO} {j:Nat} (h:j<xs.length) (a:Int):(xs.flatMap Av).set (j*8+1) (.sc (.int .i64 a))=(xs.set j ⟨xs[j].fin,a,xs[j].on,⟨⟨xs[j].dialed.deal.ok,xs[j].dialed.deal.version,xs[j].dialed.deal.tags⟩,xs[j].dialed.tries,xs[j].dialed.up⟩⟩).flatMap Av:=Ct (o:=1) BP (by omega) h rfl
@[simp high] theorem AHy {xs:List CO} {j:Nat} (h:j<xs.length) (a:Bool):(xs.flatMap Av).set (j*8+2) (.sc (.bool a))=(xs.set j ⟨xs[j].fin,xs[j].tick,a,⟨⟨xs[j].dialed.deal.ok,xs[j].dialed.deal.version,xs[j].dialed.deal.tags⟩,xs[j].dialed.tries,xs[j].dialed.up⟩⟩).flatMap Av:=Ct (o:=2) BP (by omega) h rfl
@[simp high] theorem AGG {xs:List CO} {j:Nat} (h:j<xs.length) (a:Bool):(xs.flatMap Av).set (j*8+3) (.sc (.bool a))=(xs.set j ⟨xs[j].fin,xs[j].tick,xs[j].on,⟨⟨a,xs[j].dialed.deal.version,xs[j].dialed.deal.tags⟩,xs[j].dialed.tries,xs[j].dialed.up⟩⟩).flatMap Av:=Ct (o:=3) BP (by omega) h rfl
@[simp high] theorem AHf {xs:List CO} {j:Nat} (h:j<xs.length) (a:Int):(xs.flatMap Av).set (j*8+4) (.sc (.int .i64 a))=(xs.set j ⟨xs[j].fin,xs[j].tick,xs[j].on,⟨⟨xs[j].dialed.deal.ok,a,xs[j].dialed.deal.tags⟩,xs[j].dialed.tries,xs[j].dialed.up⟩⟩).flatMap Av:=Ct (o:=4) BP (by omega) h rfl
@[simp high] theorem AGS {xs:List CO} {j:Nat} (h:j<xs.length) {n:Nat} (a:List Int) (hn:n=a.length):(xs.flatMap Av).set (j*8+5) (.sl 0 1 n (ints a))=(xs.set j ⟨xs[j].fin,xs[j].tick,xs[j].on,⟨⟨xs[j].dialed.deal.ok,xs[j].dialed.deal.version,a⟩,xs[j].dialed.tries,xs[j].dialed.up⟩⟩).flatMap Av:=by subst hn;exact Ct (o:=5) BP (by omega) h rfl
@[simp high] theorem AGI {xs:List CO} {j:Nat} (h:j<xs.length) (a:Int):(xs.flatMap Av).set (j*8+6) (.sc (.int .i64 a))=(xs.set j ⟨xs[j].fin,xs[j].tick,xs[j].on,⟨⟨xs[j].dialed.deal.ok,xs[j].dialed.deal.version,xs[j].dialed.deal.tags⟩,a,xs[j].dialed.up⟩⟩).flatMap Av:=Ct (o:=6) BP (by omega) h rfl
@[simp high] theorem AGF {xs:List CO} {j:Nat} (h:j<xs.length) {n:Nat} (a:List Int) (hn:n=a.length):(xs.flatMap Av).set (j*8+7) (.sl 0 1 n (ints a))=(xs.set j ⟨xs[j].fin,xs[j].tick,xs[j].on,⟨⟨xs[j].dialed.deal.ok,xs[j].dialed.deal.version,xs[j].dialed.deal.tags⟩,xs[j].dialed.tries,a⟩⟩).flatMap Av:=by subst hn;exact Ct (o:=7) BP (by omega) h rfl
@[simp high] theorem AIo {xs:List Event} {j:Nat} (h:j<xs.length) (a:Int):(xs.flatMap Cs).set (j*6) (.sc (.int .i64 a))=(xs.set j ⟨a,xs[j].n,⟨xs[j].box.limit,xs[j].box.drops,xs[j].box.strips,xs[j].box.lists⟩⟩).flatMap Cs:=Ct (o:=0) DX (by omega) h rfl
@[simp high] theorem AIq {xs:List Event} {j:Nat} (h:j<xs.length) (a:Int):(xs.flatMap Cs).set (j*6+1) (.sc (.int .i64 a))=(xs.set j ⟨xs[j].kind,a,⟨xs[j].box.limit,xs[j].box.drops,xs[j].box.strips,xs[j].box.lists⟩⟩).flatMap Cs:=Ct (o:=1) DX (by omega) h rfl
@[simp high] theorem AH4 {xs:List Event} {j:Nat} (h:j<xs.length) (a:Int):(xs.flatMap Cs).set (j*6+2) (.sc (.int .i64 a))=(xs.set j ⟨xs[j].kind,xs[j].n,⟨a,xs[j].box.drops,xs[j].box.strips,xs[j].box.lists⟩⟩).flatMap Cs:=Ct (o:=2) DX (by omega) h rfl
@[simp high] theorem AIi {xs:List Event} {j:Nat} (h:j<xs.length) {n:Nat} (a:List Int) (hn:n=a.length):(xs.flatMap Cs).set (j*6+3) (.sl 0 1 n (ints a))=(xs.set j ⟨xs[j].kind,xs[j].n,⟨xs[j].box.limit,a,xs[j].box.strips,xs[j].box.lists⟩⟩).flatMap Cs:=by subst hn;exact Ct (o:=3) DX (by omega) h rfl
@[simp high] theorem AIe {xs:List Event} {j:Nat} (h:j<xs.length) {n:Nat} (a:List Int) (hn:n=a.length):(xs.flatMap Cs).set (j*6+4) (.sl 0 1 n (ints a))=(xs.set j ⟨xs[j].kind,xs[j].n,⟨xs[j].box.limit,xs[j].box.drops,a,xs[j].box.lists⟩⟩).flatMap Cs:=by subst hn;exact Ct (o:=4) DX (by omega) h rfl
@[simp high] theorem AH3 {xs:List Event} {j:Nat} (h:j<xs.length) (a:Bool):(xs.flatMap Cs).set (j*6+5) (.sc (.bool a))=(xs.set j ⟨xs[j].kind,xs[j].n,⟨xs[j].box.limit,xs[j].box.drops,xs[j].box.strips,a⟩⟩).flatMap Cs:=Ct (o:=5) DX (by omega) h rfl
def Ht (x:AAc):Nat:=x.tags.length
def YU (x:AAc) (k:Int):AAc:=⟨x.ok,x.version,nums x.tags.length (k)⟩
def E9 (x:Gu):Nat:=1+x.drops.length+x.strips.length+1
def Uc (x:Gu) (k:Int):Gu:=⟨k,nums x.drops.length (k+1),nums x.strips.length (k+1+((x.drops.length:Nat):Int)),((k+1+((x.drops.length:Nat):Int)+((x.strips.length:Nat):Int)).tmod 3==0)⟩
def Cg (x:Eh):Nat:=1+1+x.deal.tags.length+1+x.up.length
def GQ (x:Eh) (k:Int):Eh:=⟨⟨((k).tmod 3==0),k+1,nums x.deal.tags.length (k+1+1)⟩,k+1+1+((x.deal.tags.length:Nat):Int),nums x.up.length (k+1+1+((x.deal.tags.length:Nat):Int)+1)⟩
def Bv (x:Aq):Nat:=x.versions.length+x.tags.length+F8 E9 x.path+1
def FK (x:Aq) (k:Int):Aq:=⟨nums x.versions.length (k),nums x.tags.length (k+((x.versions.length:Nat):Int)),WY E9 Uc x.path (k+((x.versions.length:Nat):Int)+((x.tags.length:Nat):Int)),k+((x.versions.length:Nat):Int)+((x.tags.length:Nat):Int)+((F8 E9 x.path:Nat):Int)⟩
def Cj (x:CO):Nat:=1+1+1+1+1+x.dialed.deal.tags.length+1+x.dialed.up.length
def GX (x:CO) (k:Int):CO:=⟨k,k+1,((k+1+1).tmod 3==0),⟨⟨((k+1+1+1).tmod 3==0),k+1+1+1+1,nums x.dialed.deal.tags.length (k+1+1+1+1+1)⟩,k+1+1+1+1+1+((x.dialed.deal.tags.length:Nat):Int),nums x.dialed.up.length (k+1+1+1+1+1+((x.dialed.deal.tags.length:Nat):Int)+1)⟩⟩
def Ck (x:BL):Nat:=x.stages.length
def Dg (x:BL) (k:Int):BL:=⟨x.version,nums x.stages.length (k),x.pos,x.off⟩
def G7 (x:World):Nat:=x.server.length+x.tags.length+F8 Bv x.ends+x.rollout.stages.length+F8 Cg x.stage+F8 Cj x.log
def EG (x:World) (k:Int):World:=⟨nums x.server.length (k),nums x.tags.length (k+((x.server.length:Nat):Int)),x.key,WY Bv FK x.ends (k+((x.server.length:Nat):Int)+((x.tags.length:Nat):Int)),⟨x.rollout.version,nums x.rollout.stages.length (k+((x.server.length:Nat):Int)+((x.tags.length:Nat):Int)+((F8 Bv x.ends:Nat):Int)),x.rollout.pos,x.rollout.off⟩,x.least,x.percent,WY Cg GQ x.stage (k+((x.server.length:Nat):Int)+((x.tags.length:Nat):Int)+((F8 Bv x.ends:Nat):Int)+((x.rollout.stages.length:Nat):Int)),WY Cj GX x.log (k+((x.server.length:Nat):Int)+((x.tags.length:Nat):Int)+((F8 Bv x.ends:Nat):Int)+((x.rollout.stages.length:Nat):Int)+((F8 Cg x.stage:Nat):Int)),x.now,x.hurt,x.reached⟩
end Go.Eng.T
namespace Go.Eng.T
theorem Akm:∀(n:Nat) (k:Int),nums n k++ [k+n]=nums (n+1) k
 | 0,k=>by simp[nums]
 | n+1,k=>by
  have:=Akm n (k+1)
  simp only[nums,List.cons_append]
  rw[show k+((n+1:Nat):Int)=k+1+(n:Int)by omega,this]
  rfl
theorem ApV {xs:List Int} {k:Int} {j:Nat} (h:j<xs.length):(nums j k++xs.drop j).set j (k+j)=nums (j+1) k++xs.drop (j+1):=by
 rw[List.set_append_right _ _ (by simp),ADt,Nat.sub_self,List.drop_eq_getElem_cons h,List.set_cons_zero,←Akm,List.append_assoc]
 rfl
abbrev G6 (R:Rel):Prop:=∀(xs:List Int) (k:Int),0≤k→k+xs.length≤4611686018427387904→R [.arr 0,I k] [.arr 1 0 xs.length (ints xs)] (I (k+xs.length)) [.arr 1 0 xs.length (ints (nums xs.length k))]
theorem AoG (D:Dn):G6 (Body D Pg):=by
 intro xs k hk hl
 simp -implicitDefEqProofs
 refine Ad (fun n s=>∃j,j+n=xs.length∧s=⟨[.arr 0,.sc (.int .i64 (k+j)),.undef,.sc (.int .i64 j),.undef],[.arr 1 0 xs.length (ints (nums j k++xs.drop j))]⟩) ?_ xs.length _ ⟨0,by simp,by simp[nums]⟩
 intro n s ⟨j,hj,hs⟩
 subst hs
 by_cases hjn:j<xs.length
 ·have hw:IntKind.i64.wrap ((j:Int)+1)=(j+1:Nat):=by rw[Ab (by omega) (by omega)];simp
  have hw2:IntKind.i64.wrap (k+j+1)=k+(j+1:Nat):=by rw[Ab (by omega) (by omega)];omega
  have hlen:j+(xs.length-j)=xs.length:=by omega
  simp -implicitDefEqProofs [hjn,hlen, -List.append_assoc,ApV hjn]
  exact⟨n-1,by omega,j+1,by omega,⟨by simpa using hw2,by simp[hw]⟩,rfl⟩
 ·have hje:j=xs.length:=by omega
  subst hje
  simp -implicitDefEqProofs [IQ]
abbrev He (R:Rel):Prop:=∀(n:Nat) (k:Int),0≤k→k+n≤4611686018427387904→R [.sl 1 1 n (ints (nums n k)),I k] [] (I (k+n)) []
theorem Aoz (D:Dn):He (Body D Pb):=by
 intro m k hk hl
 simp -implicitDefEqProofs
 refine Ad (fun n s=>∃j,j+n=m∧s=⟨[.sl 1 1 m (ints (nums m k)),.sc (.int .i64 (k+j)),.undef,.sc (.int .i64 j),.undef,.undef],[]⟩) ?_ m _ ⟨0,by simp,by simp⟩
 intro n s ⟨j,hj,hs⟩
 subst hs
 by_cases hjn:j<m
 ·have hw:IntKind.i64.wrap ((j:Int)+1)=(j+1:Nat):=by rw[Ab (by omega) (by omega)];simp
  have hw2:IntKind.i64.wrap (k+j+1)=k+(j+1:Nat):=by rw[Ab (by omega) (by omega)];omega
  simp -implicitDefEqProofs [hjn,ADl]
  exact⟨n-1,by omega,j+1,by omega,by simpa using hw2,by simp[hw]⟩
 ·have hje:j=m:=by omega
  subst hje
  simp -implicitDefEqProofs
end Go.Eng.T
namespace Go.Eng.T
set_option maxRecDepth 20000
abbrev N9 (R:Rel):Prop:=∀(xs:List Eh) (k:Int),0≤k→k+F8 Cg xs≤4611686018427387904→R [.arr 0,I k] [.arr 5 0 xs.length (xs.flatMap A9)] (I (k+F8 Cg xs)) [.arr 5 0 xs.length ((WY Cg GQ xs k).flatMap A9)]
theorem AiA (D:Dn) (hmarkIntS:G6 (D ADp)):N9 (Body D JD):=by
 intro xs k hk hl
 have hlen:xs.length≤F8 Cg xs:=UD (fun x=>by unfold Cg;omega) xs
 simp -implicitDefEqProofs
 refine Ad (fun n s=>∃j o,fd o∧j+n=xs.length∧s=⟨[.arr 0,.sc (.int .i64 (k+F8 Cg (xs.take j))),.undef,.sc (.int .i64 j),.undef],[.arr 5 0 xs.length ((mkJ Cg GQ xs k j).flatMap A9),o,o]⟩) ?_ xs.length _ ⟨0,.free,AIX,by simp,by simp[Aao,F8]⟩
 intro n s ⟨j,o,ho,hj,hs⟩
 subst hs
 by_cases hjn:j<xs.length
 ·have hw:IntKind.i64.wrap ((j:Int)+1)=(j+1:Nat):=by rw[Ab (by omega) (by omega)];simp
  have hjl:j≤xs.length:=by omega
  have hst:=Kz (mc:=Cg) hjn
  have hle:=UK (mc:=Cg) (xs:=xs) (j:=j+1)
  have hmc:Cg xs[j]=1+1+xs[j].deal.tags.length+1+xs[j].up.length:=rfl
  have hset:=Afn (mc:=Cg) (mk:=GQ) (k:=k) hjn
  generalize hK:k+(F8 Cg (xs.take j):Int)=K at hset⊢
  have hw0:IntKind.i64.wrap (K+1)=K+1:=Ab (by omega) (by omega)
  have hw1:IntKind.i64.wrap (K+1+1)=K+1+1:=Ab (by omega) (by omega)
  have hw3:IntKind.i64.wrap (K+1+1+((xs[j].deal.tags.length:Nat):Int)+1)=K+1+1+((xs[j].deal.tags.length:Nat):Int)+1:=Ab (by omega) (by omega)
  have hf1:j*5+1<xs.length*5:=by omega
  have hf2:j*5+2<xs.length*5:=by omega
  have hf3:j*5+3<xs.length*5:=by omega
  have hf4:j*5+4<xs.length*5:=by omega
  rcases ho with rfl | rfl
  all_goals simp -implicitDefEqProofs [hjn,hjl,Hf hjn,hw0,hw1,hw3,hf1,hf2,hf3,hf4]
  all_goals refine Aa (hmarkIntS xs[j].deal.tags _ (by omega) (by omega)) ?_
  all_goals simp -implicitDefEqProofs [hjn,hjl,Hf hjn,hw0,hw1,hw3,hf1,hf2,hf3,hf4]
  all_goals refine Aa (hmarkIntS xs[j].up _ (by omega) (by omega)) ?_
  all_goals simp -implicitDefEqProofs [hjn,hjl,Hf hjn,hw0,hw1,hw3,hf1,hf2,hf3,hf4]
  all_goals exact⟨n-1,by omega,j+1,.dead,AI1,by omega,⟨by first | omega | (rw[Ab (by omega) (by omega)];omega),by simp[hw]⟩,by rw[←hset];rfl,rfl⟩
 ·have hje:=Ae5 (mc:=Cg) (mk:=GQ) (xs:=xs) (k:=k) (j:=j) (by omega)
  have hma:=PL (mc:=Cg) (xs:=xs) (j:=j) (by omega)
  simp -implicitDefEqProofs [hjn,hje,hma,IQ]
abbrev Nw (R:Rel):Prop:=∀(xs:List Eh) (k:Int),0≤k→k+F8 Cg xs≤4611686018427387904→R [.sl 1 5 xs.length ((WY Cg GQ xs k).flatMap A9),I k] [] (I (k+F8 Cg xs)) []
theorem Aiz (D:Dn) (hheldIntS:He (D ACc)):Nw (Body D I4):=by
 intro xs k hk hl
 have hlen:xs.length≤F8 Cg xs:=UD (fun x=>by unfold Cg;omega) xs
 simp -implicitDefEqProofs
 refine Ad (fun n s=>∃j,j+n=xs.length∧s=⟨[.sl 1 5 xs.length ((WY Cg GQ xs k).flatMap A9),.sc (.int .i64 (k+F8 Cg (xs.take j))),.undef,.sc (.int .i64 j),.undef,.undef,.undef,.undef,.undef,.undef],[]⟩) ?_ xs.length _ ⟨0,by simp,by simp[F8]⟩
 intro n s ⟨j,hj,hs⟩
 subst hs
 by_cases hjn:j<xs.length
 ·have hw:IntKind.i64.wrap ((j:Int)+1)=(j+1:Nat):=by rw[Ab (by omega) (by omega)];simp
  have hst:=Kz (mc:=Cg) hjn
  have hle:=UK (mc:=Cg) (xs:=xs) (j:=j+1)
  have hmc:Cg xs[j]=1+1+xs[j].deal.tags.length+1+xs[j].up.length:=rfl
  have hY:=AFH (mc:=Cg) (mk:=GQ) xs k j hjn
  generalize hK:k+(F8 Cg (xs.take j):Int)=K at hY⊢
  have hw0:IntKind.i64.wrap (K+1)=K+1:=Ab (by omega) (by omega)
  have hw1:IntKind.i64.wrap (K+1+1)=K+1+1:=Ab (by omega) (by omega)
  have hn2:¬K+1+1+((xs[j].deal.tags.length:Nat):Int)<0:=by omega
  have hw3:IntKind.i64.wrap (K+1+1+((xs[j].deal.tags.length:Nat):Int)+1)=K+1+1+((xs[j].deal.tags.length:Nat):Int)+1:=Ab (by omega) (by omega)
  have hn4:¬K+1+1+((xs[j].deal.tags.length:Nat):Int)+1+((xs[j].up.length:Nat):Int)<0:=by omega
  simp -implicitDefEqProofs [hjn,hY,GQ,hw0,hw1,hn2,hw3,hn4]
  refine Aa (hheldIntS xs[j].deal.tags.length _ (by omega) (by omega)) ?_
  simp -implicitDefEqProofs [hjn,hY,GQ,hw0,hw1,hn2,hw3,hn4]
  refine Aa (hheldIntS xs[j].up.length _ (by omega) (by omega)) ?_
  simp -implicitDefEqProofs [hjn,hY,GQ,hw0,hw1,hn2,hw3,hn4]
  exact⟨n-1,by omega,j+1,by omega,by first | omega | (rw[Ab (by omega) (by omega)];omega),by simp[hw]⟩
 ·have hma:=PL (mc:=Cg) (xs:=xs) (j:=j) (by omega)
  simp -implicitDefEqProofs [hjn,hma]
abbrev Oc (R:Rel):Prop:=∀(xs:List CO) (k:Int),0≤k→k+F8 Cj xs≤4611686018427387904→R [.arr 0,I k] [.arr 8 0 xs.length (xs.flatMap Av)] (I (k+F8 Cj xs)) [.arr 8 0 xs.length ((WY Cj GX xs k).flatMap Av)]
theorem Ajw (D:Dn) (hmarkIntS:G6 (D ADp)):Oc (Body D I7):=by
 intro xs k hk hl
 have hlen:xs.length≤F8 Cj xs:=UD (fun x=>by unfold Cj;omega) xs
 simp -implicitDefEqProofs
 refine Ad (fun n s=>∃j o,fd o∧j+n=xs.length∧s=⟨[.arr 0,.sc (.int .i64 (k+F8 Cj (xs.take j))),.undef,.sc (.int .i64 j),.undef],[.arr 8 0 xs.length ((mkJ Cj GX xs k j).flatMap Av),o,o]⟩) ?_ xs.length _ ⟨0,.free,AIX,by simp,by simp[Aao,F8]⟩
 intro n s ⟨j,o,ho,hj,hs⟩
 subst hs
 by_cases hjn:j<xs.length
 ·have hw:IntKind.i64.wrap ((j:Int)+1)=(j+1:Nat):=by rw[Ab (by omega) (by omega)];simp
  have hjl:j≤xs.length:=by omega
  have hst:=Kz (mc:=Cj) hjn
  have hle:=UK (mc:=Cj) (xs:=xs) (j:=j+1)
  have hmc:Cj xs[j]=1+1+1+1+1+xs[j].dialed.deal.tags.length+1+xs[j].dialed.up.length:=rfl
  have hset:=Afn (mc:=Cj) (mk:=GX) (k:=k) hjn
  generalize hK:k+(F8 Cj (xs.take j):Int)=K at hset⊢
  have hw0:IntKind.i64.wrap (K+1)=K+1:=Ab (by omega) (by omega)
  have hw1:IntKind.i64.wrap (K+1+1)=K+1+1:=Ab (by omega) (by omega)
  have hw2:IntKind.i64.wrap (K+1+1+1)=K+1+1+1:=Ab (by omega) (by omega)
  have hw3:IntKind.i64.wrap (K+1+1+1+1)=K+1+1+1+1:=Ab (by omega) (by omega)
  have hw4:IntKind.i64.wrap (K+1+1+1+1+1)=K+1+1+1+1+1:=Ab (by omega) (by omega)
  have hw6:IntKind.i64.wrap (K+1+1+1+1+1+((xs[j].dialed.deal.tags.length:Nat):Int)+1)=K+1+1+1+1+1+((xs[j].dialed.deal.tags.length:Nat):Int)+1:=Ab (by omega) (by omega)
  have hf1:j*8+1<xs.length*8:=by omega
  have hf2:j*8+2<xs.length*8:=by omega
  have hf3:j*8+3<xs.length*8:=by omega
  have hf4:j*8+4<xs.length*8:=by omega
  have hf5:j*8+5<xs.length*8:=by omega
  have hf6:j*8+6<xs.length*8:=by omega
  have hf7:j*8+7<xs.length*8:=by omega
  rcases ho with rfl | rfl
  all_goals simp -implicitDefEqProofs [hjn,hjl,Hf hjn,hw0,hw1,hw2,hw3,hw4,hw6,hf1,hf2,hf3,hf4,hf5,hf6,hf7]
  all_goals refine Aa (hmarkIntS xs[j].dialed.deal.tags _ (by omega) (by omega)) ?_
  all_goals simp -implicitDefEqProofs [hjn,hjl,Hf hjn,hw0,hw1,hw2,hw3,hw4,hw6,hf1,hf2,hf3,hf4,hf5,hf6,hf7]
  all_goals refine Aa (hmarkIntS xs[j].dialed.up _ (by omega) (by omega)) ?_
  all_goals simp -implicitDefEqProofs [hjn,hjl,Hf hjn,hw0,hw1,hw2,hw3,hw4,hw6,hf1,hf2,hf3,hf4,hf5,hf6,hf7]
  all_goals exact⟨n-1,by omega,j+1,.dead,AI1,by omega,⟨by first | omega | (rw[Ab (by omega) (by omega)];omega),by simp[hw]⟩,by rw[←hset];rfl,rfl⟩
 ·have hje:=Ae5 (mc:=Cj) (mk:=GX) (xs:=xs) (k:=k) (j:=j) (by omega)
  have hma:=PL (mc:=Cj) (xs:=xs) (j:=j) (by omega)
  simp -implicitDefEqProofs [hjn,hje,hma,IQ]
abbrev MX (R:Rel):Prop:=∀(xs:List CO) (k:Int),0≤k→k+F8 Cj xs≤4611686018427387904→R [.sl 1 8 xs.length ((WY Cj GX xs k).flatMap Av),I k] [] (I (k+F8 Cj xs)) []
theorem Ai9 (D:Dn) (hheldIntS:He (D ACc)):MX (Body D Iq):=by
 intro xs k hk hl
 have hlen:xs.length≤F8 Cj xs:=UD (fun x=>by unfold Cj;omega) xs
 simp -implicitDefEqProofs
 refine Ad (fun n s=>∃j,j+n=xs.length∧s=⟨[.sl 1 8 xs.length ((WY Cj GX xs k).flatMap Av),.sc (.int .i64 (k+F8 Cj (xs.take j))),.undef,.sc (.int .i64 j),.undef,.undef,.undef,.undef,.undef,.undef,.undef,.undef,.undef],[]⟩) ?_ xs.length _ ⟨0,by simp,by simp[F8]⟩
 intro n s ⟨j,hj,hs⟩
 subst hs
 by_cases hjn:j<xs.length
 ·have hw:IntKind.i64.wrap ((j:Int)+1)=(j+1:Nat):=by rw[Ab (by omega) (by omega)];simp
  have hst:=Kz (mc:=Cj) hjn
  have hle:=UK (mc:=Cj) (xs:=xs) (j:=j+1)
  have hmc:Cj xs[j]=1+1+1+1+1+xs[j].dialed.deal.tags.length+1+xs[j].dialed.up.length:=rfl
  have hY:=AFH (mc:=Cj) (mk:=GX) xs k j hjn
  generalize hK:k+(F8 Cj (xs.take j):Int)=K at hY⊢
  have hw0:IntKind.i64.wrap (K+1)=K+1:=Ab (by omega) (by omega)
  have hw1:IntKind.i64.wrap (K+1+1)=K+1+1:=Ab (by omega) (by omega)
  have hw2:IntKind.i64.wrap (K+1+1+1)=K+1+1+1:=Ab (by omega) (by omega)
  have hw3:IntKind.i64.wrap (K+1+1+1+1)=K+1+1+1+1:=Ab (by omega) (by omega)
  have hw4:IntKind.i64.wrap (K+1+1+1+1+1)=K+1+1+1+1+1:=Ab (by omega) (by omega)
  have hn5:¬K+1+1+1+1+1+((xs[j].dialed.deal.tags.length:Nat):Int)<0:=by omega
  have hw6:IntKind.i64.wrap (K+1+1+1+1+1+((xs[j].dialed.deal.tags.length:Nat):Int)+1)=K+1+1+1+1+1+((xs[j].dialed.deal.tags.length:Nat):Int)+1:=Ab (by omega) (by omega)
  have hn7:¬K+1+1+1+1+1+((xs[j].dialed.deal.tags.length:Nat):Int)+1+((xs[j].dialed.up.length:Nat):Int)<0:=by omega
  simp -implicitDefEqProofs [hjn,hY,GX,hw0,hw1,hw2,hw3,hw4,hn5,hw6,hn7]
  refine Aa (hheldIntS xs[j].dialed.deal.tags.length _ (by omega) (by omega)) ?_
  simp -implicitDefEqProofs [hjn,hY,GX,hw0,hw1,hw2,hw3,hw4,hn5,hw6,hn7]
  refine Aa (hheldIntS xs[j].dialed.up.length _ (by omega) (by omega)) ?_
  simp -implicitDefEqProofs [hjn,hY,GX,hw0,hw1,hw2,hw3,hw4,hn5,hw6,hn7]
  exact⟨n-1,by omega,j+1,by omega,by first | omega | (rw[Ab (by omega) (by omega)];omega),by simp[hw]⟩
 ·have hma:=PL (mc:=Cj) (xs:=xs) (j:=j) (by omega)
  simp -implicitDefEqProofs [hjn,hma]
end Go.Eng.T
namespace Go.Eng.T
set_option maxRecDepth 20000
abbrev Zj (R:Rel):Prop:=∀(x:World) (l:Int),0≤l→l≤4194304→AaL x→R [arg (Bn x),I l] [] (I (szl (Af x) l)) []
theorem ApY (D:Dn) (hszIntS:NI (D 16)) (hszEndpointS:NY (D 17)) (hszRollout:Q0 (D 18)) (hszDialedS:Te (D 19)) (hszLoggedS:QU (D 20)):Zj (Body D Qa):=by
 intro x l hl1 hl2 hln
 simp only[AaL]at hln
 simp -implicitDefEqProofs
 refine Aa (hszIntS x.server (l) (by omega) (by omega) hln.1) ?_
 by_cases g0:l<((x.server.length:Nat):Int)
 ·have gg:l<((Af x:Nat):Int):=by simp only[Af];omega
  have e1:szl (x.server.length) (l)= -1:=by unfold szl;rw[if_pos g0]
  have e2:szl (Af x) l= -1:=by unfold szl;rw[if_pos gg]
  simp -implicitDefEqProofs [e1,e2]
 have e3:szl (x.server.length) (l)=l-((x.server.length:Nat):Int):=by unfold szl;rw[if_neg g0]
 have p0:¬l-((x.server.length:Nat):Int)<0:=by omega
 simp -implicitDefEqProofs [e3,p0]
 refine Aa (hszIntS x.tags (l-((x.server.length:Nat):Int)) (by omega) (by omega) hln.2.1) ?_
 by_cases g1:l-((x.server.length:Nat):Int)<((x.tags.length:Nat):Int)
 ·have gg:l<((Af x:Nat):Int):=by simp only[Af];omega
  have e1:szl (x.tags.length) (l-((x.server.length:Nat):Int))= -1:=by unfold szl;rw[if_pos g1]
  have e2:szl (Af x) l= -1:=by unfold szl;rw[if_pos gg]
  simp -implicitDefEqProofs [e1,e2]
 have e4:szl (x.tags.length) (l-((x.server.length:Nat):Int))=l-((x.server.length:Nat):Int)-((x.tags.length:Nat):Int):=by unfold szl;rw[if_neg g1]
 have p1:¬l-((x.server.length:Nat):Int)-((x.tags.length:Nat):Int)<0:=by omega
 simp -implicitDefEqProofs [e4,p1]
 refine Aa (hszEndpointS x.ends (l-((x.server.length:Nat):Int)-((x.tags.length:Nat):Int)) (by omega) (by omega) hln.2.2.1) ?_
 by_cases g2:l-((x.server.length:Nat):Int)-((x.tags.length:Nat):Int)<((Cu Ar x.ends:Nat):Int)
 ·have gg:l<((Af x:Nat):Int):=by simp only[Af];omega
  have e1:szl (Cu Ar x.ends) (l-((x.server.length:Nat):Int)-((x.tags.length:Nat):Int))= -1:=by unfold szl;rw[if_pos g2]
  have e2:szl (Af x) l= -1:=by unfold szl;rw[if_pos gg]
  simp -implicitDefEqProofs [e1,e2]
 have e5:szl (Cu Ar x.ends) (l-((x.server.length:Nat):Int)-((x.tags.length:Nat):Int))=l-((x.server.length:Nat):Int)-((x.tags.length:Nat):Int)-((Cu Ar x.ends:Nat):Int):=by unfold szl;rw[if_neg g2]
 have p2:¬l-((x.server.length:Nat):Int)-((x.tags.length:Nat):Int)-((Cu Ar x.ends:Nat):Int)<0:=by omega
 simp -implicitDefEqProofs [e5,p2]
 refine Aa (hszRollout x.rollout (l-((x.server.length:Nat):Int)-((x.tags.length:Nat):Int)-((Cu Ar x.ends:Nat):Int)) (by omega) (by omega) hln.2.2.2.1) ?_
 by_cases g3:l-((x.server.length:Nat):Int)-((x.tags.length:Nat):Int)-((Cu Ar x.ends:Nat):Int)<((BX x.rollout:Nat):Int)
 ·have gg:l<((Af x:Nat):Int):=by simp only[Af];omega
  have e1:szl (BX x.rollout) (l-((x.server.length:Nat):Int)-((x.tags.length:Nat):Int)-((Cu Ar x.ends:Nat):Int))= -1:=by unfold szl;rw[if_pos g3]
  have e2:szl (Af x) l= -1:=by unfold szl;rw[if_pos gg]
  simp -implicitDefEqProofs [e1,e2]
 have e6:szl (BX x.rollout) (l-((x.server.length:Nat):Int)-((x.tags.length:Nat):Int)-((Cu Ar x.ends:Nat):Int))=l-((x.server.length:Nat):Int)-((x.tags.length:Nat):Int)-((Cu Ar x.ends:Nat):Int)-((BX x.rollout:Nat):Int):=by unfold szl;rw[if_neg g3]
 have p3:¬l-((x.server.length:Nat):Int)-((x.tags.length:Nat):Int)-((Cu Ar x.ends:Nat):Int)-((BX x.rollout:Nat):Int)<0:=by omega
 simp -implicitDefEqProofs [e6,p3]
 refine Aa (hszDialedS x.stage (l-((x.server.length:Nat):Int)-((x.tags.length:Nat):Int)-((Cu Ar x.ends:Nat):Int)-((BX x.rollout:Nat):Int)) (by omega) (by omega) hln.2.2.2.2.1) ?_
 by_cases g4:l-((x.server.length:Nat):Int)-((x.tags.length:Nat):Int)-((Cu Ar x.ends:Nat):Int)-((BX x.rollout:Nat):Int)<((Cu DW x.stage:Nat):Int)
 ·have gg:l<((Af x:Nat):Int):=by simp only[Af];omega
  have e1:szl (Cu DW x.stage) (l-((x.server.length:Nat):Int)-((x.tags.length:Nat):Int)-((Cu Ar x.ends:Nat):Int)-((BX x.rollout:Nat):Int))= -1:=by unfold szl;rw[if_pos g4]
  have e2:szl (Af x) l= -1:=by unfold szl;rw[if_pos gg]
  simp -implicitDefEqProofs [e1,e2]
 have e7:szl (Cu DW x.stage) (l-((x.server.length:Nat):Int)-((x.tags.length:Nat):Int)-((Cu Ar x.ends:Nat):Int)-((BX x.rollout:Nat):Int))=l-((x.server.length:Nat):Int)-((x.tags.length:Nat):Int)-((Cu Ar x.ends:Nat):Int)-((BX x.rollout:Nat):Int)-((Cu DW x.stage:Nat):Int):=by unfold szl;rw[if_neg g4]
 have p4:¬l-((x.server.length:Nat):Int)-((x.tags.length:Nat):Int)-((Cu Ar x.ends:Nat):Int)-((BX x.rollout:Nat):Int)-((Cu DW x.stage:Nat):Int)<0:=by omega
 simp -implicitDefEqProofs [e7,p4]
 refine Aa (hszLoggedS x.log (l-((x.server.length:Nat):Int)-((x.tags.length:Nat):Int)-((Cu Ar x.ends:Nat):Int)-((BX x.rollout:Nat):Int)-((Cu DW x.stage:Nat):Int)) (by omega) (by omega) hln.2.2.2.2.2) ?_
 by_cases g5:l-((x.server.length:Nat):Int)-((x.tags.length:Nat):Int)-((Cu Ar x.ends:Nat):Int)-((BX x.rollout:Nat):Int)-((Cu DW x.stage:Nat):Int)<((Cu Ce x.log:Nat):Int)
 ·have gg:l<((Af x:Nat):Int):=by simp only[Af];omega
  have e1:szl (Cu Ce x.log) (l-((x.server.length:Nat):Int)-((x.tags.length:Nat):Int)-((Cu Ar x.ends:Nat):Int)-((BX x.rollout:Nat):Int)-((Cu DW x.stage:Nat):Int))= -1:=by unfold szl;rw[if_pos g5]
  have e2:szl (Af x) l= -1:=by unfold szl;rw[if_pos gg]
  simp -implicitDefEqProofs [e1,e2]
 have e8:szl (Cu Ce x.log) (l-((x.server.length:Nat):Int)-((x.tags.length:Nat):Int)-((Cu Ar x.ends:Nat):Int)-((BX x.rollout:Nat):Int)-((Cu DW x.stage:Nat):Int))=l-((x.server.length:Nat):Int)-((x.tags.length:Nat):Int)-((Cu Ar x.ends:Nat):Int)-((BX x.rollout:Nat):Int)-((Cu DW x.stage:Nat):Int)-((Cu Ce x.log:Nat):Int):=by unfold szl;rw[if_neg g5]
 have p5:¬l-((x.server.length:Nat):Int)-((x.tags.length:Nat):Int)-((Cu Ar x.ends:Nat):Int)-((BX x.rollout:Nat):Int)-((Cu DW x.stage:Nat):Int)-((Cu Ce x.log:Nat):Int)<0:=by omega
 simp -implicitDefEqProofs [e8,p5]
 have gg:¬l<((Af x:Nat):Int):=by simp only[Af];omega
 unfold szl;rw[if_neg gg];simp only[Af]<;>omega
abbrev Zi (R:Rel):Prop:=∀x:World,Af x≤4194304→R [arg (Bn x)] [] (.agg (Bn x)) []
theorem App (D:Dn) (htoIntS:Oz (D 31)) (htoEndpointS:Nj (D 32)) (htoRollout:SX (D 33)) (htoDialedS:QR (D 34)) (htoLoggedS:Q6 (D 35)):Zi (Body D Qz):=by
 intro x h
 simp only[Af]at h
 simp -implicitDefEqProofs
 refine Aa (htoIntS x.server (by omega)) ?_
 simp -implicitDefEqProofs
 refine Aa (htoIntS x.tags (by omega)) ?_
 simp -implicitDefEqProofs
 refine Aa (htoEndpointS x.ends (by omega)) ?_
 simp -implicitDefEqProofs
 refine Aa (htoRollout x.rollout (by omega)) ?_
 simp -implicitDefEqProofs
 refine Aa (htoDialedS x.stage (by omega)) ?_
 simp -implicitDefEqProofs
 refine Aa (htoLoggedS x.log (by omega)) ?_
 simp -implicitDefEqProofs
abbrev Z8 (R:Rel):Prop:=∀x y:World,Af x≤2 ^ 40→Af y≤2 ^ 40→R [arg (Bn x),arg (Bn y)] [] (B (decide (x=y))) []
theorem ApZ (D:Dn) (heqIntS:Pp (D 47)) (heqEndpointS:Oo (D 48)) (heqRollout:QW (D 49)) (heqDialedS:RA (D 50)) (heqLoggedS:RV (D 51)):Z8 (Body D Qj):=by
 intro x y h1 h2
 simp only[Af]at h1 h2
 simp -implicitDefEqProofs
 refine Aa (heqIntS x.server y.server (by unfold maxLen;omega) (by unfold maxLen;omega)) ?_
 by_cases g_server:x.server=y.server
 rotate_left
 ·have hne:x≠y:=fun h=>g_server (by rw[h])
  simp -implicitDefEqProofs [g_server,hne]
 simp -implicitDefEqProofs [g_server]
 refine Aa (heqIntS x.tags y.tags (by unfold maxLen;omega) (by unfold maxLen;omega)) ?_
 by_cases g_tags:x.tags=y.tags
 rotate_left
 ·have hne:x≠y:=fun h=>g_tags (by rw[h])
  simp -implicitDefEqProofs [g_tags,hne]
 simp -implicitDefEqProofs [g_tags]
 by_cases g_key:x.key=y.key
 rotate_left
 ·have hne:x≠y:=fun h=>g_key (by rw[h])
  simp -implicitDefEqProofs [g_key,hne]
 simp -implicitDefEqProofs [g_key]
 refine Aa (heqEndpointS x.ends y.ends (by omega) (by omega)) ?_
 by_cases g_ends:x.ends=y.ends
 rotate_left
 ·have hne:x≠y:=fun h=>g_ends (by rw[h])
  simp -implicitDefEqProofs [g_ends,hne]
 simp -implicitDefEqProofs [g_ends]
 refine Aa (heqRollout x.rollout y.rollout (by omega) (by omega)) ?_
 by_cases g_rollout:x.rollout=y.rollout
 rotate_left
 ·have hne:x≠y:=fun h=>g_rollout (by rw[h])
  simp -implicitDefEqProofs [g_rollout,hne]
 simp -implicitDefEqProofs [g_rollout]
 by_cases g_least:x.least=y.least
 rotate_left
 ·have hne:x≠y:=fun h=>g_least (by rw[h])
  simp -implicitDefEqProofs [g_least,hne]
 simp -implicitDefEqProofs [g_least]
 by_cases g_percent:x.percent=y.percent
 rotate_left
 ·have hne:x≠y:=fun h=>g_percent (by rw[h])
  simp -implicitDefEqProofs [g_percent,hne]
 simp -implicitDefEqProofs [g_percent]
 refine Aa (heqDialedS x.stage y.stage (by omega) (by omega)) ?_
 by_cases g_stage:x.stage=y.stage
 rotate_left
 ·have hne:x≠y:=fun h=>g_stage (by rw[h])
  simp -implicitDefEqProofs [g_stage,hne]
 simp -implicitDefEqProofs [g_stage]
 refine Aa (heqLoggedS x.log y.log (by omega) (by omega)) ?_
 by_cases g_log:x.log=y.log
 rotate_left
 ·have hne:x≠y:=fun h=>g_log (by rw[h])
  simp -implicitDefEqProofs [g_log,hne]
 simp -implicitDefEqProofs [g_log]
 by_cases g_now:x.now=y.now
 rotate_left
 ·have hne:x≠y:=fun h=>g_now (by rw[h])
  simp -implicitDefEqProofs [g_now,hne]
 simp -implicitDefEqProofs [g_now]
 by_cases g_hurt:x.hurt=y.hurt
 rotate_left
 ·have hne:x≠y:=fun h=>g_hurt (by rw[h])
  simp -implicitDefEqProofs [g_hurt,hne]
 simp -implicitDefEqProofs [g_hurt]
 by_cases g_reached:x.reached=y.reached
 rotate_left
 ·have hne:x≠y:=fun h=>g_reached (by rw[h])
  simp -implicitDefEqProofs [g_reached,hne]
 simp -implicitDefEqProofs [g_reached]
 have hxy:x=y:=by cases x;cases y;simp_all
 simp -implicitDefEqProofs [hxy]
end Go.Eng.T
namespace Go.Eng.T
abbrev U0 (R:Rel):Prop:=∀(xs:List Gu) (k:Int),0≤k→k+F8 E9 xs≤4611686018427387904→R [.arr 0,I k] [.arr 4 0 xs.length (xs.flatMap Dy)] (I (k+F8 E9 xs)) [.arr 4 0 xs.length ((WY E9 Uc xs k).flatMap Dy)]
theorem Aoq (D:Dn) (hmarkIntS:G6 (D ADp)):U0 (Body D Pj):=by
 intro xs k hk hl
 have hlen:xs.length≤F8 E9 xs:=UD (fun x=>by unfold E9;omega) xs
 simp -implicitDefEqProofs
 refine Ad (fun n s=>∃j o,fd o∧j+n=xs.length∧s=⟨[.arr 0,.sc (.int .i64 (k+F8 E9 (xs.take j))),.undef,.sc (.int .i64 j),.undef],[.arr 4 0 xs.length ((mkJ E9 Uc xs k j).flatMap Dy),o,o]⟩) ?_ xs.length _ ⟨0,.free,AIX,by simp,by simp[Aao,F8]⟩
 intro n s ⟨j,o,ho,hj,hs⟩
 subst hs
 by_cases hjn:j<xs.length
 ·have hw:IntKind.i64.wrap ((j:Int)+1)=(j+1:Nat):=by rw[Ab (by omega) (by omega)];simp
  have hjl:j≤xs.length:=by omega
  have hst:=Kz (mc:=E9) hjn
  have hle:=UK (mc:=E9) (xs:=xs) (j:=j+1)
  have hmc:E9 xs[j]=1+xs[j].drops.length+xs[j].strips.length+1:=rfl
  have hset:=Afn (mc:=E9) (mk:=Uc) (k:=k) hjn
  generalize hK:k+(F8 E9 (xs.take j):Int)=K at hset⊢
  have hw0:IntKind.i64.wrap (K+1)=K+1:=Ab (by omega) (by omega)
  have hw3:IntKind.i64.wrap (K+1+((xs[j].drops.length:Nat):Int)+((xs[j].strips.length:Nat):Int)+1)=K+1+((xs[j].drops.length:Nat):Int)+((xs[j].strips.length:Nat):Int)+1:=Ab (by omega) (by omega)
  have hf1:j*4+1<xs.length*4:=by omega
  have hf2:j*4+2<xs.length*4:=by omega
  have hf3:j*4+3<xs.length*4:=by omega
  rcases ho with rfl | rfl
  all_goals simp -implicitDefEqProofs [hjn,hjl,Hf hjn,hw0,hw3,hf1,hf2,hf3]
  all_goals refine Aa (hmarkIntS xs[j].drops _ (by omega) (by omega)) ?_
  all_goals simp -implicitDefEqProofs [hjn,hjl,Hf hjn,hw0,hw3,hf1,hf2,hf3]
  all_goals refine Aa (hmarkIntS xs[j].strips _ (by omega) (by omega)) ?_
  all_goals simp -implicitDefEqProofs [hjn,hjl,Hf hjn,hw0,hw3,hf1,hf2,hf3]
  all_goals exact⟨n-1,by omega,j+1,.dead,AI1,by omega,⟨by first | omega | (rw[Ab (by omega) (by omega)];omega),by simp[hw]⟩,by rw[←hset];rfl,rfl⟩
 ·have hje:=Ae5 (mc:=E9) (mk:=Uc) (xs:=xs) (k:=k) (j:=j) (by omega)
  have hma:=PL (mc:=E9) (xs:=xs) (j:=j) (by omega)
  simp -implicitDefEqProofs [hjn,hje,hma,IQ]
abbrev Vo (R:Rel):Prop:=∀(xs:List Gu) (k:Int),0≤k→k+F8 E9 xs≤4611686018427387904→R [.sl 1 4 xs.length ((WY E9 Uc xs k).flatMap Dy),I k] [] (I (k+F8 E9 xs)) []
theorem An2 (D:Dn) (hheldIntS:He (D ACc)):Vo (Body D Pd):=by
 intro xs k hk hl
 have hlen:xs.length≤F8 E9 xs:=UD (fun x=>by unfold E9;omega) xs
 simp -implicitDefEqProofs
 refine Ad (fun n s=>∃j,j+n=xs.length∧s=⟨[.sl 1 4 xs.length ((WY E9 Uc xs k).flatMap Dy),.sc (.int .i64 (k+F8 E9 (xs.take j))),.undef,.sc (.int .i64 j),.undef,.undef,.undef,.undef,.undef],[]⟩) ?_ xs.length _ ⟨0,by simp,by simp[F8]⟩
 intro n s ⟨j,hj,hs⟩
 subst hs
 by_cases hjn:j<xs.length
 ·have hw:IntKind.i64.wrap ((j:Int)+1)=(j+1:Nat):=by rw[Ab (by omega) (by omega)];simp
  have hst:=Kz (mc:=E9) hjn
  have hle:=UK (mc:=E9) (xs:=xs) (j:=j+1)
  have hmc:E9 xs[j]=1+xs[j].drops.length+xs[j].strips.length+1:=rfl
  have hY:=AFH (mc:=E9) (mk:=Uc) xs k j hjn
  generalize hK:k+(F8 E9 (xs.take j):Int)=K at hY⊢
  have hw0:IntKind.i64.wrap (K+1)=K+1:=Ab (by omega) (by omega)
  have hn1:¬K+1+((xs[j].drops.length:Nat):Int)<0:=by omega
  have hn2:¬K+1+((xs[j].drops.length:Nat):Int)+((xs[j].strips.length:Nat):Int)<0:=by omega
  have hw3:IntKind.i64.wrap (K+1+((xs[j].drops.length:Nat):Int)+((xs[j].strips.length:Nat):Int)+1)=K+1+((xs[j].drops.length:Nat):Int)+((xs[j].strips.length:Nat):Int)+1:=Ab (by omega) (by omega)
  simp -implicitDefEqProofs [hjn,hY,Uc,hw0,hn1,hn2,hw3]
  refine Aa (hheldIntS xs[j].drops.length _ (by omega) (by omega)) ?_
  simp -implicitDefEqProofs [hjn,hY,Uc,hw0,hn1,hn2,hw3]
  refine Aa (hheldIntS xs[j].strips.length _ (by omega) (by omega)) ?_
  simp -implicitDefEqProofs [hjn,hY,Uc,hw0,hn1,hn2,hw3]
  exact⟨n-1,by omega,j+1,by omega,by first | omega | (rw[Ab (by omega) (by omega)];omega),by simp[hw]⟩
 ·have hma:=PL (mc:=E9) (xs:=xs) (j:=j) (by omega)
  simp -implicitDefEqProofs [hjn,hma]
abbrev IA (R:Rel):Prop:=∀(xs:List Aq) (k:Int),0≤k→k+F8 Bv xs≤4611686018427387904→R [.arr 0,I k] [.arr 4 0 xs.length (xs.flatMap Ak)] (I (k+F8 Bv xs)) [.arr 4 0 xs.length ((WY Bv FK xs k).flatMap Ak)]
theorem AeZ (D:Dn) (hmarkIntS:G6 (D ADp)) (hmarkBoxS:U0 (D ACf)):IA (Body D H7):=by
 intro xs k hk hl
 have hlen:xs.length≤F8 Bv xs:=UD (fun x=>by unfold Bv;omega) xs
 simp -implicitDefEqProofs
 refine Ad (fun n s=>∃j o,fd o∧j+n=xs.length∧s=⟨[.arr 0,.sc (.int .i64 (k+F8 Bv (xs.take j))),.undef,.sc (.int .i64 j),.undef],[.arr 4 0 xs.length ((mkJ Bv FK xs k j).flatMap Ak),o,o,o]⟩) ?_ xs.length _ ⟨0,.free,AIX,by simp,by simp[Aao,F8]⟩
 intro n s ⟨j,o,ho,hj,hs⟩
 subst hs
 by_cases hjn:j<xs.length
 ·have hw:IntKind.i64.wrap ((j:Int)+1)=(j+1:Nat):=by rw[Ab (by omega) (by omega)];simp
  have hjl:j≤xs.length:=by omega
  have hst:=Kz (mc:=Bv) hjn
  have hle:=UK (mc:=Bv) (xs:=xs) (j:=j+1)
  have hmc:Bv xs[j]=xs[j].versions.length+xs[j].tags.length+F8 E9 xs[j].path+1:=rfl
  have hset:=Afn (mc:=Bv) (mk:=FK) (k:=k) hjn
  generalize hK:k+(F8 Bv (xs.take j):Int)=K at hset⊢
  have hw3:IntKind.i64.wrap (K+((xs[j].versions.length:Nat):Int)+((xs[j].tags.length:Nat):Int)+((F8 E9 xs[j].path:Nat):Int)+1)=K+((xs[j].versions.length:Nat):Int)+((xs[j].tags.length:Nat):Int)+((F8 E9 xs[j].path:Nat):Int)+1:=Ab (by omega) (by omega)
  have hf1:j*4+1<xs.length*4:=by omega
  have hf2:j*4+2<xs.length*4:=by omega
  have hf3:j*4+3<xs.length*4:=by omega
  rcases ho with rfl | rfl
  all_goals simp -implicitDefEqProofs [hjn,hjl,Hf hjn,hw3,hf1,hf2,hf3]
  all_goals refine Aa (hmarkIntS xs[j].versions _ (by omega) (by omega)) ?_
  all_goals simp -implicitDefEqProofs [hjn,hjl,Hf hjn,hw3,hf1,hf2,hf3]
  all_goals refine Aa (hmarkIntS xs[j].tags _ (by omega) (by omega)) ?_
  all_goals simp -implicitDefEqProofs [hjn,hjl,Hf hjn,hw3,hf1,hf2,hf3]
  all_goals refine Aa (hmarkBoxS xs[j].path _ (by omega) (by omega)) ?_
  all_goals simp -implicitDefEqProofs [hjn,hjl,Hf hjn,hw3,hf1,hf2,hf3]
  all_goals exact⟨n-1,by omega,j+1,.dead,AI1,by omega,⟨by first | omega | (rw[Ab (by omega) (by omega)];omega),by simp[hw]⟩,by rw[←hset];rfl,rfl⟩
 ·have hje:=Ae5 (mc:=Bv) (mk:=FK) (xs:=xs) (k:=k) (j:=j) (by omega)
  have hma:=PL (mc:=Bv) (xs:=xs) (j:=j) (by omega)
  simp -implicitDefEqProofs [hjn,hje,hma,IQ]
abbrev Ja (R:Rel):Prop:=∀(xs:List Aq) (k:Int),0≤k→k+F8 Bv xs≤4611686018427387904→R [.sl 1 4 xs.length ((WY Bv FK xs k).flatMap Ak),I k] [] (I (k+F8 Bv xs)) []
theorem AeM (D:Dn) (hheldIntS:He (D ACc)) (hheldBoxS:Vo (D ADV)):Ja (Body D HY):=by
 intro xs k hk hl
 have hlen:xs.length≤F8 Bv xs:=UD (fun x=>by unfold Bv;omega) xs
 simp -implicitDefEqProofs
 refine Ad (fun n s=>∃j,j+n=xs.length∧s=⟨[.sl 1 4 xs.length ((WY Bv FK xs k).flatMap Ak),.sc (.int .i64 (k+F8 Bv (xs.take j))),.undef,.sc (.int .i64 j),.undef,.undef,.undef,.undef,.undef],[]⟩) ?_ xs.length _ ⟨0,by simp,by simp[F8]⟩
 intro n s ⟨j,hj,hs⟩
 subst hs
 by_cases hjn:j<xs.length
 ·have hw:IntKind.i64.wrap ((j:Int)+1)=(j+1:Nat):=by rw[Ab (by omega) (by omega)];simp
  have hst:=Kz (mc:=Bv) hjn
  have hle:=UK (mc:=Bv) (xs:=xs) (j:=j+1)
  have hmc:Bv xs[j]=xs[j].versions.length+xs[j].tags.length+F8 E9 xs[j].path+1:=rfl
  have hY:=AFH (mc:=Bv) (mk:=FK) xs k j hjn
  generalize hK:k+(F8 Bv (xs.take j):Int)=K at hY⊢
  have hn0:¬K+((xs[j].versions.length:Nat):Int)<0:=by omega
  have hn1:¬K+((xs[j].versions.length:Nat):Int)+((xs[j].tags.length:Nat):Int)<0:=by omega
  have hn2:¬K+((xs[j].versions.length:Nat):Int)+((xs[j].tags.length:Nat):Int)+((F8 E9 xs[j].path:Nat):Int)<0:=by omega
  have hw3:IntKind.i64.wrap (K+((xs[j].versions.length:Nat):Int)+((xs[j].tags.length:Nat):Int)+((F8 E9 xs[j].path:Nat):Int)+1)=K+((xs[j].versions.length:Nat):Int)+((xs[j].tags.length:Nat):Int)+((F8 E9 xs[j].path:Nat):Int)+1:=Ab (by omega) (by omega)
  simp -implicitDefEqProofs [hjn,hY,FK,hn0,hn1,hn2,hw3]
  refine Aa (hheldIntS xs[j].versions.length _ (by omega) (by omega)) ?_
  simp -implicitDefEqProofs [hjn,hY,FK,hn0,hn1,hn2,hw3]
  refine Aa (hheldIntS xs[j].tags.length _ (by omega) (by omega)) ?_
  simp -implicitDefEqProofs [hjn,hY,FK,hn0,hn1,hn2,hw3]
  refine Aa (hheldBoxS xs[j].path _ (by omega) (by omega)) ?_
  simp -implicitDefEqProofs [hjn,hY,FK,hn0,hn1,hn2,hw3]
  exact⟨n-1,by omega,j+1,by omega,by first | omega | (rw[Ab (by omega) (by omega)];omega),by simp[hw]⟩
 ·have hma:=PL (mc:=Bv) (xs:=xs) (j:=j) (by omega)
  simp -implicitDefEqProofs [hjn,hma]
end Go.Eng.T
namespace Go.Eng.T
set_option maxRecDepth 20000
abbrev Od (R:Rel):Prop:=∀(x:BL) (k:Int),0≤k→k+Ck x≤4611686018427387904→R [.agg [.sc (.int .i64 x.version),.arr 0,.sc (.int .i64 x.pos),.sc (.bool x.off)],I k] [.arr 1 0 x.stages.length (ints (x.stages))] (I (k+Ck x)) [.arr 1 0 x.stages.length (ints ((Dg x k).stages))]
theorem AjR (D:Dn) (hmarkIntS:G6 (D ADp)):Od (Body D JA):=by
 intro x k hk hl
 simp only[Ck]at hl
 simp -implicitDefEqProofs
 refine Aa (hmarkIntS x.stages _ (by omega) (by omega)) ?_
 simp -implicitDefEqProofs [Ck,Dg,Ht,YU]
 simp[Dg,Ck,IQ,Int.add_assoc,show List.range 6=[0,1,2,3,4,5]from rfl,show List.range 2=[0,1]from rfl,show List.range 3=[0,1,2]from rfl]
abbrev Nr (R:Rel):Prop:=∀(x:BL) (k:Int),0≤k→k+Ck x≤4611686018427387904→R [arg (F7 (Dg x k)),I k] [] (I (k+Ck x)) []
theorem Aiv (D:Dn) (hheldIntS:He (D ACc)):Nr (Body D Jy):=by
 intro x k hk hl
 simp only[Ck]at hl
 have hn1:¬k+((x.stages.length:Nat):Int)<0:=by omega
 simp -implicitDefEqProofs [Dg,Ck,Ht,hn1]
 refine Aa (hheldIntS x.stages.length _ (by omega) (by omega)) ?_
 simp -implicitDefEqProofs [Dg,Ck,Ht,hn1]
 try simp[Ck,Int.add_assoc]
abbrev R7 (R:Rel):Prop:=∀(x:World) (k:Int),0≤k→k+G7 x≤4611686018427387904→R [.agg [.arr 0,.arr 1,.sc (.int .i64 x.key),.arr 2,.sc (.int .i64 x.rollout.version),.arr 3,.sc (.int .i64 x.rollout.pos),.sc (.bool x.rollout.off),.sc (.int .i64 x.least),.sc (.int .i64 x.percent),.arr 4,.arr 5,.sc (.int .i64 x.now),.sc (.int .i64 x.hurt),.sc (.int .i64 x.reached)],I k] [.arr 1 0 x.server.length (ints (x.server)),.arr 1 0 x.tags.length (ints (x.tags)),.arr 4 0 x.ends.length ((x.ends).flatMap Ak),.arr 1 0 x.rollout.stages.length (ints (x.rollout.stages)),.arr 5 0 x.stage.length ((x.stage).flatMap A9),.arr 8 0 x.log.length ((x.log).flatMap Av)] (I (k+G7 x)) [.arr 1 0 x.server.length (ints ((EG x k).server)),.arr 1 0 x.tags.length (ints ((EG x k).tags)),.arr 4 0 x.ends.length (((EG x k).ends).flatMap Ak),.arr 1 0 x.rollout.stages.length (ints ((EG x k).rollout.stages)),.arr 5 0 x.stage.length (((EG x k).stage).flatMap A9),.arr 8 0 x.log.length (((EG x k).log).flatMap Av)]
theorem AmC (D:Dn) (hmarkIntS:G6 (D ADp)) (hmarkEndpointS:IA (D Au0)) (hmarkRollout:Od (D AxQ)) (hmarkDialedS:N9 (D AxT)) (hmarkLoggedS:Oc (D Ayz)):R7 (Body D KF):=by
 intro x k hk hl
 simp only[G7]at hl
 simp -implicitDefEqProofs
 refine Aa (hmarkIntS x.server _ (by omega) (by omega)) ?_
 simp -implicitDefEqProofs [Ck,Dg,Ht,YU]
 refine Aa (hmarkIntS x.tags _ (by omega) (by omega)) ?_
 simp -implicitDefEqProofs [Ck,Dg,Ht,YU]
 refine Aa (hmarkEndpointS x.ends _ (by omega) (by omega)) ?_
 simp -implicitDefEqProofs [Ck,Dg,Ht,YU]
 refine Aa (hmarkRollout x.rollout _ (by omega) (by simp only[Ck];omega)) ?_
 simp -implicitDefEqProofs [Ck,Dg,Ht,YU]
 refine Aa (hmarkDialedS x.stage _ (by omega) (by omega)) ?_
 simp -implicitDefEqProofs [Ck,Dg,Ht,YU]
 refine Aa (hmarkLoggedS x.log _ (by omega) (by omega)) ?_
 simp -implicitDefEqProofs [Ck,Dg,Ht,YU]
 simp[EG,G7,IQ,Int.add_assoc,show List.range 6=[0,1,2,3,4,5]from rfl,show List.range 2=[0,1]from rfl,show List.range 3=[0,1,2]from rfl]
abbrev SF (R:Rel):Prop:=∀(x:World) (k:Int),0≤k→k+G7 x≤4611686018427387904→R [arg (Bn (EG x k)),I k] [] (I (k+G7 x)) []
theorem Anr (D:Dn) (hheldIntS:He (D ACc)) (hheldEndpointS:Ja (D Avb)) (hheldRollout:Nr (D Axu)) (hheldDialedS:Nw (D Ax3)) (hheldLoggedS:MX (D Ax7)):SF (Body D KN):=by
 intro x k hk hl
 simp only[G7]at hl
 have hn0:¬k+((x.server.length:Nat):Int)<0:=by omega
 have hn1:¬k+((x.server.length:Nat):Int)+((x.tags.length:Nat):Int)<0:=by omega
 have hn3:¬k+((x.server.length:Nat):Int)+((x.tags.length:Nat):Int)+((F8 Bv x.ends:Nat):Int)<0:=by omega
 have hn4:¬k+((x.server.length:Nat):Int)+((x.tags.length:Nat):Int)+((F8 Bv x.ends:Nat):Int)+((x.rollout.stages.length:Nat):Int)<0:=by omega
 have hn7:¬k+((x.server.length:Nat):Int)+((x.tags.length:Nat):Int)+((F8 Bv x.ends:Nat):Int)+((x.rollout.stages.length:Nat):Int)+((F8 Cg x.stage:Nat):Int)<0:=by omega
 have hn8:¬k+((x.server.length:Nat):Int)+((x.tags.length:Nat):Int)+((F8 Bv x.ends:Nat):Int)+((x.rollout.stages.length:Nat):Int)+((F8 Cg x.stage:Nat):Int)+((F8 Cj x.log:Nat):Int)<0:=by omega
 simp -implicitDefEqProofs [EG,Ck,Ht,hn0,hn1,hn3,hn4,hn7,hn8]
 refine Aa (hheldIntS x.server.length _ (by omega) (by omega)) ?_
 simp -implicitDefEqProofs [EG,Ck,Ht,hn0,hn1,hn3,hn4,hn7,hn8]
 refine Aa (hheldIntS x.tags.length _ (by omega) (by omega)) ?_
 simp -implicitDefEqProofs [EG,Ck,Ht,hn0,hn1,hn3,hn4,hn7,hn8]
 refine Aa (hheldEndpointS x.ends _ (by omega) (by omega)) ?_
 simp -implicitDefEqProofs [EG,Ck,Ht,hn0,hn1,hn3,hn4,hn7,hn8]
 have hr:=hheldRollout x.rollout (k+((x.server.length:Nat):Int)+((x.tags.length:Nat):Int)+((F8 Bv x.ends:Nat):Int)) (by omega) (by simp only[Ck];omega)
 simp[Dg,Ck]at hr
 refine Aa hr ?_
 simp -implicitDefEqProofs [EG,Ck,Ht,hn0,hn1,hn3,hn4,hn7,hn8]
 refine Aa (hheldDialedS x.stage _ (by omega) (by omega)) ?_
 simp -implicitDefEqProofs [EG,Ck,Ht,hn0,hn1,hn3,hn4,hn7,hn8]
 refine Aa (hheldLoggedS x.log _ (by omega) (by omega)) ?_
 simp -implicitDefEqProofs [EG,Ck,Ht,hn0,hn1,hn3,hn4,hn7,hn8]
 try simp[G7,Int.add_assoc]
end Go.Eng.T
namespace Go.Eng.T
theorem AdL {xs:List Int} {v:Int} {j:Nat} (h:j<xs.length) (hp:v∉xs.take j) (hv:¬xs[j]=v):v∉xs.take (j+1):=by
 rw[List.take_add_one,List.getElem?_eq_getElem h]
 intro hm
 rcases List.mem_append.1 hm with hm | hm
 ·exact hp hm
 ·simp at hm;exact hv hm.symm
theorem AgQ {xs:List Int} {v:Int} {j:Nat} (h:xs.length≤j) (hp:v∉xs.take j):v∉xs:=by rwa [List.take_of_length_le h]at hp
theorem Atq {xs:List Int} {v:Int} {j:Nat} (h:j<xs.length) (hv:xs[j]=v):v∈xs:=by rw[←hv];exact List.getElem_mem h
def AwG (xs:List Int) (v:Int):Int:=if v∈xs then(xs.idxOf v:Nat)else -1
theorem ACj {xs:List Int} {v:Int} {j:Nat} (h:j<xs.length) (hp:v∉xs.take j) (hv:xs[j]=v):AwG xs v=j:=by
 unfold AwG
 rw[if_pos (Atq h hv)]
 congr 1
 have e:xs=xs.take j++v::xs.drop (j+1):=by
  conv=>lhs;rw[←List.take_append_drop j xs,List.drop_eq_getElem_cons h,hv]
 rw[e,List.idxOf_append,if_neg hp]
 simp
 omega
theorem AEW {xs:List Int} {v:Int}:(0≤AwG xs v)=(v∈xs):=by
 unfold AwG
 by_cases h:v∈xs<;>simp[h]
abbrev AqL (R:Rel):Prop:=∀(xs:List Int) (v:Int),xs.length≤maxLen→R [.sl 1 1 xs.length (ints xs),I v] [] (I (AwG xs v)) []
theorem AEJ (D:Dn):AqL (Body D Ij):=by
 intro xs v hl
 unfold maxLen at hl
 simp -implicitDefEqProofs
 refine Ad (fun k s=>∃j,j+k=xs.length∧v∉xs.take j∧s=⟨[.sl 1 1 xs.length (ints xs),.sc (.int .i64 v),.undef,.undef,.sc (.int .i64 xs.length),.sc (.int .i64 j),.undef,.undef],[]⟩) ?_ xs.length _ ⟨0,by simp,by simp,by simp⟩
 intro k s ⟨j,hj,hp,hs⟩
 subst hs
 by_cases hjn:j<xs.length
 ·have hw:IntKind.i64.wrap ((j:Int)+1)=(j+1:Nat):=by rw[Ab (by omega) (by omega)];simp
  by_cases he:v=xs[j]
  ·have hx:=ACj hjn hp he.symm
   simp -implicitDefEqProofs [hjn,←he,hx]
  ·simp -implicitDefEqProofs [hjn,he]
   exact⟨k-1,by omega,j+1,by omega,AdL hjn hp (fun h=>he h.symm),by simp[hw]⟩
 ·have hx:AwG xs v= -1:=by unfold AwG;rw[if_neg (AgQ (by omega) hp)]
  simp -implicitDefEqProofs [hjn,hx]
abbrev PX (R:Rel):Prop:=∀(xs:List Int) (v:Int),xs.length≤maxLen→R [.sl 1 1 xs.length (ints xs),I v] [] (B (decide (v∈xs))) []
theorem Awg (D:Dn) (hI:AqL (D 389)):PX (Body D Gj):=by
 intro xs v hl
 simp -implicitDefEqProofs
 refine Aa (hI xs v hl) ?_
 simp -implicitDefEqProofs [AEW]
theorem AE8 (D:Dn):PX (Body D X4):=by
 intro xs v hl
 unfold maxLen at hl
 simp -implicitDefEqProofs
 refine Ad (fun k s=>∃j,j+k=xs.length∧v∉xs.take j∧s=⟨[.sl 1 1 xs.length (ints xs),.sc (.int .i64 v),.undef,.sc (.int .i64 j),.undef,.undef],[]⟩) ?_ xs.length _ ⟨0,by simp,by simp,by simp⟩
 intro k s ⟨j,hj,hp,hs⟩
 subst hs
 by_cases hjn:j<xs.length
 ·have hw:IntKind.i64.wrap ((j:Int)+1)=(j+1:Nat):=by rw[Ab (by omega) (by omega)];simp
  by_cases he:xs[j]=v
  ·have hx:=Atq hjn he
   simp -implicitDefEqProofs [hjn,he,hx]
  ·simp -implicitDefEqProofs [hjn,he]
   exact⟨k-1,by omega,j+1,by omega,AdL hjn hp he,by simp[hw]⟩
 ·have hx:=AgQ (by omega) hp
  simp -implicitDefEqProofs [hjn,hx]
def NK (v:Int) (d:Eh):Bool:= !d.deal.ok||(decide (d.deal.version<v)&&decide (v∈d.up))
def goodD (v:Int) (d:Eh):Bool:= !NK v d&&decide (v≤d.deal.version)
def cntF {α:Type} (f:α→Bool) (xs:List α):Nat:=(xs.filter f).length
theorem AcN {α:Type} {f:α→Bool} {xs:List α} {j:Nat} (h:j<xs.length):cntF f (xs.take (j+1))=cntF f (xs.take j)+(if f xs[j]then 1 else 0):=by
 unfold cntF
 rw[List.take_add_one,List.getElem?_eq_getElem h,List.filter_append,List.length_append]
 congr 1
 by_cases hf:f xs[j]<;>simp[hf]
theorem AjX {α:Type} {f:α→Bool} {xs:List α} {j:Nat} (h:j≤xs.length):cntF f (xs.take j)≤j:=by
 unfold cntF
 have:=List.length_filter_le f (xs.take j)
 simp at this
 omega
theorem Ajj {α:Type} {f:α→Bool} {xs:List α} {j:Nat} (h:xs.length≤j):cntF f (xs.take j)=cntF f xs:=by rw[List.take_of_length_le h]
end Go.Eng.T
namespace Go.Eng.T
abbrev Vq (R:Rel):Prop:=∀(xs:List Eh) (v:Int),xs.length≤maxLen→(∀(j:Nat) (h:j<xs.length),xs[j].up.length≤maxLen)→
 R [.sl 1 5 xs.length (xs.flatMap A9),I v] [] (.tup [I (cntF (goodD v) xs),I (cntF (NK v) xs)]) []
theorem AuS (D:Dn) (hH:PX (D 166)):Vq (Body D RU):=by
 intro xs v hl hu
 unfold maxLen at hl
 simp -implicitDefEqProofs
 refine Ad (fun k s=>∃j o0,j+k=xs.length∧s=⟨[.sl 1 5 xs.length (xs.flatMap A9),.sc (.int .i64 v),.undef,.undef,.sc (.int .i64 (cntF (goodD v) (xs.take j))),.sc (.int .i64 (cntF (NK v) (xs.take j))),.sc (.int .i64 j),.undef,.undef,.undef,.undef],[o0]⟩) ?_ xs.length _ ⟨0,.free,by simp,by simp[cntF]⟩
 intro k s ⟨j,o0,hj,hs⟩
 subst hs
 by_cases hjn:j<xs.length
 ·have hw:IntKind.i64.wrap ((j:Int)+1)=(j+1:Nat):=by rw[Ab (by omega) (by omega)];simp
  have hc:=AcN (f:=goodD v) hjn
  have hb:=AcN (f:=NK v) hjn
  have hcl:=AjX (f:=goodD v) (xs:=xs) (j:=j) (by omega)
  have hbl:=AjX (f:=NK v) (xs:=xs) (j:=j) (by omega)
  have hw2:IntKind.i64.wrap ((cntF (goodD v) (xs.take j):Int)+1)=(cntF (goodD v) (xs.take j)+1:Nat):=by rw[Ab (by omega) (by omega)];simp
  have hw3:IntKind.i64.wrap ((cntF (NK v) (xs.take j):Int)+1)=(cntF (NK v) (xs.take j)+1:Nat):=by rw[Ab (by omega) (by omega)];simp
  have fin:∀(a b:Bool),goodD v xs[j]=a→NK v xs[j]=b→∀x y:Int,x=((cntF (goodD v) (xs.take j)+(if a then 1 else 0):Nat):Int)→y=((cntF (NK v) (xs.take j)+(if b then 1 else 0):Nat):Int)→
   x=cntF (goodD v) (xs.take (j+1))∧y=cntF (NK v) (xs.take (j+1)):=by
   intro a b ha hb' x y hx hy
   rw[hc,hb,ha,hb']
   exact⟨hx,hy⟩
  by_cases h1:xs[j].deal.ok=true
  ·by_cases h2:xs[j].deal.version<v
   ·simp -implicitDefEqProofs [hjn,h1,h2]
    refine Aa (hH xs[j].up v (hu j hjn)) ?_
    by_cases h3:v∈xs[j].up
    ·have g:=fin false true (by simp[goodD,NK,h1,h2,h3]) (by simp[NK,h1,h2,h3]) _ _ rfl rfl
     simp -implicitDefEqProofs [h3]
     exact⟨k-1,by omega,j+1,by omega,by simpa using g.1,by rw[hw3];simpa using g.2,by simp[hw]⟩
    ·have h4:¬v≤xs[j].deal.version:=by omega
     have g:=fin false false (by simp[goodD,NK,h1,h2,h3,h4]) (by simp[NK,h1,h2,h3]) _ _ rfl rfl
     simp -implicitDefEqProofs [h3,h4]
     exact⟨k-1,by omega,j+1,by omega,by simpa using g.1,by simpa using g.2,by simp[hw]⟩
   ·have h4:v≤xs[j].deal.version:=by omega
    have g:=fin true false (by simp[goodD,NK,h1,h2,h4]) (by simp[NK,h1,h2]) _ _ rfl rfl
    simp -implicitDefEqProofs [hjn,h1,h2,h4]
    exact⟨k-1,by omega,j+1,by omega,by rw[hw2];simpa using g.1,by simpa using g.2,by simp[hw]⟩
  ·have g:=fin false true (by simp[goodD,NK,h1]) (by simp[NK,h1]) _ _ rfl rfl
   simp -implicitDefEqProofs [hjn,h1]
   exact⟨k-1,by omega,j+1,by omega,by simpa using g.1,by rw[hw3];simpa using g.2,by simp[hw]⟩
 ·have hx:=Ajj (f:=goodD v) (xs:=xs) (j:=j) (by omega)
  have hy:=Ajj (f:=NK v) (xs:=xs) (j:=j) (by omega)
  simp -implicitDefEqProofs [hjn,hx,hy]
abbrev F4 (R:Rel):Prop:=∀(d:Eh) (v:Int),d.up.length≤maxLen→R [arg (A9 d),I v] [] (B (NK v d)) []
theorem Aq2 (D:Dn) (hM:Vq (D 155)):F4 (Body D QG):=by
 intro d v hu
 simp -implicitDefEqProofs
 refine Aa (hM [d] v (by unfold maxLen;simp) (fun j h=>by have e:j=0:=(by simpa using h);subst e;exact hu)) ?_
 by_cases h:NK v d<;>simp -implicitDefEqProofs [cntF,h]
theorem AEU (D:Dn) (hH:PX (D 188)):F4 (Body D YM):=by
 intro d v hu
 by_cases h1:d.deal.ok=true
 ·by_cases h2:d.deal.version<v
  ·simp -implicitDefEqProofs [h1,h2]
   refine Aa (hH d.up v hu) ?_
   simp -implicitDefEqProofs [NK,h1,h2]
  ·simp -implicitDefEqProofs [h1,h2,NK]
 ·simp -implicitDefEqProofs [h1,NK]
theorem AqN (D:Dn) (hB:F4 (D 229)):F4 (Body D QD):=by
 intro d v hu
 simp -implicitDefEqProofs
 refine Aa (hB d v hu) ?_
 simp -implicitDefEqProofs
end Go.Eng.T
namespace Go.Eng.T
theorem BN {y:Ty} {ys:List Ty} {cs:List V} (h:Aly (y::ys) cs):∃a b,Dat y a∧Aly ys b∧cs=a++b:=by simp only[Aly]at h;exact h
theorem Pq {cs:List V} (h:Aly [] cs):cs=[]:=by simp only[Aly]at h;exact h
theorem Y4 {ys:List Ty} {cs:List V} (h:Dat (.st ys) cs):Aly ys cs:=by simp only[Dat]at h;exact h
def rgI (n:Int):Prop:= -9223372036854775808≤n∧n≤9223372036854775807
theorem rg_of {n:Int} (h:(Lit.int .i64 n).wf=true):rgI n:=by
 simp only[Lit.wf,IntKind.min,IntKind.max,IntKind.bits,IntKind.signed,Bool.and_eq_true,decide_eq_true_eq]at h
 exact⟨h.1,h.2⟩
theorem Yx {cs:List V} (h:Dat (.int .i64) cs):∃n,cs=[.sc (.int .i64 n)]∧rgI n:=by
 simp only[Dat]at h
 obtain⟨n,h1,h2⟩:=h
 exact⟨n,h2,rg_of h1⟩
theorem Ar7 {cs:List V} (h:Dat .bool cs):∃b,cs=[.sc (.bool b)]:=by simp only[Dat]at h;exact h
theorem AlH {α:Type} {f:α→List V} {p:α→Prop}:∀ {xs:List (List V)},(∀x,x∈xs→∃d,x=f d∧p d)→∃ds:List α,xs=ds.map f∧∀d,d∈ds→p d
 | [],_=>⟨[],rfl,by simp⟩
 | x::xs,h=>by
  obtain⟨d,rfl,hd⟩:=h x (by simp)
  obtain⟨ds,rfl,hds⟩:=AlH (xs:=xs) fun y hy=>h y (by simp[hy])
  exact⟨d::ds,rfl,by intro y hy;rcases List.mem_cons.1 hy with rfl | hy;exact hd;exact hds y hy⟩
theorem AG8 {α:Type} {y:Ty} {f:α→List V} {p:α→Prop} (hf:∀cs,Dat y cs→∃d,cs=f d∧p d) {cs:List V} (h:Dat (.sl y) cs):
 ∃ds:List α,cs=[.sl 0 y.cells ds.length (ds.flatMap f)]∧ds.length≤maxLen∧∀d,d∈ds→p d:=by
 simp only[Dat]at h
 obtain⟨xs,h1,h2,rfl⟩:=h
 obtain⟨ds,rfl,h3⟩:=AlH (f:=f) (p:=p) (xs:=xs) fun x hx=>hf x (h2 x hx)
 exact⟨ds,by simp[List.flatMap_def],by simpa using h1,h3⟩
def QB (xs:List Int):Prop:=∀x,x∈xs→rgI x
def rgS {α:Type} (f:α→Prop) (xs:List α):Prop:=∀x,x∈xs→f x
theorem Ob {cs:List V} (h:Dat (.sl (.int .i64)) cs):∃xs:List Int,cs=[.sl 0 1 xs.length (ints xs)]∧Uo xs∧QB xs:=by
 obtain⟨ds,h1,h2,h3⟩:=AG8 (f:=fun n=> [V.sc (.int .i64 n)]) (p:=rgI) (fun cs h=>Yx h) h
 refine⟨ds,?_,h2,h3⟩
 have e:ds.flatMap (fun n=> [V.sc (.int .i64 n)])=ints ds:=by
  clear h1 h2 h3
  induction ds with
  | nil=>rfl
  | cons a ds ih=>rw[List.flatMap_cons,ih];rfl
 rw[h1,e]
 rfl
def Arq:Ty:= .st [.bool,.int .i64,.sl (.int .i64)]
def Aq9 (d:AAc):Prop:=rgI d.version∧QB d.tags
theorem Asf {cs:List V} (h:Dat Arq cs):∃x:AAc,cs=Asq x∧Ak6 x∧Aq9 x:=by
 have h0:=Y4 h
 obtain⟨a0,r0,g0,h1,e0⟩:=BN h0
 obtain⟨x0,rfl⟩:=Ar7 g0
 obtain⟨a1,r1,g1,h2,e1⟩:=BN h1
 obtain⟨x1,rfl,w1⟩:=Yx g1
 obtain⟨a2,r2,g2,h3,e2⟩:=BN h2
 obtain⟨x2,rfl,l2,w2⟩:=Ob g2
 have z:=Pq h3
 subst z;subst e2;subst e1;subst e0
 exact⟨⟨x0,x1,x2⟩,rfl,l2,⟨w1,w2⟩⟩
def Aq5:Ty:= .st [.int .i64,.sl (.int .i64),.sl (.int .i64),.bool]
def Ao2 (d:Gu):Prop:=rgI d.limit∧QB d.drops∧QB d.strips
theorem AsL {cs:List V} (h:Dat Aq5 cs):∃x:Gu,cs=Dy x∧JI x∧Ao2 x:=by
 have h0:=Y4 h
 obtain⟨a0,r0,g0,h1,e0⟩:=BN h0
 obtain⟨x0,rfl,w0⟩:=Yx g0
 obtain⟨a1,r1,g1,h2,e1⟩:=BN h1
 obtain⟨x1,rfl,l1,w1⟩:=Ob g1
 obtain⟨a2,r2,g2,h3,e2⟩:=BN h2
 obtain⟨x2,rfl,l2,w2⟩:=Ob g2
 obtain⟨a3,r3,g3,h4,e3⟩:=BN h3
 obtain⟨x3,rfl⟩:=Ar7 g3
 have z:=Pq h4
 subst z;subst e3;subst e2;subst e1;subst e0
 exact⟨⟨x0,x1,x2,x3⟩,rfl,⟨l1,l2⟩,⟨w0,w1,w2⟩⟩
theorem Ar5 {cs:List V} (h:Dat (.sl Aq5) cs):∃xs:List Gu,cs=[.sl 0 4 xs.length (xs.flatMap Dy)]∧lnS JI xs∧rgS Ao2 xs:=by
 obtain⟨ds,h1,h2,h3⟩:=AG8 (f:=Dy) (p:=fun x=>JI x∧Ao2 x) (fun cs h=>AsL h) h
 exact⟨ds,h1,⟨h2,fun j hj=>(h3 _ (List.getElem_mem hj)).1⟩,fun x hx=>(h3 x hx).2⟩
def Aak:Ty:= .st [Arq,.int .i64,.sl (.int .i64)]
def UO (d:Eh):Prop:=Aq9 d.deal∧rgI d.tries∧QB d.up
theorem Akc {cs:List V} (h:Dat Aak cs):∃x:Eh,cs=A9 x∧Ku x∧UO x:=by
 have h0:=Y4 h
 obtain⟨a0,r0,g0,h1,e0⟩:=BN h0
 obtain⟨x0,rfl,l0,w0⟩:=Asf g0
 obtain⟨a1,r1,g1,h2,e1⟩:=BN h1
 obtain⟨x1,rfl,w1⟩:=Yx g1
 obtain⟨a2,r2,g2,h3,e2⟩:=BN h2
 obtain⟨x2,rfl,l2,w2⟩:=Ob g2
 have z:=Pq h3
 subst z;subst e2;subst e1;subst e0
 exact⟨⟨x0,x1,x2⟩,rfl,⟨l0,l2⟩,⟨w0,w1,w2⟩⟩
theorem AnJ {cs:List V} (h:Dat (.sl Aak) cs):∃xs:List Eh,cs=[.sl 0 5 xs.length (xs.flatMap A9)]∧lnS Ku xs∧rgS UO xs:=by
 obtain⟨ds,h1,h2,h3⟩:=AG8 (f:=A9) (p:=fun x=>Ku x∧UO x) (fun cs h=>Akc h) h
 exact⟨ds,h1,⟨h2,fun j hj=>(h3 _ (List.getElem_mem hj)).1⟩,fun x hx=>(h3 x hx).2⟩
def Akd:Ty:= .st [.int .i64,.sl (.int .i64),.int .i64,.bool]
def Akj (d:BL):Prop:=rgI d.version∧QB d.stages∧rgI d.pos
theorem Aok {cs:List V} (h:Dat Akd cs):∃x:BL,cs=F7 x∧Va x∧Akj x:=by
 have h0:=Y4 h
 obtain⟨a0,r0,g0,h1,e0⟩:=BN h0
 obtain⟨x0,rfl,w0⟩:=Yx g0
 obtain⟨a1,r1,g1,h2,e1⟩:=BN h1
 obtain⟨x1,rfl,l1,w1⟩:=Ob g1
 obtain⟨a2,r2,g2,h3,e2⟩:=BN h2
 obtain⟨x2,rfl,w2⟩:=Yx g2
 obtain⟨a3,r3,g3,h4,e3⟩:=BN h3
 obtain⟨x3,rfl⟩:=Ar7 g3
 have z:=Pq h4
 subst z;subst e3;subst e2;subst e1;subst e0
 exact⟨⟨x0,x1,x2,x3⟩,rfl,l1,⟨w0,w1,w2⟩⟩
def XA:Ty:= .st [.sl (.int .i64),.sl (.int .i64),.sl Aq5,.int .i64]
def Tc (d:Aq):Prop:=QB d.versions∧QB d.tags∧rgS Ao2 d.path∧rgI d.cls
theorem AmH {cs:List V} (h:Dat XA cs):∃x:Aq,cs=Ak x∧AkQ x∧Tc x:=by
 have h0:=Y4 h
 obtain⟨a0,r0,g0,h1,e0⟩:=BN h0
 obtain⟨x0,rfl,l0,w0⟩:=Ob g0
 obtain⟨a1,r1,g1,h2,e1⟩:=BN h1
 obtain⟨x1,rfl,l1,w1⟩:=Ob g1
 obtain⟨a2,r2,g2,h3,e2⟩:=BN h2
 obtain⟨x2,rfl,l2,w2⟩:=Ar5 g2
 obtain⟨a3,r3,g3,h4,e3⟩:=BN h3
 obtain⟨x3,rfl,w3⟩:=Yx g3
 have z:=Pq h4
 subst z;subst e3;subst e2;subst e1;subst e0
 exact⟨⟨x0,x1,x2,x3⟩,rfl,⟨l0,l1,l2⟩,⟨w0,w1,w2,w3⟩⟩
theorem AkI {cs:List V} (h:Dat (.sl XA) cs):∃xs:List Aq,cs=[.sl 0 4 xs.length (xs.flatMap Ak)]∧lnS AkQ xs∧rgS Tc xs:=by
 obtain⟨ds,h1,h2,h3⟩:=AG8 (f:=Ak) (p:=fun x=>AkQ x∧Tc x) (fun cs h=>AmH h) h
 exact⟨ds,h1,⟨h2,fun j hj=>(h3 _ (List.getElem_mem hj)).1⟩,fun x hx=>(h3 x hx).2⟩
def AhU:Ty:= .st [.int .i64,.int .i64,.bool,Aak]
def Aaa (d:CO):Prop:=rgI d.fin∧rgI d.tick∧UO d.dialed
theorem Apx {cs:List V} (h:Dat AhU cs):∃x:CO,cs=Av x∧Pk x∧Aaa x:=by
 have h0:=Y4 h
 obtain⟨a0,r0,g0,h1,e0⟩:=BN h0
 obtain⟨x0,rfl,w0⟩:=Yx g0
 obtain⟨a1,r1,g1,h2,e1⟩:=BN h1
 obtain⟨x1,rfl,w1⟩:=Yx g1
 obtain⟨a2,r2,g2,h3,e2⟩:=BN h2
 obtain⟨x2,rfl⟩:=Ar7 g2
 obtain⟨a3,r3,g3,h4,e3⟩:=BN h3
 obtain⟨x3,rfl,l3,w3⟩:=Akc g3
 have z:=Pq h4
 subst z;subst e3;subst e2;subst e1;subst e0
 exact⟨⟨x0,x1,x2,x3⟩,rfl,l3,⟨w0,w1,w3⟩⟩
theorem AnP {cs:List V} (h:Dat (.sl AhU) cs):∃xs:List CO,cs=[.sl 0 8 xs.length (xs.flatMap Av)]∧lnS Pk xs∧rgS Aaa xs:=by
 obtain⟨ds,h1,h2,h3⟩:=AG8 (f:=Av) (p:=fun x=>Pk x∧Aaa x) (fun cs h=>Apx h) h
 exact⟨ds,h1,⟨h2,fun j hj=>(h3 _ (List.getElem_mem hj)).1⟩,fun x hx=>(h3 x hx).2⟩
def Afd:Ty:= .st [.sl (.int .i64),.sl (.int .i64),.int .i64,.sl XA,Akd,.int .i64,.int .i64,.sl Aak,.sl AhU,.int .i64,.int .i64,.int .i64]
def AlS (d:World):Prop:=QB d.server∧QB d.tags∧rgI d.key∧rgS Tc d.ends∧Akj d.rollout∧rgI d.least∧rgI d.percent∧rgS UO d.stage∧rgS Aaa d.log∧rgI d.now∧rgI d.hurt∧rgI d.reached
theorem Aq4 {cs:List V} (h:Dat Afd cs):∃x:World,cs=Bn x∧AaL x∧AlS x:=by
 have h0:=Y4 h
 obtain⟨a0,r0,g0,h1,e0⟩:=BN h0
 obtain⟨x0,rfl,l0,w0⟩:=Ob g0
 obtain⟨a1,r1,g1,h2,e1⟩:=BN h1
 obtain⟨x1,rfl,l1,w1⟩:=Ob g1
 obtain⟨a2,r2,g2,h3,e2⟩:=BN h2
 obtain⟨x2,rfl,w2⟩:=Yx g2
 obtain⟨a3,r3,g3,h4,e3⟩:=BN h3
 obtain⟨x3,rfl,l3,w3⟩:=AkI g3
 obtain⟨a4,r4,g4,h5,e4⟩:=BN h4
 obtain⟨x4,rfl,l4,w4⟩:=Aok g4
 obtain⟨a5,r5,g5,h6,e5⟩:=BN h5
 obtain⟨x5,rfl,w5⟩:=Yx g5
 obtain⟨a6,r6,g6,h7,e6⟩:=BN h6
 obtain⟨x6,rfl,w6⟩:=Yx g6
 obtain⟨a7,r7,g7,h8,e7⟩:=BN h7
 obtain⟨x7,rfl,l7,w7⟩:=AnJ g7
 obtain⟨a8,r8,g8,h9,e8⟩:=BN h8
 obtain⟨x8,rfl,l8,w8⟩:=AnP g8
 obtain⟨a9,r9,g9,h10,e9⟩:=BN h9
 obtain⟨x9,rfl,w9⟩:=Yx g9
 obtain⟨a10,r10,g10,h11,e10⟩:=BN h10
 obtain⟨x10,rfl,w10⟩:=Yx g10
 obtain⟨a11,r11,g11,h12,e11⟩:=BN h11
 obtain⟨x11,rfl,w11⟩:=Yx g11
 have z:=Pq h12
 subst z;subst e11;subst e10;subst e9;subst e8;subst e7;subst e6;subst e5;subst e4;subst e3;subst e2;subst e1;subst e0
 exact⟨⟨x0,x1,x2,x3,x4,x5,x6,x7,x8,x9,x10,x11⟩,rfl,⟨l0,l1,l3,l4,l7,l8⟩,⟨w0,w1,w2,w3,w4,w5,w6,w7,w8,w9,w10,w11⟩⟩
theorem ArB {v:V} (h:AFe Afd v):∃x:World,v=arg (Bn x)∧AaL x∧AlS x:=by
 obtain⟨cs,hd,rfl⟩:=h
 obtain⟨x,rfl,w⟩:=Aq4 hd
 exact⟨x,rfl,w⟩
end Go.Eng.T
namespace Go.Eng.T
theorem AsJ {n:Nat} {l:Int} (h:l<n):szl n l= -1:=by unfold szl;rw[if_pos h]
theorem H6 {n:Nat} {l:Int} (h:¬l<n):szl n l=l-n:=by unfold szl;rw[if_neg h]
theorem AlR {α:Type} {mc sz:α→Nat} (c:Nat) (h:∀x,mc x≤c*(1+sz x)) (xs:List α):F8 mc xs≤c*Cu sz xs:=by
 induction xs with
 | nil=>simp[F8]
 | cons x r ih=>
  have:=h x
  simp only[F8,Cu,List.map_cons,List.sum_cons,List.length_cons]at *
  rw[Nat.mul_add]at *
  rw[Nat.mul_add]at *
  rw[Nat.mul_add]
  omega
theorem ApD (xs:List Gu):F8 E9 xs≤2*Cu JS xs:=AlR 2 (fun x=>by unfold E9 JS;omega) xs
theorem Aic (x:Aq):Bv x≤2*(1+Ar x):=by have:=ApD x.path;unfold Bv Ar;omega
theorem Agq (xs:List Aq):F8 Bv xs≤2*Cu Ar xs:=AlR 2 Aic xs
theorem AkN (xs:List Eh):F8 Cg xs≤3*Cu DW xs:=AlR 3 (fun x=>by unfold Cg DW YJ;omega) xs
theorem Al8 (xs:List CO):F8 Cj xs≤6*Cu Ce xs:=AlR 6 (fun x=>by unfold Cj Ce DW YJ;omega) xs
theorem Ahz (x:World):G7 x≤6*Af x:=by
 have:=Agq x.ends
 have:=AkN x.stage
 have:=Al8 x.log
 unfold G7 Af BX;omega
theorem Zv {w:World} (h:Af w≤4194304):w.log.length≤4194304:=by have:=K6 (f:=Ce) (xs:=w.log);unfold Af at h;omega
theorem ER {w:World} (h:Af w≤4194304):w.ends.length≤4194304:=by have:=K6 (f:=Ar) (xs:=w.ends);unfold Af at h;omega
theorem AgA {w:World} (h:Af w≤4194304):w.stage.length≤4194304:=by have:=K6 (f:=DW) (xs:=w.stage);unfold Af at h;omega
theorem AdV (a b:Int):(a==b)=decide (a=b):=by by_cases h:a=b<;>simp[h]
end Go.Eng.T
namespace Go.Eng.T
set_option maxRecDepth 20000
abbrev Pv (a b c:Int):Prop:=b≤a∧a≤c
end Go.Eng.T
namespace Go.Eng.T
set_option maxRecDepth 20000
def GR {α:Type} (p:α→Bool):List α→Int→Int
 | [],_=> -1
 | x::r,i=>if p x then i else GR p r (i+1)
theorem OM {α:Type} {p:α→Bool} {xs:List α} {j:Nat} (h:j<xs.length):GR p (xs.drop j) j=if p xs[j]then(j:Int)else GR p (xs.drop (j+1)) ((j:Int)+1):=by
 rw[List.drop_eq_getElem_cons h];rfl
theorem Ta {α:Type} {p:α→Bool} {xs:List α} {j:Nat} (h:xs.length≤j):GR p (xs.drop j) j= -1:=by rw[List.drop_eq_nil_of_le h];rfl
theorem RH {α:Type} {p:α→Bool}:∀ {xs:List α} {i:Int},0≤i→(0≤GR p xs i)=(xs.any p=true)
 | [],i,_=>by simp[GR]
 | x::r,i,h=>by
  by_cases hp:p x=true
  ·simp[GR,hp,h]
  ·have:=RH (p:=p) (xs:=r) (i:=i+1) (by omega)
   simp[GR,hp]at *
   exact this
def KD (caps:List V):Prop:=(∀(H:Hp) (n:Nat),Ko H n (caps.map fun v=>(false,v))=some [])∧(∀(H Hr:Hp) (n:Nat),Jg H Hr n (caps.map fun v=>(false,v))=some caps)∧∀H:Hp,Awn H caps=some caps
theorem E5:KD []:=⟨fun _ _=>rfl,fun _ _ _=>rfl,fun _=>rfl⟩
theorem Ab4 {v:V} {r:List V} (hv:∀H,ro H v=some v) (hv2:∀H,ro2 H v=some v) (h:KD r):KD (v::r):=
 ⟨fun H n=>h.1 H n,fun H Hr n=>by simp only[List.map_cons,Jg,hv,h.2.1],fun H=>by simp only[Awn,hv2,h.2.2]⟩
theorem Agp {a:Int} {r:List V} (h:KD r):KD (.rptr 1 [.sc (.int .i64 a)] 0::r):=Ab4 (fun H=>by simp) (fun H=>by simp) h
abbrev Ww (D:Dn) (R:Rel):Prop:=∀(xs:List Int) (g:Nat) (caps:List V) (p:Int→Bool),xs.length≤maxLen→KD caps→(∀x:Int,D g (I x::caps) [] (B (p x)) [])→
 R [.sl 1 1 xs.length (ints xs),.fn g caps] [] (I (GR p xs 0)) []
theorem Ar9 (D:Dn):Ww D (Body D F5):=by
 intro xs g caps p hl hc hp
 unfold maxLen at hl
 simp -implicitDefEqProofs
 refine Ad (fun k s=>∃j,j+k=xs.length∧GR p xs 0=GR p (xs.drop j) j∧s=⟨[.sl 1 1 xs.length (ints xs),.fn g caps,.undef,.undef,.sc (.int .i64 xs.length),.sc (.int .i64 j),.undef,.undef],[]⟩) ?_ xs.length _ ⟨0,by simp,by simp,by simp⟩
 intro k s ⟨j,hj,hi,hs⟩
 subst hs
 by_cases hjn:j<xs.length
 ·have hw:IntKind.i64.wrap ((j:Int)+1)=(j+1:Nat):=by rw[Ab (by omega) (by omega)];simp
  rw[OM hjn]at hi
  simp -implicitDefEqProofs [hjn,hc.1,hc.2.1]
  refine Aa (hp xs[j]) ?_
  by_cases he:p xs[j]=true
  ·rw[if_pos he]at hi
   simp -implicitDefEqProofs [he,hi]
  ·rw[if_neg he]at hi
   simp -implicitDefEqProofs [he]
   exact⟨k-1,by omega,j+1,by omega,by simpa using hi,by simp[hw]⟩
 ·rw[Ta (by omega)]at hi
  simp -implicitDefEqProofs [hjn,hi]
abbrev Lb (D:Dn) (R:Rel):Prop:=∀(xs:List Int) (g:Nat) (caps:List V) (p:Int→Bool),xs.length≤maxLen→KD caps→(∀x:Int,D g (I x::caps) [] (B (p x)) [])→
 R [.sl 1 1 xs.length (ints xs),.fn g caps] [] (B (xs.any p)) []
theorem AjH (D:Dn) (hI:Ww D (D QT)):Lb D (Body D Fq):=by
 intro xs g caps p hl hc hp
 simp -implicitDefEqProofs [hc.2.2]
 refine Aa (hI xs g caps p hl hc hp) ?_
 have e:decide (0≤GR p xs 0)=xs.any p:=by rw[Bool.eq_iff_iff];simp only[decide_eq_true_eq];rw[RH (by omega)]
 simp -implicitDefEqProofs [e]
def allIn (xs:List Int) (lo hi:Int):Bool:=xs.all fun x=>decide (Pv x lo hi)
abbrev JN (R:Rel):Prop:=∀(xs:List Int) (lo hi:Int),xs.length≤maxLen→R [.sl 1 1 xs.length (ints xs),I lo,I hi] [] (B (allIn xs lo hi)) []
abbrev Rv (R:Rel):Prop:=∀(x lo hi:Int),R [I x,.rptr 1 [I lo] 0,.rptr 1 [I hi] 0] [] (B (!decide (Pv x lo hi))) []
theorem Aoy (D:Dn) (hI:Qo (D BB)):Rv (Body D LW):=by
 intro x lo hi
 simp -implicitDefEqProofs
 refine Aa (hI _ _ _) ?_
 simp -implicitDefEqProofs
theorem Arf (D:Dn) (h1:Rv (D Ab7)) (hC:Lb D (D Io)):JN (Body D OA):=by
 intro xs lo hi hl
 simp -implicitDefEqProofs
 refine Aa (hC xs 266 _ (fun x=> !decide (Pv x lo hi)) hl (Agp (Agp E5)) (fun x=>h1 x lo hi)) ?_
 have e:(xs.any fun x=> !decide (Pv x lo hi))= !allIn xs lo hi:=by unfold allIn;rw[List.all_eq_not_any_not];simp
 generalize(xs.any fun x=> !decide (Pv x lo hi))=b at e⊢
 subst e
 simp -implicitDefEqProofs
end Go.Eng.T
namespace Go.Eng.T
set_option maxRecDepth 20000
abbrev Po (a b c:Int):Prop:=b≤a∧a≤c
def Lr (xs:List Int) (j:Nat):Bool:=(List.range j).all fun i=>decide (Po (xs.getD i 0) 1 100)&&(decide (i=0)||decide (xs.getD (i-1) 0<xs.getD i 0))
theorem YE (xs:List Int) (j:Nat):Lr xs (j+1)=(Lr xs j&&(decide (Po (xs.getD j 0) 1 100)&&(decide (j=0)||decide (xs.getD (j-1) 0<xs.getD j 0)))):=by
 unfold Lr
 rw[List.range_succ,List.all_append]
 simp
theorem Ac9 {xs:List Int} {j:Nat} (h:j<xs.length) (hn:Lr xs (j+1)=false):Lr xs xs.length=false:=by
 have:∀n,Lr xs (j+1+n)=false:=by
  intro n
  induction n with
  | zero=>exact hn
  | succ n ih=>rw[show j+1+(n+1)=(j+1+n)+1 by omega,YE,ih];rfl
 have:=this (xs.length-(j+1))
 rwa [show j+1+(xs.length-(j+1))=xs.length by omega]at this
def A8 (r:BL):Bool:=
 Lr r.stages r.stages.length&&(decide (Po r.version 1 9)&&decide (Po r.stages.length 1 5)&&decide (r.stages.getD (r.stages.length-1) 0=100)&&decide (Po r.pos 0 (r.stages.length-1)))
abbrev EB (R:Rel):Prop:=∀r:BL,r.stages.length≤4194304→R [arg (F7 r)] [] (B (A8 r)) []
theorem getD_at {xs:List Int} {j:Nat} (h:j<xs.length):xs.getD j 0=xs[j]:=by simp[h]
theorem Ap5 (D:Dn) (hI:Qo (D BF)):EB (Body D Ql):=by
 intro r hl
 simp -implicitDefEqProofs
 refine Ad (fun k s=>∃j,j+k=r.stages.length∧Lr r.stages j=true∧s=⟨[.undef,.ptr 0 0,.undef,.sc (.int .i64 j),.undef,.undef],[.var ((F7 r).map (AL 1))]⟩) ?_ r.stages.length _ ⟨0,by simp,by simp[Lr],by simp⟩
 intro k s ⟨j,hj,hr,hs⟩
 subst hs
 by_cases hjn:j<r.stages.length
 ·have hw:IntKind.i64.wrap ((j:Int)+1)=(j+1:Nat):=by rw[Ab (by omega) (by omega)];simp
  have hst:=YE r.stages j
  rw[hr,Bool.true_and,getD_at hjn]at hst
  simp -implicitDefEqProofs [hjn]
  refine Aa (hI _ _ _) ?_
  by_cases h1:Po r.stages[j] 1 100
  rotate_left
  ·have e:A8 r=false:=by unfold A8;rw[Ac9 hjn (by rw[hst];simp[h1])];rfl
   simp -implicitDefEqProofs [h1,e]
  by_cases h0:j=0
  ·subst h0
   simp -implicitDefEqProofs [h1]
   exact⟨k-1,by omega,1,by omega,by rw[hst];simp[h1],by simpa using hw⟩
  ·have hp:((j-1:Nat):Int)=(j:Int)-1:=by omega
   have hw2:IntKind.i64.wrap ((j:Int)-1)=((j-1:Nat):Int):=by rw[Ab (by omega) (by omega)];omega
   have h2:(0:Int)<j:=by omega
   have h2':0<j:=by omega
   have h3:j-1<r.stages.length:=by omega
   rw[getD_at h3]at hst
   by_cases h4:r.stages[j-1]<r.stages[j]
   ·have h4':¬r.stages[j]≤r.stages[j-1]:=by omega
    simp -implicitDefEqProofs [h1,h2,h2',hw2,h3,hjn,h4']
    exact⟨k-1,by omega,j+1,by omega,by rw[hst];simp[h1,h0,h4],by simp[hw]⟩
   ·have e:A8 r=false:=by unfold A8;rw[Ac9 hjn (by rw[hst];simp[h1,h0,h4])];rfl
    have h4':r.stages[j]≤r.stages[j-1]:=by omega
    simp -implicitDefEqProofs [h1,h2,h2',hw2,h3,hjn,h4',e]
 ·obtain rfl:j=r.stages.length:=by omega
  simp -implicitDefEqProofs
  refine Aa (hI _ _ _) ?_
  by_cases h1:Po r.version 1 9
  rotate_left
  ·simp -implicitDefEqProofs [h1,A8]
  simp -implicitDefEqProofs [h1]
  refine Aa (hI _ _ _) ?_
  by_cases h2:Po r.stages.length 1 5
  rotate_left
  ·simp -implicitDefEqProofs [h2,A8]
  have hw2:IntKind.i64.wrap ((r.stages.length:Int)-1)=((r.stages.length-1:Nat):Int):=by rw[Ab (by omega) (by omega)];omega
  have h3:r.stages.length-1<r.stages.length:=by omega
  have h5:0<r.stages.length:=by omega
  by_cases h4:r.stages[r.stages.length-1]=100
  rotate_left
  ·simp -implicitDefEqProofs [h2,hw2,h3,h4,h5,A8]
  simp -implicitDefEqProofs [h2,hw2,h3,h4,h5]
  refine Aa (hI _ _ _) ?_
  have hc:((r.stages.length-1:Nat):Int)=(r.stages.length:Int)-1:=by omega
  have e:A8 r=decide (Po r.pos 0 ((r.stages.length-1:Nat):Int)):=by unfold A8;rw[hr,getD_at h3,h4,hc];simp[h1,h2]
  simp -implicitDefEqProofs [e]
theorem AqF (D:Dn) (hI:Qo (D BB)):EB (Body D Qq):=by
 intro r hl
 simp -implicitDefEqProofs
 refine Ad (fun k s=>∃j v3 v4,j+k=r.stages.length∧Lr r.stages j=true∧s=⟨[.undef,.ptr 0 0,.undef,v3,v4,.sl 1 1 r.stages.length (ints r.stages),.sc (.int .i64 r.stages.length),.sc (.int .i64 j),.undef,.undef],[.var ((F7 r).map (AL 1))]⟩) ?_ r.stages.length _ ⟨0,.undef,.undef,by simp,by simp[Lr],by simp⟩
 intro k s ⟨j,v3,v4,hj,hr,hs⟩
 subst hs
 by_cases hjn:j<r.stages.length
 ·have hw:IntKind.i64.wrap ((j:Int)+1)=(j+1:Nat):=by rw[Ab (by omega) (by omega)];simp
  have hst:=YE r.stages j
  rw[hr,Bool.true_and,getD_at hjn]at hst
  simp -implicitDefEqProofs [hjn]
  refine Aa (hI _ _ _) ?_
  by_cases h1:Po r.stages[j] 1 100
  rotate_left
  ·have e:A8 r=false:=by unfold A8;rw[Ac9 hjn (by rw[hst];simp[h1])];rfl
   simp -implicitDefEqProofs [h1,e]
  by_cases h0:j=0
  ·subst h0
   simp -implicitDefEqProofs [h1]
   exact⟨k-1,by omega,1,by omega,by rw[hst];simp[h1],by simpa using hw⟩
  ·have hp:((j-1:Nat):Int)=(j:Int)-1:=by omega
   have hw2:IntKind.i64.wrap ((j:Int)-1)=((j-1:Nat):Int):=by rw[Ab (by omega) (by omega)];omega
   have h2:(0:Int)<j:=by omega
   have h2':0<j:=by omega
   have h3:j-1<r.stages.length:=by omega
   rw[getD_at h3]at hst
   by_cases h4:r.stages[j-1]<r.stages[j]
   ·have h4':¬r.stages[j]≤r.stages[j-1]:=by omega
    simp -implicitDefEqProofs [h1,h2,h2',hw2,h3,hjn,h4']
    exact⟨k-1,by omega,j+1,by omega,by rw[hst];simp[h1,h0,h4],by simp[hw]⟩
   ·have e:A8 r=false:=by unfold A8;rw[Ac9 hjn (by rw[hst];simp[h1,h0,h4])];rfl
    have h4':r.stages[j]≤r.stages[j-1]:=by omega
    simp -implicitDefEqProofs [h1,h2,h2',hw2,h3,hjn,h4',e]
 ·obtain rfl:j=r.stages.length:=by omega
  simp -implicitDefEqProofs
  refine Aa (hI _ _ _) ?_
  by_cases h1:Po r.version 1 9
  rotate_left
  ·simp -implicitDefEqProofs [h1,A8]
  simp -implicitDefEqProofs [h1]
  refine Aa (hI _ _ _) ?_
  by_cases h2:Po r.stages.length 1 5
  rotate_left
  ·simp -implicitDefEqProofs [h2,A8]
  have hw2:IntKind.i64.wrap ((r.stages.length:Int)-1)=((r.stages.length-1:Nat):Int):=by rw[Ab (by omega) (by omega)];omega
  have h3:r.stages.length-1<r.stages.length:=by omega
  have h5:0<r.stages.length:=by omega
  by_cases h4:r.stages[r.stages.length-1]=100
  rotate_left
  ·simp -implicitDefEqProofs [h2,hw2,h3,h4,h5,A8]
  simp -implicitDefEqProofs [h2,hw2,h3,h4,h5]
  refine Aa (hI _ _ _) ?_
  have hc:((r.stages.length-1:Nat):Int)=(r.stages.length:Int)-1:=by omega
  have e:A8 r=decide (Po r.pos 0 ((r.stages.length-1:Nat):Int)):=by unfold A8;rw[hr,getD_at h3,h4,hc];simp[h1,h2]
  simp -implicitDefEqProofs [e]
def Lh (a b:Int):Int:=if Po a 0 1000000000000∧Po b 1 1000000000000 then(a+b-1).tdiv b else 0
abbrev PS (R:Rel):Prop:=∀a b:Int,R [I a,I b] [] (I (Lh a b)) []
theorem AuV {a b:Int} (h1:0≤a) (h2:a≤4000000000000) (h3:1≤b):IntKind.i64.wrap (a.tdiv b)=a.tdiv b:=by
 have a1:0≤a.tdiv b:=Int.tdiv_nonneg h1 (by omega)
 have a2:a.tdiv b≤a:=Int.tdiv_le_self _ h1
 exact Ab (by omega) (by omega)
theorem Awo (D:Dn) (hI:Qo (D BF)):PS (Body D Ur):=by
 intro a b
 simp -implicitDefEqProofs
 refine Aa (hI _ _ _) ?_
 by_cases h1:Po a 0 1000000000000
 rotate_left
 ·simp -implicitDefEqProofs [h1,Lh]
 simp -implicitDefEqProofs [h1]
 refine Aa (hI _ _ _) ?_
 by_cases h2:Po b 1 1000000000000
 rotate_left
 ·simp -implicitDefEqProofs [h2,Lh]
 have w1:IntKind.i64.wrap (a+b)=a+b:=Ab (by omega) (by omega)
 have w2:IntKind.i64.wrap (a+b-1)=a+b-1:=Ab (by omega) (by omega)
 have w3:=AuV (a:=a+b-1) (b:=b) (by omega) (by omega) (by omega)
 have h0:¬b=0:=by omega
 have e:Lh a b=(a+b-1).tdiv b:=by unfold Lh;rw[if_pos ⟨h1,h2⟩]
 simp -implicitDefEqProofs [h2,w1,w2,w3,h0,e]
theorem Axi (D:Dn) (hI:Qo (D BB)):PS (Body D U6):=by
 intro a b
 simp -implicitDefEqProofs
 refine Aa (hI _ _ _) ?_
 by_cases h1:Po a 0 1000000000000
 rotate_left
 ·simp -implicitDefEqProofs [h1,Lh]
 simp -implicitDefEqProofs [h1]
 refine Aa (hI _ _ _) ?_
 by_cases h2:Po b 1 1000000000000
 rotate_left
 ·simp -implicitDefEqProofs [h2,Lh]
 have w1:IntKind.i64.wrap (a+b)=a+b:=Ab (by omega) (by omega)
 have w2:IntKind.i64.wrap (a+b-1)=a+b-1:=Ab (by omega) (by omega)
 have w3:=AuV (a:=a+b-1) (b:=b) (by omega) (by omega) (by omega)
 have h0:¬b=0:=by omega
 have e:Lh a b=(a+b-1).tdiv b:=by unfold Lh;rw[if_pos ⟨h1,h2⟩]
 simp -implicitDefEqProofs [h2,w1,w2,w3,h0,e]
end Go.Eng.T
namespace Go.Eng.T
set_option maxRecDepth 20000
theorem ADM {xs:List Int} {n:Nat} (h:Lr xs n=true) {i:Nat} (hi:i<n):Po (xs.getD i 0) 1 100:=by
 unfold Lr at h
 have:=List.all_eq_true.1 h i (List.mem_range.2 hi)
 simp at this
 exact⟨this.1.1,this.1.2⟩
theorem Acj {r:BL} (h:A8 r=true):0≤r.pos∧r.pos<r.stages.length∧r.stages.length≤5∧Po (r.stages.getD r.pos.toNat 0) 1 100:=by
 unfold A8 at h
 simp only[Bool.and_eq_true,decide_eq_true_eq]at h
 obtain⟨h1,⟨⟨h2,h3⟩,h4⟩,h5⟩:=h
 refine⟨h5.1,by omega,by omega,ADM h1 (by omega)⟩
def countIn (r:BL) (n:Int):Int:=if A8 r=true∧r.off=false∧Po n 0 10000 then Lh (n*r.stages.getD r.pos.toNat 0) 100 else 0
abbrev Qh (R:Rel):Prop:=∀(r:BL) (n:Int),r.stages.length≤4194304→R [arg (F7 r),I n] [] (I (countIn r n)) []
theorem Ayl {n x:Int} (h1:Po n 0 10000) (h2:Po x 1 100):IntKind.i64.wrap (n*x)=n*x:=by
 have a1:0≤n*x:=Int.mul_nonneg h1.1 (by omega)
 have a2:n*x≤10000*100:=Int.mul_le_mul h1.2 h2.2 (by omega) (by omega)
 exact Ab (by omega) (by omega)
theorem AvR (D:Dn) (hR:EB (D Hu)) (hI:Qo (D BF)) (hC:PS (D Aox)):Qh (Body D Uy):=by
 intro r n hl
 simp -implicitDefEqProofs
 refine Aa (hR r hl) ?_
 by_cases h1:A8 r=true
 rotate_left
 ·simp -implicitDefEqProofs [h1,countIn]
 by_cases h2:r.off=true
 ·simp -implicitDefEqProofs [h1,h2,countIn]
 simp -implicitDefEqProofs [h1,h2]
 refine Aa (hI _ _ _) ?_
 by_cases h3:Po n 0 10000
 rotate_left
 ·simp -implicitDefEqProofs [h3,countIn]
 obtain⟨p1,p2,p3,p4⟩:=Acj h1
 obtain⟨q,hq⟩:∃q:Nat,r.pos=q:=⟨r.pos.toNat,by omega⟩
 have hq2:q<r.stages.length:=by omega
 have e:countIn r n=Lh (n*r.stages[q]) 100:=by unfold countIn;rw[if_pos ⟨h1,by simpa using h2,h3⟩,hq];simp[hq2]
 have p4':Po r.stages[q] 1 100:=by rw[hq]at p4;simpa[hq2]using p4
 have hw:=Ayl h3 p4'
 simp -implicitDefEqProofs [h3,hq,hq2,hw]
 refine Aa (hC _ _) ?_
 simp -implicitDefEqProofs [e]
theorem Axf (D:Dn) (hR:EB (D QX)) (hI:Qo (D BB)) (hC:PS (D AnK)):Qh (Body D U7):=by
 intro r n hl
 simp -implicitDefEqProofs
 refine Aa (hR r hl) ?_
 by_cases h1:A8 r=true
 rotate_left
 ·simp -implicitDefEqProofs [h1,countIn]
 by_cases h2:r.off=true
 ·simp -implicitDefEqProofs [h1,h2,countIn]
 simp -implicitDefEqProofs [h1,h2]
 refine Aa (hI _ _ _) ?_
 by_cases h3:Po n 0 10000
 rotate_left
 ·simp -implicitDefEqProofs [h3,countIn]
 obtain⟨p1,p2,p3,p4⟩:=Acj h1
 obtain⟨q,hq⟩:∃q:Nat,r.pos=q:=⟨r.pos.toNat,by omega⟩
 have hq2:q<r.stages.length:=by omega
 have e:countIn r n=Lh (n*r.stages[q]) 100:=by unfold countIn;rw[if_pos ⟨h1,by simpa using h2,h3⟩,hq];simp[hq2]
 have p4':Po r.stages[q] 1 100:=by rw[hq]at p4;simpa[hq2]using p4
 have hw:=Ayl h3 p4'
 simp -implicitDefEqProofs [h3,hq,hq2,hw]
 refine Aa (hC _ _) ?_
 simp -implicitDefEqProofs [e]
def isIn (r:BL) (i n:Int):Bool:=decide (0≤i)&&decide (i<n)&&decide (i<countIn r n)
abbrev Aui (R:Rel):Prop:=∀(r:BL) (i n:Int),r.stages.length≤4194304→R [arg (F7 r),I i,I n] [] (B (isIn r i n)) []
theorem AFs (D:Dn) (hC:Qh (D AmV)):Aui (Body D AbK):=by
 intro r i n hl
 by_cases h1:0≤i
 ·by_cases h2:i<n
  ·simp -implicitDefEqProofs [h1,h2]
   refine Aa (hC r n hl) ?_
   simp -implicitDefEqProofs [isIn,h1,h2]
  ·simp -implicitDefEqProofs [h1,h2,isIn]
 ·simp -implicitDefEqProofs [h1,isIn]
theorem ArR (D:Dn) (hC:Qh (D Aor)):Aui (Body D Xy):=by
 intro r i n hl
 by_cases h1:0≤i
 ·by_cases h2:i<n
  ·simp -implicitDefEqProofs [h1,h2]
   refine Aa (hC r n hl) ?_
   simp -implicitDefEqProofs [isIn,h1,h2]
  ·simp -implicitDefEqProofs [h1,h2,isIn]
 ·simp -implicitDefEqProofs [h1,isIn]
abbrev Ajs (R:Rel):Prop:=∀(w:World) (i:Int),w.ends.length≤4194304→R [arg (Bn w),I i] [] (B (decide (Po i 0 ((w.ends.length:Int)-1)))) []
theorem ACq (D:Dn) (hI:Qo (D BB)):Ajs (Body D V8):=by
 intro w i hl
 have hw:IntKind.i64.wrap ((w.ends.length:Int)-1)=(w.ends.length:Int)-1:=Ab (by omega) (by omega)
 simp -implicitDefEqProofs [hw]
 refine Aa (hI _ _ _) ?_
 simp -implicitDefEqProofs
def WI (w:World) (i:Int):Bool:=decide (Po i 0 ((w.ends.length:Int)-1))&&isIn w.rollout i w.ends.length&&(match w.ends[i.toNat]? with | some e=>decide (w.rollout.version∈e.versions) | none=>false)
theorem Atc {w:World} (h:Af w≤4194304) {j:Nat} (hj:j<w.ends.length):w.ends[j].versions.length≤maxLen:=by
 have:=size_at (f:=Ar) hj
 have e:Ar w.ends[j]=w.ends[j].versions.length+w.ends[j].tags.length+Cu JS w.ends[j].path:=rfl
 unfold Af at h
 unfold maxLen;omega
theorem Og {w:World} (h:Af w≤4194304):w.rollout.stages.length≤4194304:=by unfold Af BX at h;omega
abbrev Aeq (R:Rel):Prop:=∀(w:World) (i:Int),Af w≤4194304→R [arg (Bn w),I i] [] (B (WI w i)) []
theorem AvJ (D:Dn) (hI:Qo (D BF)) (hN:Aui (D Al1)) (hH:PX (D GA)):Aeq (Body D UB):=by
 intro w i hsz
 have hl:=ER hsz
 have hw:IntKind.i64.wrap ((w.ends.length:Int)-1)=(w.ends.length:Int)-1:=Ab (by omega) (by omega)
 simp -implicitDefEqProofs [hw]
 refine Aa (hI _ _ _) ?_
 by_cases h1:Po i 0 ((w.ends.length:Int)-1)
 rotate_left
 ·simp -implicitDefEqProofs [h1,WI]
 simp -implicitDefEqProofs [h1]
 refine Aa (hN w.rollout _ _ (Og hsz)) ?_
 by_cases h2:isIn w.rollout i w.ends.length=true
 rotate_left
 ·simp -implicitDefEqProofs [h2,WI]
 obtain⟨j,rfl⟩:∃j:Nat,i=j:=⟨i.toNat,by omega⟩
 have hj:j<w.ends.length:=by omega
 simp -implicitDefEqProofs [h2,hj]
 refine Aa (hH _ _ (Atc hsz hj)) ?_
 simp -implicitDefEqProofs [WI,h1,h2,hj]
theorem AoD (D:Dn) (hE:Ajs (D ApS)) (hN:Aui (D AHJ)) (hH:PX (D Bq)):Aeq (Body D Qp):=by
 intro w i hsz
 have hl:=ER hsz
 simp -implicitDefEqProofs
 refine Aa (hE w i hl) ?_
 by_cases h1:Po i 0 ((w.ends.length:Int)-1)
 rotate_left
 ·simp -implicitDefEqProofs [h1,WI]
 simp -implicitDefEqProofs [h1]
 refine Aa (hN w.rollout _ _ (Og hsz)) ?_
 by_cases h2:isIn w.rollout i w.ends.length=true
 rotate_left
 ·simp -implicitDefEqProofs [h2,WI]
 obtain⟨j,rfl⟩:∃j:Nat,i=j:=⟨i.toNat,by omega⟩
 have hj:j<w.ends.length:=by omega
 simp -implicitDefEqProofs [h2,hj]
 refine Aa (hH _ _ (Atc hsz hj)) ?_
 simp -implicitDefEqProofs [WI,h1,h2,hj]
end Go.Eng.T
namespace Go.Eng.T
set_option maxRecDepth 20000
abbrev NZ (R:Rel):Prop:=∀r:BL,BX r≤4194304→R [arg (F7 r)] [] (.agg (F7 r)) []
theorem AAe (D:Dn):NZ (Body D Uq):=by
 intro r h
 have hb:r.stages.length*8≤1099511627776:=by unfold BX at h;omega
 simp -implicitDefEqProofs [hb]
theorem AiQ (D:Dn):NZ (Body D IX):=by
 intro r h
 have hb:r.stages.length*8≤1099511627776:=by unfold BX at h;omega
 simp -implicitDefEqProofs [hb]
abbrev VN (R:Rel):Prop:=∀d:Eh,DW d≤4194304→R [arg (A9 d)] [] (.agg (A9 d)) []
theorem Auz (D:Dn):VN (Body D QY):=by
 intro d h
 unfold DW YJ at h
 have h1:d.deal.tags.length*8≤1099511627776:=by omega
 have h2:d.up.length*8≤1099511627776:=by omega
 simp -implicitDefEqProofs [h1,h2]
theorem AkX (D:Dn):VN (Body D JZ):=by
 intro d h
 unfold DW YJ at h
 have h1:d.deal.tags.length*8≤1099511627776:=by omega
 have h2:d.up.length*8≤1099511627776:=by omega
 simp -implicitDefEqProofs [h1,h2]
theorem Zd {α:Type} {f:α→List V} {xs:List α} {j:Nat} (h:j<xs.length):(xs.take j).flatMap f++f xs[j]=(xs.take (j+1)).flatMap f:=by
 have e:xs.take (j+1)=xs.take j++ [xs[j]]:=by simp
 rw[e,List.flatMap_append];simp
abbrev Afp (R:Rel):Prop:=∀xs:List Gu,Cu JS xs≤4194304→R [.sl 1 4 xs.length (xs.flatMap Dy)] [] (.sl 0 4 xs.length (xs.flatMap Dy)) []
theorem Aoh (D:Dn):Afp (Body D OH):=by
 intro xs h
 have hlen:=K6 (f:=JS) (xs:=xs)
 simp -implicitDefEqProofs
 refine Ad (fun k s=>∃j o1 o2 o3 o4 o5 o6 o7,j+k=xs.length∧s=⟨[.undef,.undef,.arr 8,.undef,.sl 1 4 xs.length (xs.flatMap Dy),.sc (.int .i64 xs.length),.sc (.int .i64 j),.undef],[.free,o1,o2,o3,o4,o5,o6,o7,.arr 4 0 j ((xs.take j).flatMap Dy)]⟩) ?_ xs.length _ ⟨0,.free,.free,.free,.free,.free,.free,.free,by simp,by simp⟩
 intro k s ⟨j,o1,o2,o3,o4,o5,o6,o7,hj,hs⟩
 subst hs
 by_cases hjn:j<xs.length
 ·have hw:IntKind.i64.wrap ((j:Int)+1)=(j+1:Nat):=by rw[Ab (by omega) (by omega)];simp
  have hsz:=size_at (f:=JS) hjn
  have e:JS xs[j]=xs[j].drops.length+xs[j].strips.length:=rfl
  have h1:xs[j].drops.length*8≤1099511627776:=by omega
  have h2:xs[j].strips.length*8≤1099511627776:=by omega
  have h3:(j+1)*64≤1099511627776:=by omega
  have hst:=Zd (f:=Dy) hjn
  simp -implicitDefEqProofs [hjn,h1,h2,h3]
  exact⟨k-1,by omega,j+1,by omega,by simp[hw],rfl,by rw[←hst];rfl⟩
 ·obtain rfl:j=xs.length:=by omega
  simp -implicitDefEqProofs
abbrev TK (R:Rel):Prop:=∀x:Aq,Ar x≤4194304→R [arg (Ak x)] [] (.agg (Ak x)) []
theorem Ag2 (D:Dn) (hP:Afp (D ABY)):TK (Body D Ic):=by
 intro x h
 unfold Ar at h
 have h1:x.versions.length*8≤1099511627776:=by omega
 have h2:x.tags.length*8≤1099511627776:=by omega
 simp -implicitDefEqProofs [h1,h2]
 refine Aa (hP x.path (by omega)) ?_
 simp -implicitDefEqProofs
theorem ADw (D:Dn):TK (Body D WZ):=by
 intro x h
 unfold Ar at h
 have h1:x.versions.length*8≤1099511627776:=by omega
 have h2:x.tags.length*8≤1099511627776:=by omega
 have hlen:=K6 (f:=JS) (xs:=x.path)
 simp -implicitDefEqProofs [h1,h2]
 refine Ad (fun k s=>∃j o7 o8 o9 o10 o11 o12 o13,j+k=x.path.length∧s=⟨[.undef,.ptr 0 0,.ptr 1 0,.ptr 6 0,.sc (.int .i64 j),.undef,.undef],[.var ((Ak x).map (AL 1)),.var [.nil 1,.nil 1,.nil 4,.sc (.int .i64 0)],.dead,.arr 1 0 x.versions.length (ints x.versions),.dead,.arr 1 0 x.tags.length (ints x.tags),.var [.arr 3,.arr 5,.arr 14,.sc (.int .i64 x.cls)],o7,o8,o9,o10,o11,o12,o13,.arr 4 0 j ((x.path.take j).flatMap Dy)]⟩) ?_ x.path.length _ ⟨0,.free,.free,.free,.free,.free,.free,.free,by simp,by simp⟩
 intro k s ⟨j,o7,o8,o9,o10,o11,o12,o13,hj,hs⟩
 subst hs
 by_cases hjn:j<x.path.length
 ·have hw:IntKind.i64.wrap ((j:Int)+1)=(j+1:Nat):=by rw[Ab (by omega) (by omega)];simp
  have hsz:=size_at (f:=JS) hjn
  have e:JS x.path[j]=x.path[j].drops.length+x.path[j].strips.length:=rfl
  have h1:x.path[j].drops.length*8≤1099511627776:=by omega
  have h2:x.path[j].strips.length*8≤1099511627776:=by omega
  have h3:(j+1)*64≤1099511627776:=by omega
  have hst:=Zd (f:=Dy) hjn
  simp -implicitDefEqProofs [hjn,h1,h2,h3]
  exact⟨k-1,by omega,j+1,by omega,by simp[hw],rfl,by rw[←hst];rfl⟩
 ·obtain rfl:j=x.path.length:=by omega
  simp -implicitDefEqProofs
end Go.Eng.T
namespace Go.Eng.T
set_option maxRecDepth 20000
theorem AgP {w:World} (h:Af w≤4194304):BX w.rollout≤4194304:=by unfold Af at h;omega
theorem Ms {w:World} (h:Af w≤4194304):w.server.length≤4194304∧w.tags.length≤4194304∧Cu Ar w.ends≤4194304∧Cu DW w.stage≤4194304∧Cu Ce w.log≤4194304:=by unfold Af at h;omega
abbrev Ga (R:Rel):Prop:=∀w:World,Af w≤4194304→R [arg (Bn w)] [] (.agg (Bn w)) []
theorem AzU (D:Dn) (hE:TK (D Arc)) (hR:NZ (D UI)) (hD:VN (D Xp)):Ga (Body D Un):=by
 intro w h
 have hl:=Zv h
 have he:=ER h
 have hs:=AgA h
 have hr:=AgP h
 have z:=Ms h
 have b1:w.server.length*8≤1099511627776:=by omega
 have b2:w.tags.length*8≤1099511627776:=by omega
 simp -implicitDefEqProofs [b1,b2]
 refine Ad (fun k s=>∃j o8 o9 o10 o11 o12,j+k=w.ends.length∧s=⟨[.undef,.ptr 0 0,.ptr 1 0,.ptr 2 0,.sc (.int .i64 j),.undef,.undef,.undef,.undef,.undef],[.var ((Bn w).map (AL 1)),.var [.nil 1,.nil 1,.sc (.int .i64 0),.nil 4,.sc (.int .i64 0),.nil 1,.sc (.int .i64 0),.sc (.bool false),.sc (.int .i64 0),.sc (.int .i64 0),.nil 5,.nil 8,.sc (.int .i64 0),.sc (.int .i64 0),.sc (.int .i64 0)],.var [.arr 4,.arr 6,.sc (.int .i64 w.key),.arr 24,.sc (.int .i64 w.rollout.version),.sl 1 1 w.rollout.stages.length (ints w.rollout.stages),.sc (.int .i64 w.rollout.pos),.sc (.bool w.rollout.off),.sc (.int .i64 w.least),.sc (.int .i64 w.percent),.sl 1 5 w.stage.length (w.stage.flatMap A9),.sl 1 8 w.log.length (w.log.flatMap Av),.sc (.int .i64 w.now),.sc (.int .i64 w.hurt),.sc (.int .i64 w.reached)],.dead,.arr 1 0 w.server.length (ints w.server),.dead,.arr 1 0 w.tags.length (ints w.tags),.free,o8,o9,o10,o11,o12,.free,.free,.free,.free,.free,.free,.free,.free,.free,.free,.free,.arr 4 0 j ((w.ends.take j).flatMap Ak),.free,.free]⟩) ?_ w.ends.length _ ⟨0,by simp⟩
 intro k s ⟨j,o8,o9,o10,o11,o12,hj,hs'⟩
 subst hs'
 by_cases hjn:j<w.ends.length
 ·have hw:IntKind.i64.wrap ((j:Int)+1)=(j+1:Nat):=by rw[Ab (by omega) (by omega)];simp
  have hsz:=size_at (f:=Ar) hjn
  have h3:(j+1)*80≤1099511627776:=by omega
  have hst:=Zd (f:=Ak) hjn
  simp -implicitDefEqProofs [hjn]
  refine Aa (hE w.ends[j] (by first | omega | (simp only[Ce]at hsz;omega))) ?_
  simp -implicitDefEqProofs [hjn,h3]
  exact⟨k-1,by omega,j+1,by omega,by simp[hw],rfl,by rw[←hst];rfl⟩
 obtain rfl:j=w.ends.length:=by omega
 simp -implicitDefEqProofs
 refine Aa (hR w.rollout hr) ?_
 simp -implicitDefEqProofs
 refine Ad (fun k s=>∃j o8 o9 o10 o11 o12 o15 o16 o17 o18,j+k=w.stage.length∧s=⟨[.undef,.ptr 0 0,.ptr 1 0,.ptr 2 0,.undef,.sc (.int .i64 j),.undef,.undef,.undef,.undef],[.var ((Bn w).map (AL 1)),.var [.nil 1,.nil 1,.sc (.int .i64 0),.nil 4,.sc (.int .i64 0),.nil 1,.sc (.int .i64 0),.sc (.bool false),.sc (.int .i64 0),.sc (.int .i64 0),.nil 5,.nil 8,.sc (.int .i64 0),.sc (.int .i64 0),.sc (.int .i64 0)],.var [.arr 4,.arr 6,.sc (.int .i64 w.key),.arr 24,.sc (.int .i64 w.rollout.version),.arr 13,.sc (.int .i64 w.rollout.pos),.sc (.bool w.rollout.off),.sc (.int .i64 w.least),.sc (.int .i64 w.percent),.arr 25,.sl 1 8 w.log.length (w.log.flatMap Av),.sc (.int .i64 w.now),.sc (.int .i64 w.hurt),.sc (.int .i64 w.reached)],.dead,.arr 1 0 w.server.length (ints w.server),.dead,.arr 1 0 w.tags.length (ints w.tags),.free,o8,o9,o10,o11,o12,.arr 1 0 w.rollout.stages.length (ints w.rollout.stages),.free,o15,o16,o17,o18,.free,.free,.free,.free,.free,.arr 4 0 w.ends.length (w.ends.flatMap Ak),.arr 5 0 j ((w.stage.take j).flatMap A9),.free]⟩) ?_ w.stage.length _ ⟨0,by simp⟩
 intro k s ⟨j,o8,o9,o10,o11,o12,o15,o16,o17,o18,hj,hs'⟩
 subst hs'
 by_cases hjn:j<w.stage.length
 ·have hw:IntKind.i64.wrap ((j:Int)+1)=(j+1:Nat):=by rw[Ab (by omega) (by omega)];simp
  have hsz:=size_at (f:=DW) hjn
  have h3:(j+1)*72≤1099511627776:=by omega
  have hst:=Zd (f:=A9) hjn
  simp -implicitDefEqProofs [hjn]
  refine Aa (hD w.stage[j] (by first | omega | (simp only[Ce]at hsz;omega))) ?_
  simp -implicitDefEqProofs [hjn,h3]
  exact⟨k-1,by omega,j+1,by omega,by simp[hw],rfl,by rw[←hst];rfl⟩
 obtain rfl:j=w.stage.length:=by omega
 simp -implicitDefEqProofs
 refine Ad (fun k s=>∃j o8 o9 o10 o11 o12 o15 o16 o17 o18 o20 o21 o22 o23,j+k=w.log.length∧s=⟨[.undef,.ptr 0 0,.ptr 1 0,.ptr 2 0,.undef,.undef,.sc (.int .i64 j),.undef,.undef,.undef],[.var ((Bn w).map (AL 1)),.var [.nil 1,.nil 1,.sc (.int .i64 0),.nil 4,.sc (.int .i64 0),.nil 1,.sc (.int .i64 0),.sc (.bool false),.sc (.int .i64 0),.sc (.int .i64 0),.nil 5,.nil 8,.sc (.int .i64 0),.sc (.int .i64 0),.sc (.int .i64 0)],.var [.arr 4,.arr 6,.sc (.int .i64 w.key),.arr 24,.sc (.int .i64 w.rollout.version),.arr 13,.sc (.int .i64 w.rollout.pos),.sc (.bool w.rollout.off),.sc (.int .i64 w.least),.sc (.int .i64 w.percent),.arr 25,.arr 26,.sc (.int .i64 w.now),.sc (.int .i64 w.hurt),.sc (.int .i64 w.reached)],.dead,.arr 1 0 w.server.length (ints w.server),.dead,.arr 1 0 w.tags.length (ints w.tags),.free,o8,o9,o10,o11,o12,.arr 1 0 w.rollout.stages.length (ints w.rollout.stages),.free,o15,o16,o17,o18,.free,o20,o21,o22,o23,.arr 4 0 w.ends.length (w.ends.flatMap Ak),.arr 5 0 w.stage.length (w.stage.flatMap A9),.arr 8 0 j ((w.log.take j).flatMap Av)]⟩) ?_ w.log.length _ ⟨0,by simp⟩
 intro k s ⟨j,o8,o9,o10,o11,o12,o15,o16,o17,o18,o20,o21,o22,o23,hj,hs'⟩
 subst hs'
 by_cases hjn:j<w.log.length
 ·have hw:IntKind.i64.wrap ((j:Int)+1)=(j+1:Nat):=by rw[Ab (by omega) (by omega)];simp
  have hsz:=size_at (f:=Ce) hjn
  have h3:(j+1)*96≤1099511627776:=by omega
  have hst:=Zd (f:=Av) hjn
  simp -implicitDefEqProofs [hjn]
  refine Aa (hD w.log[j].dialed (by first | omega | (simp only[Ce]at hsz;omega))) ?_
  simp -implicitDefEqProofs [hjn,h3]
  exact⟨k-1,by omega,j+1,by omega,by simp[hw],rfl,by rw[←hst];rfl⟩
 obtain rfl:j=w.log.length:=by omega
 simp -implicitDefEqProofs
theorem AmM (D:Dn) (hE:TK (D Avs)) (hR:NZ (D Aym)) (hD:VN (D AAF)):Ga (Body D Lj):=by
 intro w h
 have hl:=Zv h
 have he:=ER h
 have hs:=AgA h
 have hr:=AgP h
 have z:=Ms h
 have b1:w.server.length*8≤1099511627776:=by omega
 have b2:w.tags.length*8≤1099511627776:=by omega
 simp -implicitDefEqProofs [b1,b2]
 refine Aa (hR w.rollout hr) ?_
 simp -implicitDefEqProofs
 refine Ad (fun k s=>∃j o8 o9 o10 o11 o12 o13,j+k=w.ends.length∧s=⟨[.undef,.ptr 0 0,.ptr 1 0,.ptr 2 0,.undef,.undef,.undef,.sl 1 4 w.ends.length (w.ends.flatMap Ak),.sc (.int .i64 w.ends.length),.sc (.int .i64 j),.undef,.undef,.undef,.undef,.undef,.undef,.undef,.undef,.undef],[.var ((Bn w).map (AL 1)),.var [.nil 1,.nil 1,.sc (.int .i64 0),.nil 4,.sc (.int .i64 0),.nil 1,.sc (.int .i64 0),.sc (.bool false),.sc (.int .i64 0),.sc (.int .i64 0),.nil 5,.nil 8,.sc (.int .i64 0),.sc (.int .i64 0),.sc (.int .i64 0)],.var [.arr 4,.arr 6,.sc (.int .i64 w.key),.arr 24,.sc (.int .i64 w.rollout.version),.arr 7,.sc (.int .i64 w.rollout.pos),.sc (.bool w.rollout.off),.sc (.int .i64 w.least),.sc (.int .i64 w.percent),.arr 25,.arr 26,.sc (.int .i64 w.now),.sc (.int .i64 w.hurt),.sc (.int .i64 w.reached)],.dead,.arr 1 0 w.server.length (ints w.server),.dead,.arr 1 0 w.tags.length (ints w.tags),.arr 1 0 w.rollout.stages.length (ints w.rollout.stages),o8,o9,o10,o11,o12,o13,.free,.free,.free,.free,.free,.free,.free,.free,.free,.free,.arr 4 0 j ((w.ends.take j).flatMap Ak),.arr 5 0 0 [],.arr 8 0 0 []]⟩) ?_ w.ends.length _ ⟨0,by simp⟩
 intro k s ⟨j,o8,o9,o10,o11,o12,o13,hj,hs'⟩
 subst hs'
 by_cases hjn:j<w.ends.length
 ·have hw:IntKind.i64.wrap ((j:Int)+1)=(j+1:Nat):=by rw[Ab (by omega) (by omega)];simp
  have hsz:=size_at (f:=Ar) hjn
  have h3:(j+1)*80≤1099511627776:=by omega
  have hst:=Zd (f:=Ak) hjn
  simp -implicitDefEqProofs [hjn]
  refine Aa (hE w.ends[j] (by first | omega | (simp only[Ce]at hsz;omega))) ?_
  simp -implicitDefEqProofs [hjn,h3]
  exact⟨k-1,by omega,j+1,by omega,by simp[hw],rfl,by rw[←hst];rfl⟩
 obtain rfl:j=w.ends.length:=by omega
 simp -implicitDefEqProofs
 refine Ad (fun k s=>∃j o8 o9 o10 o11 o12 o13 o14 o15 o16 o17 o18,j+k=w.stage.length∧s=⟨[.undef,.ptr 0 0,.ptr 1 0,.ptr 2 0,.undef,.undef,.undef,.undef,.undef,.undef,.undef,.sl 1 5 w.stage.length (w.stage.flatMap A9),.sc (.int .i64 w.stage.length),.sc (.int .i64 j),.undef,.undef,.undef,.undef,.undef],[.var ((Bn w).map (AL 1)),.var [.nil 1,.nil 1,.sc (.int .i64 0),.nil 4,.sc (.int .i64 0),.nil 1,.sc (.int .i64 0),.sc (.bool false),.sc (.int .i64 0),.sc (.int .i64 0),.nil 5,.nil 8,.sc (.int .i64 0),.sc (.int .i64 0),.sc (.int .i64 0)],.var [.arr 4,.arr 6,.sc (.int .i64 w.key),.arr 24,.sc (.int .i64 w.rollout.version),.arr 7,.sc (.int .i64 w.rollout.pos),.sc (.bool w.rollout.off),.sc (.int .i64 w.least),.sc (.int .i64 w.percent),.arr 25,.arr 26,.sc (.int .i64 w.now),.sc (.int .i64 w.hurt),.sc (.int .i64 w.reached)],.dead,.arr 1 0 w.server.length (ints w.server),.dead,.arr 1 0 w.tags.length (ints w.tags),.arr 1 0 w.rollout.stages.length (ints w.rollout.stages),o8,o9,o10,o11,o12,o13,o14,o15,o16,o17,o18,.free,.free,.free,.free,.free,.arr 4 0 w.ends.length (w.ends.flatMap Ak),.arr 5 0 j ((w.stage.take j).flatMap A9),.arr 8 0 0 []]⟩) ?_ w.stage.length _ ⟨0,by simp⟩
 intro k s ⟨j,o8,o9,o10,o11,o12,o13,o14,o15,o16,o17,o18,hj,hs'⟩
 subst hs'
 by_cases hjn:j<w.stage.length
 ·have hw:IntKind.i64.wrap ((j:Int)+1)=(j+1:Nat):=by rw[Ab (by omega) (by omega)];simp
  have hsz:=size_at (f:=DW) hjn
  have h3:(j+1)*72≤1099511627776:=by omega
  have hst:=Zd (f:=A9) hjn
  simp -implicitDefEqProofs [hjn]
  refine Aa (hD w.stage[j] (by first | omega | (simp only[Ce]at hsz;omega))) ?_
  simp -implicitDefEqProofs [hjn,h3]
  exact⟨k-1,by omega,j+1,by omega,by simp[hw],rfl,by rw[←hst];rfl⟩
 obtain rfl:j=w.stage.length:=by omega
 simp -implicitDefEqProofs
 refine Ad (fun k s=>∃j o8 o9 o10 o11 o12 o13 o14 o15 o16 o17 o18 o19 o20 o21 o22 o23,j+k=w.log.length∧s=⟨[.undef,.undef,.ptr 1 0,.ptr 2 0,.undef,.undef,.undef,.undef,.undef,.undef,.undef,.undef,.undef,.undef,.undef,.sl 1 8 w.log.length (w.log.flatMap Av),.sc (.int .i64 w.log.length),.sc (.int .i64 j),.undef],[.var ((Bn w).map (AL 1)),.var [.nil 1,.nil 1,.sc (.int .i64 0),.nil 4,.sc (.int .i64 0),.nil 1,.sc (.int .i64 0),.sc (.bool false),.sc (.int .i64 0),.sc (.int .i64 0),.nil 5,.nil 8,.sc (.int .i64 0),.sc (.int .i64 0),.sc (.int .i64 0)],.var [.arr 4,.arr 6,.sc (.int .i64 w.key),.arr 24,.sc (.int .i64 w.rollout.version),.arr 7,.sc (.int .i64 w.rollout.pos),.sc (.bool w.rollout.off),.sc (.int .i64 w.least),.sc (.int .i64 w.percent),.arr 25,.arr 26,.sc (.int .i64 w.now),.sc (.int .i64 w.hurt),.sc (.int .i64 w.reached)],.dead,.arr 1 0 w.server.length (ints w.server),.dead,.arr 1 0 w.tags.length (ints w.tags),.arr 1 0 w.rollout.stages.length (ints w.rollout.stages),o8,o9,o10,o11,o12,o13,o14,o15,o16,o17,o18,o19,o20,o21,o22,o23,.arr 4 0 w.ends.length (w.ends.flatMap Ak),.arr 5 0 w.stage.length (w.stage.flatMap A9),.arr 8 0 j ((w.log.take j).flatMap Av)]⟩) ?_ w.log.length _ ⟨0,by simp⟩
 intro k s ⟨j,o8,o9,o10,o11,o12,o13,o14,o15,o16,o17,o18,o19,o20,o21,o22,o23,hj,hs'⟩
 subst hs'
 by_cases hjn:j<w.log.length
 ·have hw:IntKind.i64.wrap ((j:Int)+1)=(j+1:Nat):=by rw[Ab (by omega) (by omega)];simp
  have hsz:=size_at (f:=Ce) hjn
  have h3:(j+1)*96≤1099511627776:=by omega
  have hst:=Zd (f:=Av) hjn
  simp -implicitDefEqProofs [hjn]
  refine Aa (hD w.log[j].dialed (by first | omega | (simp only[Ce]at hsz;omega))) ?_
  simp -implicitDefEqProofs [hjn,h3]
  exact⟨k-1,by omega,j+1,by omega,by simp[hw],rfl,by rw[←hst];rfl⟩
 obtain rfl:j=w.log.length:=by omega
 simp -implicitDefEqProofs
end Go.Eng.T
namespace Go.Eng.T
set_option maxRecDepth 20000
theorem Ayv {α:Type} {f:α→Nat}:∀ {xs:List α} {j:Nat} (h:j<xs.length) (y:α),((xs.set j y).map f).sum+f xs[j]=(xs.map f).sum+f y
 | [],j,h,_=>by simp at h
 | x::r,0,h,y=>by simp;omega
 | x::r,j+1,h,y=>by
  have:=Ayv (f:=f) (xs:=r) (j:=j) (by simpa using h) y
  simp at *
  omega
end Go.Eng.T
namespace Go.Eng.T
set_option maxRecDepth 20000
theorem R3 {xs:List Int} {lo hi:Int} {j:Nat} (h:j<xs.length):allIn (xs.take (j+1)) lo hi=(allIn (xs.take j) lo hi&&decide (Pv xs[j] lo hi)):=by
 have e:xs.take (j+1)=xs.take j++ [xs[j]]:=by simp
 unfold allIn
 rw[e,List.all_append];simp
theorem AsW {xs:List Int} {lo hi:Int} {j:Nat} (h:j<xs.length) (hn:¬Pv xs[j] lo hi):allIn xs lo hi=false:=by
 unfold allIn
 rw[List.all_eq_false]
 exact⟨xs[j],List.getElem_mem h,by simp[hn]⟩
theorem Af1 {xs:List Int} {lo hi:Int} {j:Nat} (h:xs.length≤j) (ha:allIn (xs.take j) lo hi=true):allIn xs lo hi=true:=by rwa [List.take_of_length_le h]at ha
abbrev Zo (R:Rel):Prop:=∀xs:List Int,xs.length≤maxLen→R [.sl 1 1 xs.length (ints xs)] [] (B (allIn xs 0 255)) []
theorem ABF (D:Dn) (hI:Qo (D BF)):Zo (Body D Wt):=by
 intro xs hl
 unfold maxLen at hl
 simp -implicitDefEqProofs
 refine Ad (fun k s=>∃j,j+k=xs.length∧allIn (xs.take j) 0 255=true∧s=⟨[.sl 1 1 xs.length (ints xs),.undef,.sc (.int .i64 j),.undef,.undef],[]⟩) ?_ xs.length _ ⟨0,by simp,by simp[allIn],by simp⟩
 intro k s ⟨j,hj,hp,hs⟩
 subst hs
 by_cases hjn:j<xs.length
 ·have hw:IntKind.i64.wrap ((j:Int)+1)=(j+1:Nat):=by rw[Ab (by omega) (by omega)];simp
  simp -implicitDefEqProofs [hjn]
  refine Aa (hI _ _ _) ?_
  by_cases h1:Pv xs[j] 0 255
  ·simp -implicitDefEqProofs [h1]
   exact⟨k-1,by omega,j+1,by omega,by rw[R3 hjn,hp];simp[h1],by simp[hw]⟩
  ·simp -implicitDefEqProofs [h1,AsW hjn h1]
 ·simp -implicitDefEqProofs [hjn,Af1 (by omega) hp]
def Hg (b:Gu):Bool:=decide (Pv b.limit 0 9)&&decide (b.drops.length≤6)&&decide (b.strips.length≤6)&&allIn b.drops 0 255&&allIn b.strips 0 255
abbrev R6 (R:Rel):Prop:=∀b:Gu,JI b→R [arg (Dy b)] [] (B (Hg b)) []
theorem ADR (D:Dn) (hI:Qo (D BF)) (hB:Zo (D WU)):R6 (Body D Y0):=by
 intro b hl
 simp -implicitDefEqProofs
 refine Aa (hI _ _ _) ?_
 by_cases h1:Pv b.limit 0 9
 rotate_left
 ·simp -implicitDefEqProofs [h1,Hg]
 by_cases h2:b.drops.length≤6
 rotate_left
 ·have h2':¬(b.drops.length:Int)≤6:=by omega
  simp -implicitDefEqProofs [h1,h2',h2,Hg]
 have h2':(b.drops.length:Int)≤6:=by omega
 by_cases h3:b.strips.length≤6
 rotate_left
 ·have h3':¬(b.strips.length:Int)≤6:=by omega
  simp -implicitDefEqProofs [h1,h2',h3',h3,Hg]
 have h3':(b.strips.length:Int)≤6:=by omega
 simp -implicitDefEqProofs [h1,h2',h3']
 refine Aa (hB _ hl.1) ?_
 by_cases h4:allIn b.drops 0 255=true
 rotate_left
 ·simp -implicitDefEqProofs [h4,Hg]
 simp -implicitDefEqProofs [h4]
 refine Aa (hB _ hl.2) ?_
 simp -implicitDefEqProofs [Hg,h1,h2,h3,h4]
theorem ABX (D:Dn) (hI:Qo (D BB)) (hB:JN (D Ky)):R6 (Body D XQ):=by
 intro b hl
 simp -implicitDefEqProofs
 refine Aa (hI _ _ _) ?_
 by_cases h1:Pv b.limit 0 9
 rotate_left
 ·simp -implicitDefEqProofs [h1,Hg]
 by_cases h2:b.drops.length≤6
 rotate_left
 ·have h2':¬(b.drops.length:Int)≤6:=by omega
  simp -implicitDefEqProofs [h1,h2',h2,Hg]
 have h2':(b.drops.length:Int)≤6:=by omega
 by_cases h3:b.strips.length≤6
 rotate_left
 ·have h3':¬(b.strips.length:Int)≤6:=by omega
  simp -implicitDefEqProofs [h1,h2',h3',h3,Hg]
 have h3':(b.strips.length:Int)≤6:=by omega
 simp -implicitDefEqProofs [h1,h2',h3']
 refine Aa (hB _ _ _ hl.1) ?_
 by_cases h4:allIn b.drops 0 255=true
 rotate_left
 ·simp -implicitDefEqProofs [h4,Hg]
 simp -implicitDefEqProofs [h4]
 refine Aa (hB _ _ _ hl.2) ?_
 simp -implicitDefEqProofs [Hg,h1,h2,h3,h4]
end Go.Eng.T
namespace Go.Eng.T
set_option maxRecDepth 20000
abbrev Pn (D:Dn) (R:Rel):Prop:=∀(xs:List Gu) (g:Nat) (caps:List V) (p:Gu→Bool),xs.length≤maxLen→KD caps→(∀(j:Nat) (h:j<xs.length),D g (arg (Dy xs[j])::caps) [] (B (p xs[j])) [])→R [.sl 1 4 xs.length (xs.flatMap Dy),.fn g caps] [] (I (GR p xs 0)) []
theorem AkC (D:Dn):Pn D (Body D Dx):=by
 intro xs g caps p hl hc hp
 unfold maxLen at hl
 simp -implicitDefEqProofs
 refine Ad (fun k s=>∃j,j+k=xs.length∧GR p xs 0=GR p (xs.drop j) j∧s=⟨[.sl 1 4 xs.length (xs.flatMap Dy),.fn g caps,.undef,.undef,.sc (.int .i64 xs.length),.sc (.int .i64 j),.undef,.undef],[]⟩) ?_ xs.length _ ⟨0,by simp,by simp,by simp⟩
 intro k s ⟨j,hj,hi,hs⟩
 subst hs
 by_cases hjn:j<xs.length
 ·have hw:IntKind.i64.wrap ((j:Int)+1)=(j+1:Nat):=by rw[Ab (by omega) (by omega)];simp
  rw[OM hjn]at hi
  simp -implicitDefEqProofs [hjn,hc.1,hc.2.1]
  refine Aa (hp j hjn) ?_
  by_cases he:p xs[j]=true
  ·rw[if_pos he]at hi
   simp -implicitDefEqProofs [he,hi]
  ·rw[if_neg he]at hi
   simp -implicitDefEqProofs [he]
   exact⟨k-1,by omega,j+1,by omega,by simpa using hi,by simp[hw]⟩
 ·rw[Ta (by omega)]at hi
  simp -implicitDefEqProofs [hjn,hi]
abbrev IK (D:Dn) (R:Rel):Prop:=∀(xs:List Gu) (g:Nat) (caps:List V) (p:Gu→Bool),xs.length≤maxLen→KD caps→(∀(j:Nat) (h:j<xs.length),D g (arg (Dy xs[j])::caps) [] (B (p xs[j])) [])→R [.sl 1 4 xs.length (xs.flatMap Dy),.fn g caps] [] (B (xs.any p)) []
theorem Ad1 (D:Dn) (hI:Pn D (D JV)):IK D (Body D CW):=by
 intro xs g caps p hl hc hp
 simp -implicitDefEqProofs [hc.2.2]
 refine Aa (hI xs g caps p hl hc hp) ?_
 have e:decide (0≤GR p xs 0)=xs.any p:=by rw[Bool.eq_iff_iff];simp only[decide_eq_true_eq];rw[RH (by omega)]
 simp -implicitDefEqProofs [e]
end Go.Eng.T
namespace Go.Eng.T
set_option maxRecDepth 20000
end Go.Eng.T
namespace Go.Eng.T
set_option maxRecDepth 20000
def Au (t:Int):Bool:=decide (Pv t 0 255)&&decide (t.tmod 16=10)
abbrev FL (R:Rel):Prop:=∀t:Int,R [I t] [] (B (Au t)) []
theorem AoB (D:Dn) (hI:Qo (D BF)):FL (Body D O7):=by
 intro t
 simp -implicitDefEqProofs
 refine Aa (hI _ _ _) ?_
 by_cases h:Pv t 0 255
 ·simp -implicitDefEqProofs [h,Au,AdV]
 ·simp -implicitDefEqProofs [h,Au]
theorem Aot (D:Dn) (hI:Qo (D BB)):FL (Body D Ov):=by
 intro t
 simp -implicitDefEqProofs
 refine Aa (hI _ _ _) ?_
 by_cases h:Pv t 0 255
 ·simp -implicitDefEqProofs [h,Au,AdV]
 ·simp -implicitDefEqProofs [h,Au]
abbrev Mt (R:Rel):Prop:=∀xs:List Int,xs.length≤maxLen→R [.sl 1 1 xs.length (ints xs)] [] (B (xs.any Au)) []
theorem YK {α:Type} {p:α→Bool} {xs:List α} {j:Nat} (h:j<xs.length) (hp:p xs[j]=true):xs.any p=true:=List.any_eq_true.2 ⟨_,List.getElem_mem h,hp⟩
theorem AkU {α:Type} {p:α→Bool} {xs:List α} {j:Nat} (h:j<xs.length):(xs.take (j+1)).any p=((xs.take j).any p||p xs[j]):=by
 have e:xs.take (j+1)=xs.take j++ [xs[j]]:=by simp
 rw[e,List.any_append];simp
theorem any_none {α:Type} {p:α→Bool} {xs:List α} {j:Nat} (h:xs.length≤j) (ha:(xs.take j).any p=false):xs.any p=false:=by rwa [List.take_of_length_le h]at ha
theorem AnX (D:Dn) (hR:FL (D VQ)) (hC:Lb D (D Io)):Mt (Body D OW):=by
 intro xs hl
 simp -implicitDefEqProofs
 refine Aa (hC xs 279 _ Au hl E5 (fun x=>hR x)) ?_
 generalize xs.any Au=b
 simp -implicitDefEqProofs
end Go.Eng.T
namespace Go.Eng.T
set_option maxRecDepth 20000
abbrev InV (a b c:Int):Prop:=b≤a∧a≤c
def KL (xs:List Int) (j:Nat):Bool:=(List.range j).all fun i=>decide (InV (xs.getD i 0) 1 9)&&(decide (i=0)||decide (xs.getD (i-1) 0<xs.getD i 0))
theorem TS (xs:List Int) (j:Nat):KL xs (j+1)=(KL xs j&&(decide (InV (xs.getD j 0) 1 9)&&(decide (j=0)||decide (xs.getD (j-1) 0<xs.getD j 0)))):=by
 unfold KL
 rw[List.range_succ,List.all_append]
 simp
theorem Za {xs:List Int} {j:Nat} (h:j<xs.length) (hn:KL xs (j+1)=false):KL xs xs.length=false:=by
 have:∀n,KL xs (j+1+n)=false:=by
  intro n
  induction n with
  | zero=>exact hn
  | succ n ih=>rw[show j+1+(n+1)=(j+1+n)+1 by omega,TS,ih];rfl
 have:=this (xs.length-(j+1))
 rwa [show j+1+(xs.length-(j+1))=xs.length by omega]at this
theorem VH {xs:List Int} {j:Nat} (h:j<xs.length):xs.getD j 0=xs[j]:=by simp[h]
def AU (xs:List Int):Bool:=KL xs xs.length&&decide (0<xs.length)
abbrev BA (R:Rel):Prop:=∀xs:List Int,xs.length≤maxLen→R [.sl 1 1 xs.length (ints xs)] [] (B (AU xs)) []
theorem Alh (D:Dn) (hI:Qo (D BF)):BA (Body D MP):=by
 intro xs hl
 unfold maxLen at hl
 simp -implicitDefEqProofs
 refine Ad (fun k s=>∃j,j+k=xs.length∧KL xs j=true∧s=⟨[.sl 1 1 xs.length (ints xs),.undef,.sc (.int .i64 j),.undef,.undef],[]⟩) ?_ xs.length _ ⟨0,by simp,by simp[KL],by simp⟩
 intro k s ⟨j,hj,hr,hs⟩
 subst hs
 by_cases hjn:j<xs.length
 ·have hw:IntKind.i64.wrap ((j:Int)+1)=(j+1:Nat):=by rw[Ab (by omega) (by omega)];simp
  have hst:=TS xs j
  rw[hr,Bool.true_and,VH hjn]at hst
  simp -implicitDefEqProofs [hjn]
  refine Aa (hI _ _ _) ?_
  by_cases h1:InV xs[j] 1 9
  rotate_left
  ·have e:AU xs=false:=by unfold AU;rw[Za hjn (by rw[hst];simp[h1])];rfl
   simp -implicitDefEqProofs [h1,e]
  by_cases h0:j=0
  ·subst h0
   simp -implicitDefEqProofs [h1]
   exact⟨k-1,by omega,1,by omega,by rw[hst];simp[h1],by simpa using hw⟩
  ·have hw2:IntKind.i64.wrap ((j:Int)-1)=((j-1:Nat):Int):=by rw[Ab (by omega) (by omega)];omega
   have h2:(0:Int)<j:=by omega
   have h2':0<j:=by omega
   have h3:j-1<xs.length:=by omega
   rw[VH h3]at hst
   by_cases h4:xs[j-1]<xs[j]
   ·have h4':¬xs[j]≤xs[j-1]:=by omega
    simp -implicitDefEqProofs [h1,h2,h2',hw2,h3,hjn,h4']
    exact⟨k-1,by omega,j+1,by omega,by rw[hst];simp[h1,h0,h4],by simp[hw]⟩
   ·have e:AU xs=false:=by unfold AU;rw[Za hjn (by rw[hst];simp[h1,h0,h4])];rfl
    have h4':xs[j]≤xs[j-1]:=by omega
    simp -implicitDefEqProofs [h1,h2,h2',hw2,h3,hjn,h4',e]
 ·obtain rfl:j=xs.length:=by omega
  have e:AU xs=decide (0<xs.length):=by unfold AU;rw[hr];rfl
  by_cases h5:0<xs.length
  ·have h5':(0:Int)<xs.length:=by omega
   simp -implicitDefEqProofs [e,h5,h5']
  ·have h5':¬(0:Int)<xs.length:=by omega
   simp -implicitDefEqProofs [e,h5,h5']
theorem Alc (D:Dn) (hI:Qo (D BB)):BA (Body D MK):=by
 intro xs hl
 unfold maxLen at hl
 simp -implicitDefEqProofs
 refine Ad (fun k s=>∃j v2 v3,j+k=xs.length∧KL xs j=true∧s=⟨[.sl 1 1 xs.length (ints xs),.undef,v2,v3,.sl 1 1 xs.length (ints xs),.sc (.int .i64 xs.length),.sc (.int .i64 j),.undef,.undef],[]⟩) ?_ xs.length _ ⟨0,.undef,.undef,by simp,by simp[KL],by simp⟩
 intro k s ⟨j,v2,v3,hj,hr,hs⟩
 subst hs
 by_cases hjn:j<xs.length
 ·have hw:IntKind.i64.wrap ((j:Int)+1)=(j+1:Nat):=by rw[Ab (by omega) (by omega)];simp
  have hst:=TS xs j
  rw[hr,Bool.true_and,VH hjn]at hst
  simp -implicitDefEqProofs [hjn]
  refine Aa (hI _ _ _) ?_
  by_cases h1:InV xs[j] 1 9
  rotate_left
  ·have e:AU xs=false:=by unfold AU;rw[Za hjn (by rw[hst];simp[h1])];rfl
   simp -implicitDefEqProofs [h1,e]
  by_cases h0:j=0
  ·subst h0
   simp -implicitDefEqProofs [h1]
   exact⟨k-1,by omega,1,by omega,by rw[hst];simp[h1],by simpa using hw⟩
  ·have hw2:IntKind.i64.wrap ((j:Int)-1)=((j-1:Nat):Int):=by rw[Ab (by omega) (by omega)];omega
   have h2:(0:Int)<j:=by omega
   have h2':0<j:=by omega
   have h3:j-1<xs.length:=by omega
   rw[VH h3]at hst
   by_cases h4:xs[j-1]<xs[j]
   ·have h4':¬xs[j]≤xs[j-1]:=by omega
    simp -implicitDefEqProofs [h1,h2,h2',hw2,h3,hjn,h4']
    exact⟨k-1,by omega,j+1,by omega,by rw[hst];simp[h1,h0,h4],by simp[hw]⟩
   ·have e:AU xs=false:=by unfold AU;rw[Za hjn (by rw[hst];simp[h1,h0,h4])];rfl
    have h4':xs[j]≤xs[j-1]:=by omega
    simp -implicitDefEqProofs [h1,h2,h2',hw2,h3,hjn,h4',e]
 ·obtain rfl:j=xs.length:=by omega
  have e:AU xs=decide (0<xs.length):=by unfold AU;rw[hr];rfl
  by_cases h5:0<xs.length
  ·have h5':(0:Int)<xs.length:=by omega
   simp -implicitDefEqProofs [e,h5,h5']
  ·have h5':¬(0:Int)<xs.length:=by omega
   simp -implicitDefEqProofs [e,h5,h5']
theorem Kk {p:Int→Bool} {xs:List Int} {j:Nat} (h:j<xs.length):(xs.take (j+1)).filter p=(xs.take j).filter p++(if p xs[j]then [xs[j]]else []):=by
 have e:xs.take (j+1)=xs.take j++ [xs[j]]:=by simp
 rw[e,List.filter_append]
 by_cases hp:p xs[j]=true<;>simp[hp]
theorem K7 {p:Int→Bool} {xs:List Int} {j:Nat} (h:xs.length≤j):(xs.take j).filter p=xs.filter p:=by rw[List.take_of_length_le h]
theorem M5 {p:Int→Bool} {xs:List Int} {j:Nat}:((xs.take j).filter p).length≤j:=by
 have:=List.length_filter_le p (xs.take j)
 have h2:(xs.take j).length≤j:=by simp;omega
 omega
def common (a b:List Int):List Int:=a.filter fun v=>decide (v∈b)
def EJ (a:List Int) (v:Int):List Int:=a.filter fun x=> !decide (x=v)
abbrev Mi (R:Rel):Prop:=∀a b:List Int,a.length≤4194304→b.length≤maxLen→R [.sl 1 1 a.length (ints a),.sl 1 1 b.length (ints b)] [] (.sl 0 1 (common a b).length (ints (common a b))) []
theorem AsS (D:Dn) (hH:PX (D GA)):Mi (Body D Tf):=by
 intro a b ha hb'
 have hres:common a b=a.filter (fun v=>decide (v∈b)):=rfl
 rw[hres]
 simp -implicitDefEqProofs
 refine Ad (fun k s=>∃j o1 o2,j+k=a.length∧s=⟨[.sl 1 1 a.length (ints a),.sl 1 1 b.length (ints b),.undef,.arr 3,.sc (.int .i64 j),.undef,.undef],[.free,o1,o2,.arr 1 0 ((a.take j).filter (fun v=>decide (v∈b))).length (ints ((a.take j).filter (fun v=>decide (v∈b))))]⟩) ?_ a.length _ ⟨0,by simp⟩
 intro k s ⟨j,o1,o2,hj,hs⟩
 subst hs
 by_cases hjn:j<a.length
 ·have hw:IntKind.i64.wrap ((j:Int)+1)=(j+1:Nat):=by rw[Ab (by omega) (by omega)];simp
  have hst:=Kk (p:=fun v=>decide (v∈b)) hjn
  have hln:=M5 (p:=fun v=>decide (v∈b)) (xs:=a) (j:=j)
  have hb:(((a.take j).filter (fun v=>decide (v∈b))).length+1)*8≤1099511627776:=by omega
  simp -implicitDefEqProofs [hjn]
  refine Aa (hH b _ hb') ?_
  by_cases h1:a[j]∈b
  ·rw[if_pos (by simp[h1])]at hst
   simp -implicitDefEqProofs [h1,hjn,hb]
   exact⟨k-1,by omega,j+1,by omega,by simp[hw],by rw[hst];simp,by rw[hst]⟩
  ·rw[if_neg (by simp[h1]),List.append_nil]at hst
   simp -implicitDefEqProofs [h1,hjn,hb]
   exact⟨k-1,by omega,j+1,by omega,by simp[hw],by rw[hst],by rw[hst]⟩
 ·have hx:=K7 (p:=fun v=>decide (v∈b)) (xs:=a) (j:=j) (by omega)
  simp -implicitDefEqProofs [hjn,hx]
theorem As8 (D:Dn) (hH:PX (D Bq)):Mi (Body D Ti):=by
 intro a b ha hb'
 have hres:common a b=a.filter (fun v=>decide (v∈b)):=rfl
 rw[hres]
 simp -implicitDefEqProofs
 refine Ad (fun k s=>∃j v4 o1 o2,j+k=a.length∧s=⟨[.undef,.sl 1 1 b.length (ints b),.undef,.arr 3,v4,.sl 1 1 a.length (ints a),.sc (.int .i64 a.length),.sc (.int .i64 j),.undef,.undef],[.free,o1,o2,.arr 1 0 ((a.take j).filter (fun v=>decide (v∈b))).length (ints ((a.take j).filter (fun v=>decide (v∈b))))]⟩) ?_ a.length _ ⟨0,by simp⟩
 intro k s ⟨j,v4,o1,o2,hj,hs⟩
 subst hs
 by_cases hjn:j<a.length
 ·have hw:IntKind.i64.wrap ((j:Int)+1)=(j+1:Nat):=by rw[Ab (by omega) (by omega)];simp
  have hst:=Kk (p:=fun v=>decide (v∈b)) hjn
  have hln:=M5 (p:=fun v=>decide (v∈b)) (xs:=a) (j:=j)
  have hb:(((a.take j).filter (fun v=>decide (v∈b))).length+1)*8≤1099511627776:=by omega
  simp -implicitDefEqProofs [hjn]
  refine Aa (hH b _ hb') ?_
  by_cases h1:a[j]∈b
  ·rw[if_pos (by simp[h1])]at hst
   simp -implicitDefEqProofs [h1,hjn,hb]
   exact⟨k-1,by omega,j+1,by omega,by simp[hw],by rw[hst];simp,by rw[hst]⟩
  ·rw[if_neg (by simp[h1]),List.append_nil]at hst
   simp -implicitDefEqProofs [h1,hjn,hb]
   exact⟨k-1,by omega,j+1,by omega,by simp[hw],by rw[hst],by rw[hst]⟩
 ·have hx:=K7 (p:=fun v=>decide (v∈b)) (xs:=a) (j:=j) (by omega)
  simp -implicitDefEqProofs [hjn,hx]
end Go.Eng.T
namespace Go.Eng.T
set_option maxRecDepth 20000
set_option maxHeartbeats 1000000
def XG (l:List Int):Int:=l.foldl (fun a v=>if v>a then v else a) 0
theorem Ayp {x:Int}:∀(l:List Int) (a:Int),(∀y,y∈l→y<x)→a<x→l.foldl (fun a v=>if v>a then v else a) a<x
 | [],a,_,h=>h
 | y::l,a,hl,h=>by
  simp only[List.foldl_cons]
  refine Ayp l _ (fun z hz=>hl z (by simp[hz])) ?_
  split
  ·exact hl y (by simp)
  ·exact h
theorem AmD {xs:List Int}:∀(n:Nat),KL xs n=true→∀i j,i<j→j<n→xs.getD i 0<xs.getD j 0
 | 0,_,i,j,_,h=>by omega
 | n+1,hr,i,j,hij,hj=>by
  rw[TS]at hr
  simp only[Bool.and_eq_true,Bool.or_eq_true,decide_eq_true_eq]at hr
  obtain⟨h1,_,h3⟩:=hr
  by_cases hjn:j<n
  ·exact AmD n h1 i j hij hjn
  ·obtain rfl:j=n:=by omega
   have h4:xs.getD (j-1) 0<xs.getD j 0:=by
    rcases h3 with h3 | h3
    ·omega
    ·exact h3
   by_cases he:i=j-1
   ·rw[he];exact h4
   ·have:=AmD j h1 i (j-1) (by omega) (by omega)
    omega
theorem ACk {xs:List Int} {n i:Nat} (h:KL xs n=true) (hi:i<n):InV (xs.getD i 0) 1 9:=by
 unfold KL at h
 have:=List.all_eq_true.1 h i (List.mem_range.2 hi)
 simp at this
 exact⟨this.1.1,this.1.2⟩
theorem Apy {xs:List Int} (h:AU xs=true):xs.Pairwise (· < ·):=by
 unfold AU at h
 simp only[Bool.and_eq_true,decide_eq_true_eq]at h
 rw[List.pairwise_iff_getElem]
 intro i j hi hj hij
 have:=AmD _ h.1 i j hij hj
 rwa [VH hi,VH hj]at this
theorem AxI {xs:List Int} (h:AU xs=true):∀x,x∈xs→InV x 1 9:=by
 unfold AU at h
 simp only[Bool.and_eq_true,decide_eq_true_eq]at h
 intro x hx
 obtain⟨i,hi,rfl⟩:=List.getElem_of_mem hx
 have:=ACk h.1 hi
 rwa [VH hi]at this
theorem AzM {l:List Int} (hp:l.Pairwise (· < ·)) (h0:∀x,x∈l→0<x) (hn:0<l.length):XG l=l[l.length-1]:=by
 obtain⟨l',x,rfl⟩:∃l' x,l=l'++ [x]:=by
  rcases List.eq_nil_or_concat l with h | ⟨l',x,h⟩
  ·rw[h]at hn;simp at hn
  ·exact⟨l',x,by simpa using h⟩
 rw[List.pairwise_append]at hp
 have h1:XG l' <x:=Ayp l' 0 (fun y hy=>hp.2.2 y hy x (by simp)) (h0 x (by simp))
 have h2:XG (l'++ [x])=if x>XG l' then x else XG l':=by unfold XG;rw[List.foldl_append];rfl
 rw[h2,if_pos h1]
 simp
def Be (a b:List Int):Int:=if AU a=true∧AU b=true then XG (common a b)else 0
abbrev DY (R:Rel):Prop:=∀a b:List Int,a.length≤4194304→b.length≤4194304→R [.sl 1 1 a.length (ints a),.sl 1 1 b.length (ints b)] [] (I (Be a b)) []
theorem ml {n:Nat} (h:n≤4194304):n≤maxLen:=by unfold maxLen;omega
theorem AnE (D:Dn) (hC:Mi (D AjV)) (hA:BA (D Di)):DY (Body D NU):=by
 intro a b ha hb
 have hcl:(common a b).length≤4194304:=Nat.le_trans (List.length_filter_le _ _) ha
 simp -implicitDefEqProofs
 refine Aa (hC a b ha (ml hb)) ?_
 simp -implicitDefEqProofs
 refine Aa (hA a (ml ha)) ?_
 by_cases h1:AU a=true
 rotate_left
 ·simp -implicitDefEqProofs [h1,Be]
 simp -implicitDefEqProofs [h1]
 refine Aa (hA b (ml hb)) ?_
 by_cases h2:AU b=true
 rotate_left
 ·simp -implicitDefEqProofs [h2,Be]
 have e:Be a b=XG (common a b):=by unfold Be;rw[if_pos ⟨h1,h2⟩]
 rw[e]
 by_cases h3:common a b=[]
 ·simp -implicitDefEqProofs [h2,h3,XG]
 have h4:0<(common a b).length:=List.length_pos_iff.2 h3
 have h5:=AzM (l:=common a b) ((Apy h1).filter _) (fun x hx=>by have:=AxI h1 x (List.mem_filter.1 hx).1;omega) h4
 rw[h5]
 generalize common a b=l at h3 h4 hcl
 have hw:IntKind.i64.wrap ((l.length:Int)-1)=((l.length-1:Nat):Int):=by rw[Ab (by omega) (by omega)];omega
 have h6:l.length-1<l.length:=by omega
 simp -implicitDefEqProofs [h2,h3,hw,h6,h4]
theorem Anh (D:Dn) (hC:Mi (D Alz)) (hA:BA (D FX)):DY (Body D O4):=by
 intro a b ha hb
 have hcl:(common a b).length≤4194304:=Nat.le_trans (List.length_filter_le _ _) ha
 simp -implicitDefEqProofs
 refine Aa (hA a (ml ha)) ?_
 by_cases h1:AU a=true
 rotate_left
 ·simp -implicitDefEqProofs [h1,Be]
 simp -implicitDefEqProofs [h1]
 refine Aa (hA b (ml hb)) ?_
 by_cases h2:AU b=true
 rotate_left
 ·simp -implicitDefEqProofs [h2,Be]
 have e:Be a b=XG (common a b):=by unfold Be;rw[if_pos ⟨h1,h2⟩]
 rw[e]
 simp -implicitDefEqProofs [h2]
 refine Aa (hC a b ha (ml hb)) ?_
 generalize common a b=l at hcl
 simp -implicitDefEqProofs
 refine Ad (fun k s=>∃j,j+k=l.length∧s=⟨[.undef,.undef,.undef,.sc (.int .i64 (XG (l.take j))),.undef,.undef,.arr 0,.sc (.int .i64 l.length),.sc (.int .i64 j),.undef],[.arr 1 0 l.length (ints l)]⟩) ?_ l.length _ ⟨0,by simp,by simp[XG]⟩
 intro k s ⟨j,hj,hs⟩
 subst hs
 by_cases hjn:j<l.length
 ·have hw:IntKind.i64.wrap ((j:Int)+1)=(j+1:Nat):=by rw[Ab (by omega) (by omega)];simp
  have hst:XG (l.take (j+1))=if l[j]>XG (l.take j)then l[j]else XG (l.take j):=by
   have e:l.take (j+1)=l.take j++ [l[j]]:=by simp
   unfold XG
   rw[e,List.foldl_append];rfl
  simp -implicitDefEqProofs [hjn]
  exact⟨k-1,by omega,j+1,by omega,by rw[hst],by simp[hw]⟩
 ·have hx:l.take j=l:=List.take_of_length_le (by omega)
  simp -implicitDefEqProofs [hjn,hx]
end Go.Eng.T
namespace Go.Eng.T
structure Ext where
 tag:Int
 body:List Int
 deriving DecidableEq
structure Hello where
 versions:List Int
 exts:List Ext
 deriving DecidableEq
structure SE where
 version:Int
 exts:List Ext
 deriving DecidableEq
def Bw (x:Ext):List V:=[.sc (.int .i64 x.tag),.sl 0 1 x.body.length (ints x.body)]
def CP (h:Hello):List V:=[.sl 0 1 h.versions.length (ints h.versions),.sl 0 2 h.exts.length (h.exts.flatMap Bw)]
def Zp (a:SE):List V:=[.sc (.int .i64 a.version),.sl 0 2 a.exts.length (a.exts.flatMap Bw)]
theorem YC (x:Ext):(Bw x).length=2:=rfl
@[simp] theorem AJj (xs:List Ext):(xs.flatMap Bw).map (AL 0)=xs.flatMap Bw:=ZF (fun _=>rfl) xs
@[simp high] theorem AJc {xs:List Ext} {j:Nat} (h:j<xs.length):Gs (xs.flatMap Bw) (j*2) 2=some (Bw xs[j]):=O1 YC h
@[simp high] theorem RP (xs:List Ext):(xs.flatMap Bw).length=xs.length*2:=Nz YC xs
@[simp high] theorem AI8 {xs:List Ext} {j:Nat} (h:j<xs.length):(xs.flatMap Bw)[j*2]? =some (.sc (.int .i64 xs[j].tag)):=by
 have:=AP (o:=0) YC h (by omega)
 simpa[Bw]using this
@[simp high] theorem AJm {xs:List Ext} {j:Nat} (h:j<xs.length):(xs.flatMap Bw)[j*2+1]? =some (.sl 0 1 xs[j].body.length (ints xs[j].body)):=by
 have:=AP (o:=1) YC h (by omega)
 simpa[Bw]using this
theorem AyY {α:Type} {f:α→List V} {e:Nat} (hf:∀x,(f x).length=e) (xs:List α) (i:Nat):(xs.flatMap f).take (i*e)=(xs.take i).flatMap f:=by
 induction xs generalizing i with
 | nil=>simp
 | cons x xs ih=>
  cases i with
  | zero=>simp
  | succ i=>
   simp only[List.flatMap_cons,List.take_succ_cons]
   rw[←ih i,show(i+1)*e=(f x).length+i*e by rw[hf,Nat.add_mul];omega,List.take_length_add_append]
theorem AzS {α:Type} {f:α→List V} {e:Nat} (hf:∀x,(f x).length=e) (xs:List α) (o n:Nat):part (xs.flatMap f) e o n=((xs.drop o).take n).flatMap f:=by
 unfold part
 rw[Y6 hf,AyY hf]
@[simp high] theorem AIj (xs:List Ext) (o n:Nat):part (xs.flatMap Bw) 2 o n=((xs.drop o).take n).flatMap Bw:=AzS YC xs o n
attribute [simp] Bw CP Zp
def UY (l:List Ext):Prop:=l.length≤4194304∧∀x,x∈l→x.body.length≤4194304
theorem Ns {l:List Ext} (h:UY l) {j:Nat} (hj:j<l.length):l[j].body.length≤4194304:=h.2 _ (List.getElem_mem hj)
theorem Ada:UY []:=⟨by simp,by simp⟩
theorem Aw5 {l:List Ext} (h:UY l) (p:Ext→Bool):UY (l.filter p):=
 ⟨Nat.le_trans (List.length_filter_le p l) h.1,fun x hx=>h.2 x (List.mem_filter.1 hx).1⟩
def PY (q:Nat→Bool) (j:Nat):Bool:=(List.range j).all q
@[simp] theorem AHK (q:Nat→Bool):PY q 0=true:=rfl
theorem JX (q:Nat→Bool) (j:Nat):PY q (j+1)=(PY q j&&q j):=by
 unfold PY
 rw[List.range_succ,List.all_append]
 simp
theorem AjP {q:Nat→Bool} {j n:Nat} (h:j<n) (hn:q j=false):PY q n=false:=by
 have:∀m,PY q (j+1+m)=false:=by
  intro m
  induction m with
  | zero=>rw[Nat.add_zero,JX,hn];simp
  | succ m ih=>rw[show j+1+(m+1)=(j+1+m)+1 by omega,JX,ih];rfl
 have:=this (n-(j+1))
 rwa [show j+1+(n-(j+1))=n by omega]at this
theorem Apv {q:Nat→Bool} {n:Nat}:PY q n=true↔∀i,i<n→q i=true:=by
 unfold PY
 rw[List.all_eq_true]
 simp
theorem Abr {α:Type} {p:α→Bool} {xs:List α} {j:Nat} (h:j<xs.length):(xs.take (j+1)).filter p=(xs.take j).filter p++(if p xs[j]then [xs[j]]else []):=by
 have e:xs.take (j+1)=xs.take j++ [xs[j]]:=by simp
 rw[e,List.filter_append]
 by_cases hp:p xs[j]=true<;>simp[hp]
theorem AfI {α:Type} {p:α→Bool} {xs:List α} {j:Nat} (h:xs.length≤j):(xs.take j).filter p=xs.filter p:=by rw[List.take_of_length_le h]
theorem Aff {α:Type} {p:α→Bool} {xs:List α} {j:Nat}:((xs.take j).filter p).length≤j:=by
 have:=List.length_filter_le p (xs.take j)
 have h2:(xs.take j).length≤j:=by simp;omega
 omega
end Go.Eng.T
namespace Go.Eng.T
end Go.Eng.T
