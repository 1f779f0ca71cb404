/- Own work: part 12 of the proof of FnExactRunConsole. -/
import Derived.Test.YtogmkdgkgfhhoaaGreatDoorDEngAL
import Derived.Test.YtogmkdgkgfhhoaaGreatDoorDP11
import Derived.Lib.ItoaNum
import Derived.Lib.Join
set_option linter.unusedSimpArgs false
set_option linter.unusedVariables false
namespace Go.Eng.T
abbrev I (a:Int):V:= .sc (.int .i64 a)
abbrev B (a:Bool):V:= .sc (.bool a)
abbrev S (a:ByteArray):V:= .sc (.string a)
abbrev Rel:=List V->List O->V->List O->Prop
def ints (xs:List Int):List V:=xs.map fun x=> .sc (.int .i64 x)
@[simp] theorem ArG (xs:List Int):(ints xs).length=xs.length:=by simp[ints]
@[simp] theorem ArF:ints []=[]:=rfl
@[simp] theorem ints_at {xs:List Int} {j:Nat} (h:j<xs.length):(ints xs)[j]? =some (V.sc (.int .i64 xs[j])):=by simp[ints,h]
@[simp] theorem Aq4 {xs:List Int} {j:Nat} (h:j<(ints xs).length):(ints xs)[j]=V.sc (.int .i64 (xs[j]'(by simpa using h))):=by simp[ints]
@[simp] theorem Asl (xs:List Int) (k:Nat):(ints xs).map (AO k)=ints xs:=by simp[ints,Function.comp_def,AO]
theorem Ab4 (xs ys:List Int):ints xs++ints ys=ints (xs++ys):=by simp[ints]
@[simp] theorem Aq2 (xs:List Int) (y:Int):ints xs++ [V.sc (.int .i64 y)]=ints (xs++ [y]):=by simp[ints]
@[simp] theorem ints_set (xs:List Int) (j:Nat) (y:Int):(ints xs).set j (V.sc (.int .i64 y))=ints (xs.set j y):=by simp[ints]
@[simp] theorem ArS (n:Nat):(List.replicate n [V.sc (.int .i64 0)]).flatten=ints (List.replicate n 0):=by
 induction n with
 | zero=>rfl
 | succ n ih=>simp[List.replicate_succ,ints]at *
@[simp] theorem Asi (xs:List Int):(ints xs).all Mr=true:=by simp[ints,Mr]
@[simp] theorem Aq6 (xs:List Int) (o n:Nat):part (ints xs) 1 o n=ints ((xs.drop o).take n):=by simp[part,ints]
@[simp] theorem Arh:∀xs:List Int,(∀x,x∈ints xs->Mr x=true)=True:=by simp[ints,Mr]
@[simp] theorem Arc (a:V) (cs:List V) (off n:Nat):ER (a::cs) off n=if off+n<=cs.length+1 then some (((a::cs).drop off).take n)else none:=by simp[ER]
structure Aaf where
 ok:Bool
 version:Int
 tags:List Int
 deriving DecidableEq
structure EG where
 limit:Int
 drops:List Int
 strips:List Int
 lists:Bool
 deriving DecidableEq
structure BP where
 deal:Aaf
 tries:Int
 up:List Int
 deriving DecidableEq
structure AX where
 version:Int
 stages:List Int
 pos:Int
 off:Bool
 deriving DecidableEq
structure Ai where
 versions:List Int
 tags:List Int
 path:List EG
 cls:Int
 deriving DecidableEq
structure Eo where
 fin:Int
 tick:Int
 on:Bool
 dialed:BP
 deriving DecidableEq
structure World where
 server:List Int
 tags:List Int
 key:Int
 ends:List Ai
 rollout:AX
 least:Int
 percent:Int
 stage:List BP
 log:List Eo
 now:Int
 hurt:Int
 reached:Int
 deriving DecidableEq
structure Event where
 kind:Int
 n:Int
 box:EG
 deriving DecidableEq
abbrev sl (fl e n:Nat) (cs:List V):V:= .sl fl e n cs
def AfJ (d:Aaf):List V:=[.sc (.bool d.ok),.sc (.int .i64 d.version),.sl 0 1 d.tags.length (ints d.tags)]
def DT (d:EG):List V:=[.sc (.int .i64 d.limit),.sl 0 1 d.drops.length (ints d.drops),.sl 0 1 d.strips.length (ints d.strips),.sc (.bool d.lists)]
def AB (d:BP):List V:=[.sc (.bool d.deal.ok),.sc (.int .i64 d.deal.version),.sl 0 1 d.deal.tags.length (ints d.deal.tags),.sc (.int .i64 d.tries),.sl 0 1 d.up.length (ints d.up)]
def Dj (d:AX):List V:=[.sc (.int .i64 d.version),.sl 0 1 d.stages.length (ints d.stages),.sc (.int .i64 d.pos),.sc (.bool d.off)]
def Ah (d:Ai):List V:=[.sl 0 1 d.versions.length (ints d.versions),.sl 0 1 d.tags.length (ints d.tags),.sl 0 4 d.path.length (d.path.flatMap DT),.sc (.int .i64 d.cls)]
def Az (d:Eo):List V:=[.sc (.int .i64 d.fin),.sc (.int .i64 d.tick),.sc (.bool d.on),.sc (.bool d.dialed.deal.ok),.sc (.int .i64 d.dialed.deal.version),.sl 0 1 d.dialed.deal.tags.length (ints d.dialed.deal.tags),.sc (.int .i64 d.dialed.tries),.sl 0 1 d.dialed.up.length (ints d.dialed.up)]
def Bu (d:World):List V:=[.sl 0 1 d.server.length (ints d.server),.sl 0 1 d.tags.length (ints d.tags),.sc (.int .i64 d.key),.sl 0 4 d.ends.length (d.ends.flatMap Ah),.sc (.int .i64 d.rollout.version),.sl 0 1 d.rollout.stages.length (ints d.rollout.stages),.sc (.int .i64 d.rollout.pos),.sc (.bool d.rollout.off),.sc (.int .i64 d.least),.sc (.int .i64 d.percent),.sl 0 5 d.stage.length (d.stage.flatMap AB),.sl 0 8 d.log.length (d.log.flatMap Az),.sc (.int .i64 d.now),.sc (.int .i64 d.hurt),.sc (.int .i64 d.reached)]
def BJ (d:Event):List V:=[.sc (.int .i64 d.kind),.sc (.int .i64 d.n),.sc (.int .i64 d.box.limit),.sl 0 1 d.box.drops.length (ints d.box.drops),.sl 0 1 d.box.strips.length (ints d.box.strips),.sc (.bool d.box.lists)]
abbrev arg (cs:List V):V:= .agg (cs.map (AO 1))
section
variable {α:Type} {f:α->List V} {e:Nat}
theorem R8 (hf:∀x,(f x).map (AO 0)=f x) (xs:List α):(xs.flatMap f).map (AO 0)=xs.flatMap f:=by
 induction xs with
 | nil=>rfl
 | cons x xs ih=>simp[hf,ih]
theorem R4 (cs ds:List V) (o:Nat):∀(azs:List V),o+azs.length<=ds.length->putAt (cs++ds) (cs.length+o) azs=cs++putAt ds o azs:=by
 intro azs
 induction azs generalizing ds o with
 | nil=>intro _;simp[putAt]
 | cons a azs ih=>
  intro h
  simp only[putAt,List.length_cons]at *
  rw[List.set_append_right _ _ (by omega),show cs.length+o-cs.length=o by omega,show cs.length+o+1=cs.length+(o+1)by omega]
  exact ih _ _ (by simp;omega)
theorem Ai9:∀(ds azs:List V),azs.length<=ds.length->putAt ds 0 azs=azs++ds.drop azs.length:=by
 have key:∀(azs pre ds:List V),azs.length<=ds.length->putAt (pre++ds) pre.length azs=pre++azs++ds.drop azs.length:=by
  intro azs
  induction azs with
  | nil=>intro pre ds _;simp[putAt]
  | cons a azs ih=>
   intro pre ds h
   cases ds with
   | nil=>simp at h
   | cons d ds=>
    have:=ih (pre++ [a]) ds (by simpa using h)
    simp only[putAt]
    rw[List.set_append_right _ _ (Nat.le_refl _),Nat.sub_self,List.set_cons_zero]
    simpa using this
 intro ds azs h
 simpa using key azs [] ds h
theorem Ml (hf:∀x,(f x).length=e) {xs:List α} {i:Nat} (hi:i<xs.length) (x:α):putAt (xs.flatMap f) (i*e) (f x)=(xs.set i x).flatMap f:=by
 induction xs generalizing i with
 | nil=>simp at hi
 | cons y ys ih=>
  cases i with
  | zero=>
   rw[Nat.zero_mul,Ai9 _ _ (by simp[hf])]
   simp[hf]
  | succ i=>
   simp only[List.flatMap_cons,List.set_cons_succ]
   rw[show(i+1)*e=(f y).length+i*e by rw[hf,Nat.add_mul];omega,R4]
   ·rw[ih (by simpa using hi)]
   ·rw[Iq hf,hf]
    have:=Nat.mul_le_mul_right e (show i+1<=ys.length by simp at hi;omega)
    rw[Nat.add_mul]at this;omega
end
def fd (o:O):Prop:=o= .free∨o= .dead
@[simp] theorem Aso:fd .free:= .inl rfl
@[simp] theorem Ar4:fd .dead:= .inr rfl
def mix {α:Type} (z:α) (xs:List α) (j:Nat):List α:=xs.take j++List.replicate (xs.length-j) z
section
variable {α:Type} {z:α} {xs:List α} {j:Nat}
@[simp] theorem ArY (h:j<=xs.length):(mix z xs j).length=xs.length:=by simp[mix];omega
end
theorem Ad {n:Int} (h1:-9223372036854775808<=n) (h2:n<=9223372036854775807):IntKind.i64.wrap n=n:=by
 show(if(true&&decide (n % (2 ^ 64:Int)>=(2 ^ 63:Int)))=true then n % (2 ^ 64:Int)-(2 ^ 64:Int)else n % (2 ^ 64:Int))=n
 by_cases h:n % (2 ^ 64:Int)>=(2 ^ 63:Int)
 ·rw[if_pos (by simp only[h];rfl)];omega
 ·rw[if_neg (by simp only[h];simp)];omega
theorem Cv {j:Nat} (h:j<9223372036854775807):IntKind.i64.wrap ((j:Int)+1)=(j+1:Nat):=by rw[Ad (by omega) (by omega)];simp
section
variable {α:Type} {xs ys:List α} {j:Nat}
theorem Adh (hx:j<xs.length) (hy:j<ys.length) (h:xs.take j=ys.take j) (he:xs[j]=ys[j]):xs.take (j+1)=ys.take (j+1):=by
 rw[List.take_add_one,List.take_add_one,h,List.getElem?_eq_getElem hx,List.getElem?_eq_getElem hy,he]
theorem Agx (hx:xs.length<=j) (hl:xs.length=ys.length) (h:xs.take j=ys.take j):xs=ys:=by
 rwa [List.take_of_length_le hx,List.take_of_length_le (by omega)]at h
end
def Cr {α:Type} (f:α->Nat) (xs:List α):Nat:=xs.length+(xs.map f).sum
def ND (d:Aaf):Nat:=d.tags.length
def Gm (d:EG):Nat:=d.drops.length+d.strips.length
def Cb (d:BP):Nat:=ND d.deal+d.up.length
def Db (d:AX):Nat:=d.stages.length
def Am (d:Ai):Nat:=d.versions.length+d.tags.length+Cr Gm d.path
def Ip (d:Eo):Nat:=Cb d.dialed
def Af (d:World):Nat:=d.server.length+d.tags.length+Cr Am d.ends+Db d.rollout+Cr Cb d.stage+Cr Ip d.log
def Hy (d:Event):Nat:=Gm d.box
section
variable {α:Type} {f:α->Nat} {xs:List α} {j:Nat}
theorem AlZ (h:j<xs.length):((xs.take (j+1)).map f).sum=((xs.take j).map f).sum+f xs[j]:=by
 rw[List.take_add_one,List.getElem?_eq_getElem h,List.map_append,List.sum_append,Option.toList_some,List.map_cons,List.map_nil,List.sum_cons,List.sum_nil,Nat.add_zero]
theorem AfV:((xs.take j).map f).sum<=(xs.map f).sum:=by
 conv=>rhs;rw[<-List.take_append_drop j xs,List.map_append,List.sum_append]
 omega
theorem size_at (h:j<xs.length):f xs[j]<=Cr f xs:=by
 have h1:=AlZ (f:=f) h
 have h2:=AfV (f:=f) (xs:=xs) (j:=j+1)
 unfold Cr;omega
theorem J9:xs.length<=Cr f xs:=by unfold Cr;omega
end
def Nr (xs:List Int):Prop:=xs.length<=maxLen
def lnS {α:Type} (f:α->Prop) (xs:List α):Prop:=xs.length<=maxLen/\∀(j:Nat) (h:j<xs.length),f xs[j]
def Kh (d:EG):Prop:=Nr d.drops/\Nr d.strips
def AbY (d:Ai):Prop:=Nr d.versions/\Nr d.tags/\lnS Kh d.path
theorem Gp (x:EG):(DT x).length=4:=rfl
theorem C9 (x:BP):(AB x).length=5:=rfl
theorem Dh (x:Ai):(Ah x).length=4:=rfl
theorem Bh (x:Eo):(Az x).length=8:=rfl
theorem CS (x:Event):(BJ x).length=6:=rfl
@[simp] theorem Ar8 (xs:List EG):(xs.flatMap DT).map (AO 0)=xs.flatMap DT:=R8 (fun _=>rfl) xs
@[simp] theorem AqN (xs:List BP):(xs.flatMap AB).map (AO 0)=xs.flatMap AB:=R8 (fun _=>rfl) xs
@[simp] theorem AoC (xs:List Ai):(xs.flatMap Ah).map (AO 0)=xs.flatMap Ah:=R8 (fun _=>rfl) xs
@[simp] theorem AqO (xs:List Eo):(xs.flatMap Az).map (AO 0)=xs.flatMap Az:=R8 (fun _=>rfl) xs
@[simp] theorem Ara (xs:List Event):(xs.flatMap BJ).map (AO 0)=xs.flatMap BJ:=R8 (fun _=>rfl) xs
@[simp high] theorem Asm {xs:List EG} {j:Nat} (h:j<xs.length):ER (xs.flatMap DT) (j*4) 4=some (DT xs[j]):=JB Gp h
@[simp high] theorem Ap7 {xs:List BP} {j:Nat} (h:j<xs.length):ER (xs.flatMap AB) (j*5) 5=some (AB xs[j]):=JB C9 h
@[simp high] theorem Ao8 {xs:List Ai} {j:Nat} (h:j<xs.length):ER (xs.flatMap Ah) (j*4) 4=some (Ah xs[j]):=JB Dh h
@[simp high] theorem Aqo {xs:List Eo} {j:Nat} (h:j<xs.length):ER (xs.flatMap Az) (j*8) 8=some (Az xs[j]):=JB Bh h
@[simp high] theorem AqY {xs:List Event} {j:Nat} (h:j<xs.length):ER (xs.flatMap BJ) (j*6) 6=some (BJ xs[j]):=JB CS h
@[simp high] theorem Aq7 (xs:List EG):(xs.flatMap DT).length=xs.length*4:=Iq Gp xs
@[simp high] theorem ArH {xs:List EG} {j:Nat} (h:j<xs.length) (a:Int) (b c:List Int) (d:Bool) {nb:Nat} (hb:nb=b.length) {nc:Nat} (hc:nc=c.length):putAt (xs.flatMap DT) (j*4) [.sc (.int .i64 a),.sl 0 1 nb (ints b),.sl 0 1 nc (ints c),.sc (.bool d)]=(xs.set j ⟨a,b,c,d⟩).flatMap DT:=by subst hb;subst hc;exact Ml Gp h ⟨a,b,c,d⟩
@[simp high] theorem Ao1 (xs:List BP):(xs.flatMap AB).length=xs.length*5:=Iq C9 xs
@[simp high] theorem Apz {xs:List BP} {j:Nat} (h:j<xs.length) (a:Bool) (b:Int) (c:List Int) (d:Int) (u:List Int) {nc:Nat} (hc:nc=c.length) {nu:Nat} (hu:nu=u.length):putAt (xs.flatMap AB) (j*5) [.sc (.bool a),.sc (.int .i64 b),.sl 0 1 nc (ints c),.sc (.int .i64 d),.sl 0 1 nu (ints u)]=(xs.set j ⟨⟨a,b,c⟩,d,u⟩).flatMap AB:=by subst hc;subst hu;exact Ml C9 h ⟨⟨a,b,c⟩,d,u⟩
@[simp high] theorem Al9 (xs:List Ai):(xs.flatMap Ah).length=xs.length*4:=Iq Dh xs
@[simp high] theorem AnW {xs:List Ai} {j:Nat} (h:j<xs.length) (a b:List Int) (c:List EG) (d:Int) {na:Nat} (ha:na=a.length) {nb:Nat} (hb:nb=b.length) {nc:Nat} (hc:nc=c.length):putAt (xs.flatMap Ah) (j*4) [.sl 0 1 na (ints a),.sl 0 1 nb (ints b),.sl 0 4 nc (c.flatMap DT),.sc (.int .i64 d)]=(xs.set j ⟨a,b,c,d⟩).flatMap Ah:=by subst ha;subst hb;subst hc;exact Ml Dh h ⟨a,b,c,d⟩
@[simp high] theorem AoX (xs:List Eo):(xs.flatMap Az).length=xs.length*8:=Iq Bh xs
@[simp high] theorem Apj {xs:List Eo} {j:Nat} (h:j<xs.length) (m n:Int) (o a:Bool) (b:Int) (c:List Int) (d:Int) (u:List Int) {nc:Nat} (hc:nc=c.length) {nu:Nat} (hu:nu=u.length):putAt (xs.flatMap Az) (j*8) [.sc (.int .i64 m),.sc (.int .i64 n),.sc (.bool o),.sc (.bool a),.sc (.int .i64 b),.sl 0 1 nc (ints c),.sc (.int .i64 d),.sl 0 1 nu (ints u)]=(xs.set j ⟨m,n,o,⟨⟨a,b,c⟩,d,u⟩⟩).flatMap Az:=by subst hc;subst hu;exact Ml Bh h ⟨m,n,o,⟨⟨a,b,c⟩,d,u⟩⟩
@[simp high] theorem Apw (xs:List Event):(xs.flatMap BJ).length=xs.length*6:=Iq CS xs
@[simp high] theorem Aqa {xs:List Event} {j:Nat} (h:j<xs.length) (m n:Int) (a:Int) (b c:List Int) (d:Bool) {nb:Nat} (hb:nb=b.length) {nc:Nat} (hc:nc=c.length):putAt (xs.flatMap BJ) (j*6) [.sc (.int .i64 m),.sc (.int .i64 n),.sc (.int .i64 a),.sl 0 1 nb (ints b),.sl 0 1 nc (ints c),.sc (.bool d)]=(xs.set j ⟨m,n,⟨a,b,c,d⟩⟩).flatMap BJ:=by subst hb;subst hc;exact Ml CS h ⟨m,n,⟨a,b,c,d⟩⟩
@[simp high] theorem Asb {xs:List EG} {j:Nat} (h:j<xs.length):(xs.flatMap DT)[j*4]? =some (.sc (.int .i64 xs[j].limit)):=by
 have:=Aq (o:=0) Gp h (by omega)
 simpa[DT]using this
@[simp high] theorem Ar2 {xs:List EG} {j:Nat} (h:j<xs.length):(xs.flatMap DT)[j*4+1]? =some (.sl 0 1 xs[j].drops.length (ints xs[j].drops)):=by
 have:=Aq (o:=1) Gp h (by omega)
 simpa[DT]using this
@[simp high] theorem Ash {xs:List EG} {j:Nat} (h:j<xs.length):(xs.flatMap DT)[j*4+2]? =some (.sl 0 1 xs[j].strips.length (ints xs[j].strips)):=by
 have:=Aq (o:=2) Gp h (by omega)
 simpa[DT]using this
@[simp high] theorem Asn {xs:List EG} {j:Nat} (h:j<xs.length):(xs.flatMap DT)[j*4+3]? =some (.sc (.bool xs[j].lists)):=by
 have:=Aq (o:=3) Gp h (by omega)
 simpa[DT]using this
@[simp high] theorem ApI {xs:List BP} {j:Nat} (h:j<xs.length):(xs.flatMap AB)[j*5]? =some (.sc (.bool xs[j].deal.ok)):=by
 have:=Aq (o:=0) C9 h (by omega)
 simpa[AB]using this
@[simp high] theorem Ap9 {xs:List BP} {j:Nat} (h:j<xs.length):(xs.flatMap AB)[j*5+1]? =some (.sc (.int .i64 xs[j].deal.version)):=by
 have:=Aq (o:=1) C9 h (by omega)
 simpa[AB]using this
@[simp high] theorem ApM {xs:List BP} {j:Nat} (h:j<xs.length):(xs.flatMap AB)[j*5+2]? =some (.sl 0 1 xs[j].deal.tags.length (ints xs[j].deal.tags)):=by
 have:=Aq (o:=2) C9 h (by omega)
 simpa[AB]using this
@[simp high] theorem ApQ {xs:List BP} {j:Nat} (h:j<xs.length):(xs.flatMap AB)[j*5+3]? =some (.sc (.int .i64 xs[j].tries)):=by
 have:=Aq (o:=3) C9 h (by omega)
 simpa[AB]using this
@[simp high] theorem Ap4 {xs:List BP} {j:Nat} (h:j<xs.length):(xs.flatMap AB)[j*5+4]? =some (.sl 0 1 xs[j].up.length (ints xs[j].up)):=by
 have:=Aq (o:=4) C9 h (by omega)
 simpa[AB]using this
@[simp high] theorem Aol {xs:List Ai} {j:Nat} (h:j<xs.length):(xs.flatMap Ah)[j*4]? =some (.sl 0 1 xs[j].versions.length (ints xs[j].versions)):=by
 have:=Aq (o:=0) Dh h (by omega)
 simpa[Ah]using this
@[simp high] theorem Ao2 {xs:List Ai} {j:Nat} (h:j<xs.length):(xs.flatMap Ah)[j*4+1]? =some (.sl 0 1 xs[j].tags.length (ints xs[j].tags)):=by
 have:=Aq (o:=1) Dh h (by omega)
 simpa[Ah]using this
@[simp high] theorem An0 {xs:List Ai} {j:Nat} (h:j<xs.length):(xs.flatMap Ah)[j*4+2]? =some (.sl 0 4 xs[j].path.length (xs[j].path.flatMap DT)):=by
 have:=Aq (o:=2) Dh h (by omega)
 simpa[Ah]using this
@[simp high] theorem Apb {xs:List Ai} {j:Nat} (h:j<xs.length):(xs.flatMap Ah)[j*4+3]? =some (.sc (.int .i64 xs[j].cls)):=by
 have:=Aq (o:=3) Dh h (by omega)
 simpa[Ah]using this
@[simp high] theorem Aqm {xs:List Eo} {j:Nat} (h:j<xs.length):(xs.flatMap Az)[j*8]? =some (.sc (.int .i64 xs[j].fin)):=by
 have:=Aq (o:=0) Bh h (by omega)
 simpa[Az]using this
@[simp high] theorem Aqv {xs:List Eo} {j:Nat} (h:j<xs.length):(xs.flatMap Az)[j*8+1]? =some (.sc (.int .i64 xs[j].tick)):=by
 have:=Aq (o:=1) Bh h (by omega)
 simpa[Az]using this
@[simp high] theorem Aqr {xs:List Eo} {j:Nat} (h:j<xs.length):(xs.flatMap Az)[j*8+2]? =some (.sc (.bool xs[j].on)):=by
 have:=Aq (o:=2) Bh h (by omega)
 simpa[Az]using this
@[simp high] theorem ApD {xs:List Eo} {j:Nat} (h:j<xs.length):(xs.flatMap Az)[j*8+3]? =some (.sc (.bool xs[j].dialed.deal.ok)):=by
 have:=Aq (o:=3) Bh h (by omega)
 simpa[Az]using this
@[simp high] theorem AqM {xs:List Eo} {j:Nat} (h:j<xs.length):(xs.flatMap Az)[j*8+4]? =some (.sc (.int .i64 xs[j].dialed.deal.version)):=by
 have:=Aq (o:=4) Bh h (by omega)
 simpa[Az]using this
@[simp high] theorem Aqb {xs:List Eo} {j:Nat} (h:j<xs.length):(xs.flatMap Az)[j*8+5]? =some (.sl 0 1 xs[j].dialed.deal.tags.length (ints xs[j].dialed.deal.tags)):=by
 have:=Aq (o:=5) Bh h (by omega)
 simpa[Az]using this
@[simp high] theorem ApP {xs:List Eo} {j:Nat} (h:j<xs.length):(xs.flatMap Az)[j*8+6]? =some (.sc (.int .i64 xs[j].dialed.tries)):=by
 have:=Aq (o:=6) Bh h (by omega)
 simpa[Az]using this
@[simp high] theorem ApR {xs:List Eo} {j:Nat} (h:j<xs.length):(xs.flatMap Az)[j*8+7]? =some (.sl 0 1 xs[j].dialed.up.length (ints xs[j].dialed.up)):=by
 have:=Aq (o:=7) Bh h (by omega)
 simpa[Az]using this
@[simp high] theorem Arn {xs:List Event} {j:Nat} (h:j<xs.length):(xs.flatMap BJ)[j*6]? =some (.sc (.int .i64 xs[j].kind)):=by
 have:=Aq (o:=0) CS h (by omega)
 simpa[BJ]using this
@[simp high] theorem AqW {xs:List Event} {j:Nat} (h:j<xs.length):(xs.flatMap BJ)[j*6+1]? =some (.sc (.int .i64 xs[j].n)):=by
 have:=Aq (o:=1) CS h (by omega)
 simpa[BJ]using this
@[simp high] theorem AqX {xs:List Event} {j:Nat} (h:j<xs.length):(xs.flatMap BJ)[j*6+2]? =some (.sc (.int .i64 xs[j].box.limit)):=by
 have:=Aq (o:=2) CS h (by omega)
 simpa[BJ]using this
@[simp high] theorem Aq9 {xs:List Event} {j:Nat} (h:j<xs.length):(xs.flatMap BJ)[j*6+3]? =some (.sl 0 1 xs[j].box.drops.length (ints xs[j].box.drops)):=by
 have:=Aq (o:=3) CS h (by omega)
 simpa[BJ]using this
@[simp high] theorem Arf {xs:List Event} {j:Nat} (h:j<xs.length):(xs.flatMap BJ)[j*6+4]? =some (.sl 0 1 xs[j].box.strips.length (ints xs[j].box.strips)):=by
 have:=Aq (o:=4) CS h (by omega)
 simpa[BJ]using this
@[simp high] theorem Ari {xs:List Event} {j:Nat} (h:j<xs.length):(xs.flatMap BJ)[j*6+5]? =some (.sc (.bool xs[j].box.lists)):=by
 have:=Aq (o:=5) CS h (by omega)
 simpa[BJ]using this
theorem K8 {α:Type} {f:α->List V} {e:Nat} (hf:∀x,(f x).length=e) {xs:List α} {j o n:Nat} (h:j<xs.length) (ho:o+n<=e):ER (xs.flatMap f) (j*e+o) n=some (((f xs[j]).drop o).take n):=by
 unfold ER
 have hl:=Iq hf xs
 have h2:j*e+e<=xs.length*e:=by
  have:=Nat.mul_le_mul_right e (show j+1<=xs.length by omega)
  rw[Nat.add_mul]at this;omega
 rw[hl,if_pos (by omega),<-List.drop_drop,RA hf,List.drop_eq_getElem_cons h,List.flatMap_cons,List.drop_append,List.take_append]
 have h3:=hf xs[j]
 rw[List.length_drop,h3]
 have:n-(e-o)=0:=by omega
 rw[this,List.take_zero,List.append_nil]
@[simp high] theorem ApN {xs:List Eo} {j:Nat} (h:j<xs.length):ER (xs.flatMap Az) (j*8+3) 5=some (AB xs[j].dialed):=K8 Bh h (by omega)
@[simp high] theorem AqS {xs:List Eo} {j:Nat} (h:j<xs.length):ER (xs.flatMap Az) (j*8+3) 3=some (AfJ xs[j].dialed.deal):=K8 Bh h (by omega)
@[simp high] theorem ApF {xs:List BP} {j:Nat} (h:j<xs.length):ER (xs.flatMap AB) (j*5) 3=some (AfJ xs[j].deal):=K8 (o:=0) C9 h (by omega)
@[simp high] theorem Aq5 {xs:List Event} {j:Nat} (h:j<xs.length):ER (xs.flatMap BJ) (j*6+2) 4=some (DT xs[j].box):=K8 CS h (by omega)
attribute [simp] Nat.add_one_le_iff AfJ DT AB Dj Ah Az Bu BJ
variable (R:Rel)
abbrev Vf:Prop:=∀a b c:Int,R [I a,I b,I c] [] (B (decide (b<=a/\a<=c))) []
variable (D:Dn)
theorem Aqt:Vf (Body D TW):=by
 intro a b c
 by_cases h1:b<=a<;>by_cases h2:a<=c<;>simp -implicitDefEqProofs [h1,h2]
theorem AIX:Vf (Body D AwZ):=by
 intro a b c
 by_cases h1:b<=a<;>by_cases h2:a<=c<;>simp -implicitDefEqProofs [h1,h2]
def APB:List (List UInt8):=[[],[100,105,97,108],[115,116,97,114,116],[115,116,97,103,101],[114,101,116,105,114,101],[114,101,118,105,118,101],[98,111,120],[99,108,101,97,114],[116,105,99,107]]
def ALe (k:Int):ByteArray:=if 1<=k/\k<=8 then⟨(APB.getD k.toNat []).toArray⟩else⟨#[]⟩
theorem APE {k:Int} (h:1<=k/\k<=8):k=1∨k=2∨k=3∨k=4∨k=5∨k=6∨k=7∨k=8:=by omega
abbrev AMm:Prop:=∀k:Int,R [I k] [] (S (ALe k)) []
theorem AOu (hIn:Vf (D 71)):AMm (Body D ALj):=by
 intro k
 simp -implicitDefEqProofs
 refine Aa (hIn _ _ _) ?_
 by_cases h:1<=k/\k<=8
 ·rcases APE h with rfl | rfl | rfl | rfl | rfl | rfl | rfl | rfl<;>simp -implicitDefEqProofs [ALe]<;>rfl
 ·simp -implicitDefEqProofs [h,ALe]
def nums:Nat->Int->List Int
 | 0,_=> []
 | n+1,k=>k::nums n (k+1)
@[simp] theorem AnC:∀(n:Nat) (k:Int),(nums n k).length=n
 | 0,_=>rfl
 | n+1,k=>by simp[nums,AnC n]
def mkL {α:Type} (mc:α->Nat) (mk:α->Int->α):List α->Int->List α
 | [],_=> []
 | x::r,k=>mk x k::mkL mc mk r (k+mc x)
section
variable {α:Type} {mc:α->Nat} {mk:α->Int->α}
@[simp] theorem Ao6:∀(xs:List α) (k:Int),(mkL mc mk xs k).length=xs.length
 | [],_=>rfl
 | x::r,k=>by simp[mkL,Ao6 r]
def mkJ (mc:α->Nat) (mk:α->Int->α) (xs:List α) (k:Int) (j:Nat):List α:=mkL mc mk (xs.take j) k++xs.drop j
@[simp] theorem Asj {xs:List α} {k:Int} {j:Nat} (h:j<=xs.length):(mkJ mc mk xs k j).length=xs.length:=by simp[mkJ];omega
end
theorem BA {α:Type} {f:α->List V} {e:Nat} (hf:∀x,(f x).length=e) {o:Nat} (ho:o<e) {v:V} {y:α}:∀ {xs:List α} {j:Nat} (h:j<xs.length),f y=(f xs[j]).set o v->(xs.flatMap f).set (j*e+o) v=(xs.set j y).flatMap f
 | [],j,h,_=>by simp at h
 | x::xs,0,_,hy=>by
  simp only[List.flatMap_cons,List.set_cons_zero,Nat.zero_mul,Nat.zero_add]
  rw[List.set_append_left _ _ (by rw[hf];exact ho),hy]
  rfl
 | x::xs,j+1,h,hy=>by
  simp only[List.flatMap_cons,List.set_cons_succ]
  have e1:(j+1)*e+o=(f x).length+(j*e+o):=by rw[hf,Nat.add_mul];omega
  rw[e1,List.set_append_right _ _ (by omega),Nat.add_sub_cancel_left,BA hf ho (by simpa using h) (by simpa using hy)]
@[simp high] theorem Ase {xs:List EG} {j:Nat} (h:j<xs.length) (a:Int):(xs.flatMap DT).set (j*4) (.sc (.int .i64 a))=(xs.set j ⟨a,xs[j].drops,xs[j].strips,xs[j].lists⟩).flatMap DT:=BA (o:=0) Gp (by omega) h rfl
@[simp high] theorem Asd {xs:List EG} {j:Nat} (h:j<xs.length) {n:Nat} (a:List Int) (hn:n=a.length):(xs.flatMap DT).set (j*4+1) (.sl 0 1 n (ints a))=(xs.set j ⟨xs[j].limit,a,xs[j].strips,xs[j].lists⟩).flatMap DT:=by subst hn;exact BA (o:=1) Gp (by omega) h rfl
@[simp high] theorem ArW {xs:List EG} {j:Nat} (h:j<xs.length) {n:Nat} (a:List Int) (hn:n=a.length):(xs.flatMap DT).set (j*4+2) (.sl 0 1 n (ints a))=(xs.set j ⟨xs[j].limit,xs[j].drops,a,xs[j].lists⟩).flatMap DT:=by subst hn;exact BA (o:=2) Gp (by omega) h rfl
@[simp high] theorem Asg {xs:List EG} {j:Nat} (h:j<xs.length) (a:Bool):(xs.flatMap DT).set (j*4+3) (.sc (.bool a))=(xs.set j ⟨xs[j].limit,xs[j].drops,xs[j].strips,a⟩).flatMap DT:=BA (o:=3) Gp (by omega) h rfl
@[simp high] theorem Aqi {xs:List BP} {j:Nat} (h:j<xs.length) (a:Bool):(xs.flatMap AB).set (j*5) (.sc (.bool a))=(xs.set j ⟨⟨a,xs[j].deal.version,xs[j].deal.tags⟩,xs[j].tries,xs[j].up⟩).flatMap AB:=BA (o:=0) C9 (by omega) h rfl
@[simp high] theorem ApS {xs:List BP} {j:Nat} (h:j<xs.length) (a:Int):(xs.flatMap AB).set (j*5+1) (.sc (.int .i64 a))=(xs.set j ⟨⟨xs[j].deal.ok,a,xs[j].deal.tags⟩,xs[j].tries,xs[j].up⟩).flatMap AB:=BA (o:=1) C9 (by omega) h rfl
@[simp high] theorem AqI {xs:List BP} {j:Nat} (h:j<xs.length) {n:Nat} (a:List Int) (hn:n=a.length):(xs.flatMap AB).set (j*5+2) (.sl 0 1 n (ints a))=(xs.set j ⟨⟨xs[j].deal.ok,xs[j].deal.version,a⟩,xs[j].tries,xs[j].up⟩).flatMap AB:=by subst hn;exact BA (o:=2) C9 (by omega) h rfl
@[simp high] theorem ApO {xs:List BP} {j:Nat} (h:j<xs.length) (a:Int):(xs.flatMap AB).set (j*5+3) (.sc (.int .i64 a))=(xs.set j ⟨⟨xs[j].deal.ok,xs[j].deal.version,xs[j].deal.tags⟩,a,xs[j].up⟩).flatMap AB:=BA (o:=3) C9 (by omega) h rfl
@[simp high] theorem Aqh {xs:List BP} {j:Nat} (h:j<xs.length) {n:Nat} (a:List Int) (hn:n=a.length):(xs.flatMap AB).set (j*5+4) (.sl 0 1 n (ints a))=(xs.set j ⟨⟨xs[j].deal.ok,xs[j].deal.version,xs[j].deal.tags⟩,xs[j].tries,a⟩).flatMap AB:=by subst hn;exact BA (o:=4) C9 (by omega) h rfl
@[simp high] theorem Aof {xs:List Ai} {j:Nat} (h:j<xs.length) {n:Nat} (a:List Int) (hn:n=a.length):(xs.flatMap Ah).set (j*4) (.sl 0 1 n (ints a))=(xs.set j ⟨a,xs[j].tags,xs[j].path,xs[j].cls⟩).flatMap Ah:=by subst hn;exact BA (o:=0) Dh (by omega) h rfl
@[simp high] theorem Apf {xs:List Ai} {j:Nat} (h:j<xs.length) {n:Nat} (a:List Int) (hn:n=a.length):(xs.flatMap Ah).set (j*4+1) (.sl 0 1 n (ints a))=(xs.set j ⟨xs[j].versions,a,xs[j].path,xs[j].cls⟩).flatMap Ah:=by subst hn;exact BA (o:=1) Dh (by omega) h rfl
@[simp high] theorem VN {xs:List Ai} {j:Nat} (h:j<xs.length) {n:Nat} (a:List EG) (hn:n=a.length):(xs.flatMap Ah).set (j*4+2) (.sl 0 4 n (a.flatMap DT))=(xs.set j ⟨xs[j].versions,xs[j].tags,a,xs[j].cls⟩).flatMap Ah:=by subst hn;exact BA (o:=2) Dh (by omega) h rfl
@[simp high] theorem Aos {xs:List Ai} {j:Nat} (h:j<xs.length) (a:Int):(xs.flatMap Ah).set (j*4+3) (.sc (.int .i64 a))=(xs.set j ⟨xs[j].versions,xs[j].tags,xs[j].path,a⟩).flatMap Ah:=BA (o:=3) Dh (by omega) h rfl
@[simp high] theorem Aqp {xs:List Eo} {j:Nat} (h:j<xs.length) (a:Int):(xs.flatMap Az).set (j*8) (.sc (.int .i64 a))=(xs.set j ⟨a,xs[j].tick,xs[j].on,⟨⟨xs[j].dialed.deal.ok,xs[j].dialed.deal.version,xs[j].dialed.deal.tags⟩,xs[j].dialed.tries,xs[j].dialed.up⟩⟩).flatMap Az:=BA (o:=0) Bh (by omega) h rfl
@[simp high] theorem AqG {xs:List Eo} {j:Nat} (h:j<xs.length) (a:Int):(xs.flatMap Az).set (j*8+1) (.sc (.int .i64 a))=(xs.set j ⟨xs[j].fin,a,xs[j].on,⟨⟨xs[j].dialed.deal.ok,xs[j].dialed.deal.version,xs[j].dialed.deal.tags⟩,xs[j].dialed.tries,xs[j].dialed.up⟩⟩).flatMap Az:=BA (o:=1) Bh (by omega) h rfl
@[simp high] theorem ApL {xs:List Eo} {j:Nat} (h:j<xs.length) (a:Bool):(xs.flatMap Az).set (j*8+2) (.sc (.bool a))=(xs.set j ⟨xs[j].fin,xs[j].tick,a,⟨⟨xs[j].dialed.deal.ok,xs[j].dialed.deal.version,xs[j].dialed.deal.tags⟩,xs[j].dialed.tries,xs[j].dialed.up⟩⟩).flatMap Az:=BA (o:=2) Bh (by omega) h rfl
@[simp high] theorem ApK {xs:List Eo} {j:Nat} (h:j<xs.length) (a:Bool):(xs.flatMap Az).set (j*8+3) (.sc (.bool a))=(xs.set j ⟨xs[j].fin,xs[j].tick,xs[j].on,⟨⟨a,xs[j].dialed.deal.version,xs[j].dialed.deal.tags⟩,xs[j].dialed.tries,xs[j].dialed.up⟩⟩).flatMap Az:=BA (o:=3) Bh (by omega) h rfl
@[simp high] theorem AqR {xs:List Eo} {j:Nat} (h:j<xs.length) (a:Int):(xs.flatMap Az).set (j*8+4) (.sc (.int .i64 a))=(xs.set j ⟨xs[j].fin,xs[j].tick,xs[j].on,⟨⟨xs[j].dialed.deal.ok,a,xs[j].dialed.deal.tags⟩,xs[j].dialed.tries,xs[j].dialed.up⟩⟩).flatMap Az:=BA (o:=4) Bh (by omega) h rfl
@[simp high] theorem Ap8 {xs:List Eo} {j:Nat} (h:j<xs.length) {n:Nat} (a:List Int) (hn:n=a.length):(xs.flatMap Az).set (j*8+5) (.sl 0 1 n (ints a))=(xs.set j ⟨xs[j].fin,xs[j].tick,xs[j].on,⟨⟨xs[j].dialed.deal.ok,xs[j].dialed.deal.version,a⟩,xs[j].dialed.tries,xs[j].dialed.up⟩⟩).flatMap Az:=by subst hn;exact BA (o:=5) Bh (by omega) h rfl
@[simp high] theorem ApU {xs:List Eo} {j:Nat} (h:j<xs.length) (a:Int):(xs.flatMap Az).set (j*8+6) (.sc (.int .i64 a))=(xs.set j ⟨xs[j].fin,xs[j].tick,xs[j].on,⟨⟨xs[j].dialed.deal.ok,xs[j].dialed.deal.version,xs[j].dialed.deal.tags⟩,a,xs[j].dialed.up⟩⟩).flatMap Az:=BA (o:=6) Bh (by omega) h rfl
@[simp high] theorem Aqy {xs:List Eo} {j:Nat} (h:j<xs.length) {n:Nat} (a:List Int) (hn:n=a.length):(xs.flatMap Az).set (j*8+7) (.sl 0 1 n (ints a))=(xs.set j ⟨xs[j].fin,xs[j].tick,xs[j].on,⟨⟨xs[j].dialed.deal.ok,xs[j].dialed.deal.version,xs[j].dialed.deal.tags⟩,xs[j].dialed.tries,a⟩⟩).flatMap Az:=by subst hn;exact BA (o:=7) Bh (by omega) h rfl
@[simp high] theorem AqV {xs:List Event} {j:Nat} (h:j<xs.length) (a:Int):(xs.flatMap BJ).set (j*6) (.sc (.int .i64 a))=(xs.set j ⟨a,xs[j].n,⟨xs[j].box.limit,xs[j].box.drops,xs[j].box.strips,xs[j].box.lists⟩⟩).flatMap BJ:=BA (o:=0) CS (by omega) h rfl
@[simp high] theorem Arl {xs:List Event} {j:Nat} (h:j<xs.length) (a:Int):(xs.flatMap BJ).set (j*6+1) (.sc (.int .i64 a))=(xs.set j ⟨xs[j].kind,a,⟨xs[j].box.limit,xs[j].box.drops,xs[j].box.strips,xs[j].box.lists⟩⟩).flatMap BJ:=BA (o:=1) CS (by omega) h rfl
@[simp high] theorem Arp {xs:List Event} {j:Nat} (h:j<xs.length) (a:Int):(xs.flatMap BJ).set (j*6+2) (.sc (.int .i64 a))=(xs.set j ⟨xs[j].kind,xs[j].n,⟨a,xs[j].box.drops,xs[j].box.strips,xs[j].box.lists⟩⟩).flatMap BJ:=BA (o:=2) CS (by omega) h rfl
@[simp high] theorem Arm {xs:List Event} {j:Nat} (h:j<xs.length) {n:Nat} (a:List Int) (hn:n=a.length):(xs.flatMap BJ).set (j*6+3) (.sl 0 1 n (ints a))=(xs.set j ⟨xs[j].kind,xs[j].n,⟨xs[j].box.limit,a,xs[j].box.strips,xs[j].box.lists⟩⟩).flatMap BJ:=by subst hn;exact BA (o:=3) CS (by omega) h rfl
@[simp high] theorem Aq1 {xs:List Event} {j:Nat} (h:j<xs.length) {n:Nat} (a:List Int) (hn:n=a.length):(xs.flatMap BJ).set (j*6+4) (.sl 0 1 n (ints a))=(xs.set j ⟨xs[j].kind,xs[j].n,⟨xs[j].box.limit,xs[j].box.drops,a,xs[j].box.lists⟩⟩).flatMap BJ:=by subst hn;exact BA (o:=4) CS (by omega) h rfl
@[simp high] theorem Arj {xs:List Event} {j:Nat} (h:j<xs.length) (a:Bool):(xs.flatMap BJ).set (j*6+5) (.sc (.bool a))=(xs.set j ⟨xs[j].kind,xs[j].n,⟨xs[j].box.limit,xs[j].box.drops,xs[j].box.strips,a⟩⟩).flatMap BJ:=BA (o:=5) CS (by omega) h rfl
def AB5 (i:Nat):Ai:=⟨[1,2],[1,40],if i=1 then [⟨2,[],[],false⟩]else if i=2 then [⟨0,[],[],true⟩]else [],(i:Int).tmod 6⟩
def AqH (n:Int):List Ai:=if 1<=n/\n<=6 then(List.range n.toNat).map AB5 else []
theorem AGx (j:Nat):(List.range j).map AB5++ [AB5 j]=(List.range (j+1)).map AB5:=by rw[List.range_succ,List.map_append];rfl
abbrev Aud:Prop:=∀n:Int,R [I n] [] (.sl 0 4 (AqH n).length ((AqH n).flatMap Ah)) []
theorem ANN:Aud (Body D AIJ):=by
 intro n
 obtain⟨N,hN,hN2,hE⟩:∃N:Nat,(∀j:Nat,((j:Int)<n/\n<=6)↔j<N)/\N<=6/\AqH n=(List.range N).map AB5:=by
  by_cases h:1<=n/\n<=6
  ·exact⟨n.toNat,fun j=>by omega,by omega,by unfold AqH;rw[if_pos h]⟩
  ·exact⟨0,fun j=>by omega,by omega,by unfold AqH;rw[if_neg h];rfl⟩
 rw[hE]
 simp -implicitDefEqProofs
 refine Ag (fun k s=>∃j o1 o2 o3 o4 o5 o6 o7 o8,j+k=N/\s=⟨[.sc (.int .i64 n),.undef,.arr 9,.sc (.int .i64 j),.undef,.undef,.undef,.undef,.undef],[.free,o1,o2,o3,o4,o5,o6,o7,o8,.arr 4 0 j (((List.range j).map AB5).flatMap Ah)]⟩) ?_ N _ ⟨0,.free,.free,.free,.free,.free,.free,.free,.free,by simp,by simp⟩
 intro k s ⟨j,o1,o2,o3,o4,o5,o6,o7,o8,hj,hs⟩
 subst hs
 by_cases hjn:j<N
 ·have hw:=Cv (j:=j) (by omega)
  obtain⟨h1,h2⟩:=(hN j).2 hjn
  have hb:(j+1)*80<=1099511627776:=by omega
  have hst:=AGx j
  by_cases j1:j=1
  ·subst j1
   have h1':1<n:=by simpa using h1
   simp -implicitDefEqProofs [h1',h2,hb]
   exact⟨k-1,by omega,2,by omega,Ad (by omega) (by omega),rfl,rfl⟩
  ·by_cases j2:j=2
   ·subst j2
    have h1':2<n:=by simpa using h1
    simp -implicitDefEqProofs [h1',h2,hb]
    exact⟨k-1,by omega,3,by omega,Ad (by omega) (by omega),rfl,rfl⟩
   ·have e1:¬(j:Int)=1:=by omega
    have e2:¬(j:Int)=2:=by omega
    have hx:Ah (AB5 j)=[.sl 0 1 2 [I 1,I 2],.sl 0 1 2 [I 1,I 40],.sl 0 4 0 [],I ((j:Int).tmod 6)]:=by unfold AB5;rw[if_neg j1,if_neg j2];rfl
    simp -implicitDefEqProofs [h1,h2,hb,e1,e2]
    exact⟨k-1,by omega,j+1,by omega,by simp[hw],rfl,by rw[<-hst,List.flatMap_append,List.flatMap_cons,List.flatMap_nil,List.append_nil,hx]⟩
 ·have h:¬((j:Int)<n/\n<=6):=fun h=>hjn ((hN j).1 h)
  obtain rfl:j=N:=by omega
  by_cases h1:(j:Int)<n
  ·have h2:¬n<=6:=fun h'=>h ⟨h1,h'⟩
   simp -implicitDefEqProofs [h1,h2]
  ·simp -implicitDefEqProofs [h1]
theorem AD0 (hI:Vf (D 114)):Aud (Body D Auk):=by
 intro n
 simp -implicitDefEqProofs
 refine Aa (hI _ _ _) ?_
 by_cases h:1<=n/\n<=6
 rotate_left
 ·have he:AqH n=[]:=by unfold AqH;rw[if_neg h]
  simp -implicitDefEqProofs [h,he]
 obtain⟨N,rfl⟩:∃N:Nat,n=N:=⟨n.toNat,by omega⟩
 have hE:AqH N=(List.range N).map AB5:=by unfold AqH;rw[if_pos h];simp
 rw[hE]
 simp -implicitDefEqProofs [h]
 refine Ag (fun k s=>∃j o1 o2 o3 o4 o5 o6 o7 o8,j+k=N/\s=⟨[.undef,.undef,.arr 9,.undef,.undef,.undef,.sc (.int .i64 N),.sc (.int .i64 j),.undef,.undef,.undef,.undef],[.free,o1,o2,o3,o4,o5,o6,o7,o8,.arr 4 0 j (((List.range j).map AB5).flatMap Ah)]⟩) ?_ N _ ⟨0,.free,.free,.free,.free,.free,.free,.free,.free,by simp,by simp⟩
 intro k s ⟨j,o1,o2,o3,o4,o5,o6,o7,o8,hj,hs⟩
 subst hs
 by_cases hjn:j<N
 ·have hw:=Cv (j:=j) (by omega)
  have hb:(j+1)*80<=1099511627776:=by omega
  have hst:=AGx j
  by_cases j1:j=1
  ·subst j1
   have h1':(1:Int)<(N:Int):=by omega
   simp -implicitDefEqProofs [hjn,h1',hb]
   exact⟨k-1,by omega,2,by omega,Ad (by omega) (by omega),rfl,rfl⟩
  ·by_cases j2:j=2
   ·subst j2
    have h1':(2:Int)<(N:Int):=by omega
    simp -implicitDefEqProofs [hjn,h1',hb]
    exact⟨k-1,by omega,3,by omega,Ad (by omega) (by omega),rfl,rfl⟩
   ·have e1:¬(j:Int)=1:=by omega
    have e2:¬(j:Int)=2:=by omega
    have hx:Ah (AB5 j)=[.sl 0 1 2 [I 1,I 2],.sl 0 1 2 [I 1,I 40],.sl 0 4 0 [],I ((j:Int).tmod 6)]:=by unfold AB5;rw[if_neg j1,if_neg j2];rfl
    simp -implicitDefEqProofs [hjn,hb,e1,e2]
    exact⟨k-1,by omega,j+1,by omega,by simp[hw],rfl,by rw[<-hst,List.flatMap_append,List.flatMap_cons,List.flatMap_nil,List.append_nil,hx]⟩
 ·obtain rfl:j=N:=by omega
  simp -implicitDefEqProofs [hjn]
def Py (n:Int):Prop:= -9223372036854775808<=n/\n<=9223372036854775807
theorem AP5 {cs:List V} (h:Dat .str cs):∃s:ByteArray,cs=[.sc (.string s)]/\s.size<=maxLen:=by
 simp only[Dat]at h
 obtain⟨n,h1,h2⟩:=h
 exact⟨n,h2,h1⟩
def DK (xs:List Int):Prop:=∀x,x∈xs->Py x
def AK9 (d:Aaf):Prop:=Py d.version/\DK d.tags
def AyE (d:BP):Prop:=AK9 d.deal/\Py d.tries/\DK d.up
theorem AP6 {v:V} (h:APy .str v):∃s:ByteArray,v=S s/\s.size<=maxLen:=by
 obtain⟨c,hd,rfl⟩:=h
 obtain⟨n,e,w⟩:=AP5 hd
 cases e
 exact⟨n,rfl,w⟩
theorem Akl {w:World} (h:Af w<=4194304):w.log.length<=4194304:=by have:=J9 (f:=Ip) (xs:=w.log);unfold Af at h;omega
theorem FE {w:World} (h:Af w<=4194304):w.ends.length<=4194304:=by have:=J9 (f:=Am) (xs:=w.ends);unfold Af at h;omega
theorem XY {w:World} (h:Af w<=4194304):w.stage.length<=4194304:=by have:=J9 (f:=Cb) (xs:=w.stage);unfold Af at h;omega
theorem Aqs (a b:Int):(a==b)=decide (a=b):=by by_cases h:a=b<;>simp[h]
open Go.Lib
set_option maxRecDepth 20000
set_option maxHeartbeats 1000000
def Ww (l:List UInt8):ByteArray:=⟨l.toArray⟩
@[simp] theorem ArQ (l:List UInt8):(Ww l).size=l.length:=by simp[Ww,ByteArray.size]
@[simp] theorem Ar6 (a b:List UInt8):Ww a++Ww b=Ww (a++b):=by
 apply ByteArray.ext
 simp[Ww]
@[simp] theorem Ar3 (l:List UInt8):ByteArray.mk l.toArray=Ww l:=rfl
@[simp] theorem Ar1:ByteArray.mk #[]=Ww []:=rfl
abbrev Sb (l:List UInt8):V:= .sc (.string (Ww l))
def strs (ls:List (List UInt8)):List V:=ls.map fun l=>Sb l
@[simp high] theorem ArP (xs:List (List UInt8)):(strs xs).length=xs.length:=by simp[strs]
@[simp] theorem ArC:strs []=[]:=rfl
@[simp] theorem ArX (xs:List (List UInt8)) (k:Nat):(strs xs).map (AO k)=strs xs:=by simp[strs,Function.comp_def,AO]
@[simp] theorem Arr (xs:List (List UInt8)) (l:List UInt8):strs xs++ [V.sc (.string (Ww l))]=strs (xs++ [l]):=by simp[strs]
theorem E5 {n:Int} (h:Py n):(itoa n).length<=20:=by
 have key:∀u:Nat,u<=9223372036854775808->(decDigits u).length<=19:=by
  intro u hu
  rw[decDigits_length]
  by_cases h0:nDigits u<=19
  ·exact h0
  have h1:¬u<10:=by intro h2;rw[nDigits_small h2]at h0;omega
  have h2:=nDigits_unique 18 u
  by_cases h3:10 ^ 18<=u
  ·have:=h2 h3 (by omega);omega
  ·have h4:∀k,∀v:Nat,v<10 ^ (k+1)->nDigits v<=k+1:=by
    intro k
    induction k with
    | zero=>intro v hv;rw[nDigits_small (by omega)];omega
    | succ k ih=>
     intro v hv
     by_cases h5:v<10
     ·rw[nDigits_small h5];omega
     ·rw[nDigits_big h5]
      have:=ih (v / 10) (by rw[Nat.pow_succ]at hv;omega)
      omega
   have:=h4 17 u (by omega)
   omega
 unfold Py at h
 unfold itoa
 split
 ·have:=key n.natAbs (by omega)
  simp only[List.length_cons];omega
 ·have:=key n.toNat (by omega)
  omega
abbrev EB:Prop:=∀n:Int,Py n->R [I n] [] (Sb (itoa n)) []
abbrev Ane:Prop:=∀(ls:List (List UInt8)) (sep:List UInt8),ls.length<=4194304->(join ls sep).length<=140737488355328->R [.sl 1 1 ls.length (strs ls),Sb sep] [] (Sb (join ls sep)) []
theorem AeF (hA:EB (D 185)):EB (Body D KX):=by
 intro n h
 simp -implicitDefEqProofs
 refine Aa (hA n h) ?_
 simp -implicitDefEqProofs
theorem AjZ {u:Nat} (h:¬u<10):decDigits u=decDigits (u / 10)++ [UInt8.ofNat (48+u % 10)]:=by
 rw[decDigits,dif_neg h]
theorem AOJ (x:Int):(x.tdiv 10).natAbs=x.natAbs / 10:=by
 rw[Int.natAbs_tdiv];rfl
theorem AOO (x:Int):(x.tmod 10).natAbs=x.natAbs % 10:=by
 rw[Int.natAbs_tmod];rfl
theorem AOy:EB (Body D ALC):=by
 intro n h
 have hlen:=E5 h
 unfold Py at h
 by_cases h0:n=0
 ·subst h0
  have e:itoa 0=[48]:=by unfold itoa decDigits;rfl
  simp -implicitDefEqProofs [e]
 have hmain:(decDigits n.natAbs).length<=20:=by
  unfold itoa at hlen
  split at hlen
  ·simp only[List.length_cons]at hlen;omega
  ·rw[show n.natAbs=n.toNat by omega];exact hlen
 simp -implicitDefEqProofs [h0]
 refine Ag (fun k st=>∃(x:Int) (s:List UInt8) (o:O),k=x.natAbs/\x.natAbs<=n.natAbs/\Py x/\(x=0->s=decDigits n.natAbs)/\(x≠0->decDigits n.natAbs=decDigits x.natAbs++s)/\st=⟨[I n,.undef,Sb s,I x,.undef,.undef,.undef,.undef,.undef],[o]⟩) ?_ n.natAbs _ ⟨n,[],.free,rfl,Nat.le_refl _,h,fun e=>absurd e h0,fun _=>by simp,by simp⟩
 intro k st ⟨x,s,o,hk,hxn,hx,hz,hnz,hs⟩
 subst hs
 unfold Py at hx
 by_cases hx0:x=0
 ·have e:=hz hx0
  subst hx0
  by_cases hneg:n<0
  ·have e2:itoa n=[45]++s:=by unfold itoa;rw[if_pos hneg,e];rfl
   have hb:1+s.length<=1099511627776:=by rw[e];omega
   simp -implicitDefEqProofs [hneg,e2,hb]
  ·have e2:itoa n=s:=by unfold itoa;rw[if_neg hneg,e];rw[show n.natAbs=n.toNat by omega]
   simp -implicitDefEqProofs [hneg,e2]
 have e:=hnz hx0
 have hsl:s.length<=20:=by rw[e]at hmain;simp at hmain;omega
 have hd:=AOO x
 have hq:=AOJ x
 have hwq:IntKind.i64.wrap (x.tdiv 10)=x.tdiv 10:=Ad (by omega) (by omega)
 have hlt:x.natAbs % 10<10:=Nat.mod_lt _ (by omega)
 have hs1:∀d:Nat,d<10->IntKind.i64.wrap (48+(d:Int))=48+(d:Int):=fun d hd=>Ad (by omega) (by omega)
 have hs2:∀d:Nat,d<10->IntKind.u8.wrap (48+(d:Int))=48+(d:Int):=fun d hd=>by
  show(if(false&&decide ((48+(d:Int)) % (2 ^ 8:Int)>=(2 ^ 7:Int)))=true then(48+(d:Int)) % (2 ^ 8:Int)-(2 ^ 8:Int)else(48+(d:Int)) % (2 ^ 8:Int))=_
  rw[if_neg (by simp)];omega
 have hb:1+s.length<=1099511627776:=by omega
 have fin:∀s':List UInt8,s' =UInt8.ofNat (48+x.natAbs % 10)::s->((x.tdiv 10).natAbs<x.natAbs/\(x.tdiv 10).natAbs<=n.natAbs/\Py (x.tdiv 10)/\(x.tdiv 10=0->s' =decDigits n.natAbs)/\(x.tdiv 10≠0->decDigits n.natAbs=decDigits (x.tdiv 10).natAbs++s')):=by
  intro s' hs'
  subst hs'
  refine⟨by omega,by omega,by unfold Py;omega,fun h1=> ?_,fun h1=> ?_⟩
  ·have h2:x.natAbs<10:=by omega
   rw[e,decDigits_one h2,Nat.mod_eq_of_lt h2];rfl
  ·have h2:¬x.natAbs<10:=by omega
   rw[e,AjZ h2,hq];simp
 by_cases hneg:x.tmod 10<0
 ·have hd2:x.tmod 10= -((x.natAbs % 10:Nat):Int):=by omega
  have hwn:IntKind.i64.wrap (-x.tmod 10)=((x.natAbs % 10:Nat):Int):=by rw[hd2,Ad (by omega) (by omega)];omega
  obtain⟨d,hdd⟩:∃d,d=x.natAbs % 10:=⟨_,rfl⟩
  rw[<-hdd]at hwn hlt fin
  simp -implicitDefEqProofs [hx0,hneg,hwn,hs1 d hlt,hs2 d hlt,hb,hwq,AmL,content,Km,Aex]
  obtain⟨f1,f2,f3,f4,f5⟩:=fin _ rfl
  exact⟨(x.tdiv 10).natAbs,by omega,x.tdiv 10,rfl,f2,f3,_,f4,f5,by rw[show(48+(d:Int)).toNat=48+d by omega],rfl⟩
 ·have hd2:x.tmod 10=((x.natAbs % 10:Nat):Int):=by omega
  obtain⟨d,hdd⟩:∃d,d=x.natAbs % 10:=⟨_,rfl⟩
  rw[<-hdd]at hd2 hlt fin
  rw[hd2]at hneg
  simp -implicitDefEqProofs [hx0,hneg,hd2,hs1 d hlt,hs2 d hlt,hb,hwq,AmL,content,Km,Aex]
  obtain⟨f1,f2,f3,f4,f5⟩:=fin _ rfl
  exact⟨(x.tdiv 10).natAbs,by omega,x.tdiv 10,rfl,f2,f3,_,f4,f5,by rw[show(48+(d:Int)).toNat=48+d by omega],rfl⟩
def Hf (xs:List Int) (sep:List UInt8):List UInt8:=join (xs.map itoa) sep
theorem Akb (x:List UInt8) (r:List (List UInt8)) (y sep:List UInt8):join (x::r++ [y]) sep=join (x::r) sep++sep++y:=by
 rw[List.cons_append,join_cons,join_cons]
 simp[joinTail]
theorem Ai2 {xs:List Int} {sep:List UInt8} {j:Nat} (h:j<xs.length):Hf (xs.take (j+1)) sep=(if j=0 then []else Hf (xs.take j) sep++sep)++itoa xs[j]:=by
 have e:xs.take (j+1)=xs.take j++ [xs[j]]:=by simp
 unfold Hf
 rw[e,List.map_append]
 by_cases h0:j=0
 ·subst h0;simp[join_one]
 ·rw[if_neg h0]
  cases hx:xs.take j with
  | nil=>exact absurd (congrArg List.length hx) (by rw[List.length_take];simp only[List.length_nil];omega)
  | cons a r=>exact Akb _ _ _ _
theorem F9 {xs:List Int} {sep:List UInt8} (hr:DK xs) (hs:sep.length<=1):(Hf xs sep).length<=21*xs.length:=by
 have key:∀n,n<=xs.length->(Hf (xs.take n) sep).length<=21*n:=by
  intro n
  induction n with
  | zero=>intro _;simp[Hf,join_nil]
  | succ n ih=>
   intro h
   have h1:=ih (by omega)
   have h2:=E5 (hr xs[n] (by simp))
   rw[Ai2 (by omega)]
   split
   ·simp;omega
   ·simp;omega
 have:=key xs.length (Nat.le_refl _)
 rwa [List.take_length]at this
theorem APH {xs:List Int} {j:Nat} (h:DK xs):DK (xs.take j):=fun x hx=>h x (List.mem_of_mem_take hx)
abbrev MJ:Prop:=∀(xs:List Int) (sep:List UInt8),xs.length<=4194304->DK xs->sep.length<=1->R [.sl 1 1 xs.length (ints xs),Sb sep] [] (Sb (Hf xs sep)) []
theorem APa (hF:EB (D 93)):MJ (Body D AMd):=by
 intro xs sep hl hr hs
 simp -implicitDefEqProofs
 refine Ag (fun k st=>∃j,j+k=xs.length/\st=⟨[.sl 1 1 xs.length (ints xs),Sb sep,.undef,Sb (Hf (xs.take j) sep),.sc (.int .i64 j),.undef,.undef],[]⟩) ?_ xs.length _ ⟨0,by simp,by simp[Hf,join_nil]⟩
 intro k st ⟨j,hj,hst⟩
 subst hst
 by_cases hjn:j<xs.length
 ·have hw:=Cv (j:=j) (by omega)
  have hstep:=Ai2 (sep:=sep) hjn
  have h1:=F9 (APH (j:=j) hr) hs
  have h3:(xs.take j).length<=j:=by simp;omega
  have h2:=E5 (hr xs[j] (by simp))
  have b1:(Hf (xs.take j) sep).length+sep.length<=1099511627776:=by omega
  by_cases h0:j=0
  ·subst h0
   rw[if_pos rfl]at hstep
   have b2:(Hf [] sep).length+(itoa xs[0]).length<=1099511627776:=by simp[Hf,join_nil];omega
   have b3:Hf [] sep=[]:=rfl
   simp -implicitDefEqProofs [hjn]
   refine Aa (hF xs[0] (hr _ (by simp))) ?_
   simp -implicitDefEqProofs [b2]
   exact⟨k-1,by omega,1,by omega,by rw[hstep,b3],by simpa using hw⟩
  ·rw[if_neg h0]at hstep
   have h0':(0:Int)<j:=by omega
   have h0'':0<j:=by omega
   have b2:(Hf (xs.take j) sep).length+sep.length+(itoa xs[j]).length<=1099511627776:=by omega
   have b2':(Hf (xs.take j) sep).length+(sep.length+(itoa xs[j]).length)<=1099511627776:=by omega
   simp -implicitDefEqProofs [hjn,h0',h0'',b1]
   refine Aa (hF xs[j] (hr _ (by simp))) ?_
   simp -implicitDefEqProofs [b2,b2']
   exact⟨k-1,by omega,j+1,by omega,by rw[hstep];simp,by simp[hw]⟩
 ·obtain rfl:j=xs.length:=by omega
  simp -implicitDefEqProofs
theorem AnL (hF:EB (D 120)) (hJ:Ane (D 241)):MJ (Body D OP):=by
 intro xs sep hl hr hs
 simp -implicitDefEqProofs
 refine Ag (fun k st=>∃j v4 o1 o2,j+k=xs.length/\st=⟨[.undef,Sb sep,.undef,.arr 3,v4,.sl 1 1 xs.length (ints xs),.sc (.int .i64 xs.length),.sc (.int .i64 j),.undef],[.free,o1,o2,.arr 1 0 j (strs ((xs.map itoa).take j))]⟩) ?_ xs.length _ ⟨0,.undef,.free,.free,by simp,by simp⟩
 intro k st ⟨j,v4,o1,o2,hj,hst⟩
 subst hst
 by_cases hjn:j<xs.length
 ·have hw:=Cv (j:=j) (by omega)
  have hjl:min j xs.length=j:=by omega
  have b1:(j+1)*16<=1099511627776:=by omega
  have hstep:strs ((xs.map itoa).take j++ [itoa xs[j]])=strs ((xs.map itoa).take (j+1)):=by
   rw[<-List.take_append_getElem (by simpa using hjn)];simp
  simp -implicitDefEqProofs [hjn]
  refine Aa (hF xs[j] (hr _ (by simp))) ?_
  simp -implicitDefEqProofs [hjl,b1]
  exact⟨k-1,by omega,j+1,by omega,by simp[hw],rfl,hstep⟩
 ·obtain rfl:j=xs.length:=by omega
  have e:(xs.map itoa).take xs.length=xs.map itoa:=List.take_of_length_le (by simp)
  have e2:(xs.map itoa).length=xs.length:=by simp
  have hj:=hJ (xs.map itoa) sep (by simpa using hl) (by have:=F9 hr hs;unfold Hf at this;omega)
  rw[e2]at hj
  simp -implicitDefEqProofs [e]
  refine Aa hj ?_
  simp -implicitDefEqProofs [Hf]
end Go.Eng.T
namespace Go.Eng.T
open Go.Lib
set_option maxRecDepth 20000
set_option maxHeartbeats 4000000
@[simp] theorem AKx (l:List UInt8) (i:Nat):(Ww l).data[i]? =l[i]? :=by
 show l.toArray[i]? =_
 simp
@[simp] theorem ALv (l:List UInt8) (i:Nat) (h:i<(Ww l).data.size):(Ww l).data[i]=l[i]'(by rwa [show(Ww l).data.size=l.length from ArQ l]at h):=by
 have e:=AKx l i
 rw[Array.getElem?_eq_getElem h,List.getElem?_eq_getElem (by rwa [show(Ww l).data.size=l.length from ArQ l]at h)]at e
 exact Option.some.inj e
theorem AOC (l:List UInt8) (a b:Nat):(Ww l).extract a b=Ww ((l.take b).drop a):=by
 apply ByteArray.ext
 rw[ByteArray.data_extract]
 show l.toArray.extract a b=((l.take b).drop a).toArray
 apply Array.ext'
 simp[List.drop_take]
@[simp] theorem AK6 (l:List UInt8):(Ww l).toList=l:=by
 rw[ByteArray.toList_eq]
 show l.toArray.toList=l
 simp
def wGo:List UInt8->List UInt8->List (List UInt8)
 | [],w=>if w=[]then []else [w]
 | c::r,w=>if c=32 then(if w=[]then wGo r []else w::wGo r [])else wGo r (w++ [c])
def Awt (l:List UInt8):List (List UInt8):=wGo l []
theorem AIW (w:List UInt8):wGo [] w=if w=[]then []else [w]:=by rw[wGo]
theorem APL {l:List UInt8} {j:Nat} (h:j<l.length) (w:List UInt8):wGo (l.drop j) w=if l[j]=32 then(if w=[]then wGo (l.drop (j+1)) []else w::wGo (l.drop (j+1)) [])else wGo (l.drop (j+1)) (w++ [l[j]]):=by
 rw[List.drop_eq_getElem_cons h,wGo]
abbrev AOq (R:Rel):Prop:=∀l:List UInt8,l.length<=4194304->R [Sb l] [] (.sl 0 1 (Awt l).length (strs (Awt l))) []
theorem APS {l:List UInt8} {j:Nat} (h:j<l.length):(Ww l).extract j (j+1)=Ww [l[j]]:=by
 rw[AOC]
 congr 1
 rw[<-List.take_append_getElem h,List.drop_append_of_le_length (by simp;omega),List.drop_of_length_le (by simp;omega)];rfl
theorem AO2 (D:Dn):AOq (Body D AL3):=by
 intro l hl
 simp -implicitDefEqProofs
 refine Ag (fun k s=>∃j w out o0 o1 o2,j+k=(l.length+1)/\(j<=l.length->out++wGo (l.drop j) w=Awt l)/\(j=l.length+1->out=Awt l)/\w.length<=j/\out.length<=j/\s=⟨[Sb l,.undef,.arr 3,Sb w,I j,.undef,.undef,.undef],[o0,o1,o2,.arr 1 0 out.length (strs out)]⟩) ?_ ((l.length+1)) _ ⟨0,([]),([]),.free,.free,.free,by simp,fun _=>by simp[Awt],fun h=>absurd h (by omega),by simp,by simp,by simp⟩
 intro k s ⟨j,w,out,o0,o1,o2,hj,hq,hr,hwl,hol,hs⟩
 subst hs
 by_cases hjn:j<=l.length
 rotate_left
 ·obtain rfl:j=l.length+1:=by omega
  have e:=hr rfl
  have c1:¬((l.length:Int)+1<=l.length):=by omega
  simp -implicitDefEqProofs [e,c1]
 have hw:=Cv (j:=j) (by omega)
 have hq:=hq hjn
 have b1:(out.length+1)*16<=1099511627776:=by omega
 have hend:∀out':List (List UInt8),out'++wGo (l.drop (j+1)) []=Awt l->out'.length<=j+1->(j+1<=l.length->out'++wGo (l.drop (j+1)) []=Awt l)/\(j+1=l.length+1->out' =Awt l):=fun out' h1 h2=>⟨fun _=>h1,fun h=>by
  rw[<-h1,show j+1=l.length+1 by omega,List.drop_of_length_le (by omega),AIW];simp⟩
 by_cases hlt:j<l.length
 ·have hat:=APL hlt w
  have hcut:=APS hlt
  by_cases hc:l[j]=32
  ·rw[if_pos hc]at hat
   by_cases hw0:w=[]
   ·subst hw0
    rw[if_pos rfl]at hat
    rw[hat]at hq
    simp -implicitDefEqProofs [hlt,hc,hw,hjn,AK6]
    exact⟨k-1,by omega,j+1,by omega,[],out,fun _=>hq,(hend out hq (by omega)).2,by simp,by omega,by simp⟩
   ·rw[if_neg hw0]at hat
    rw[hat]at hq
    simp -implicitDefEqProofs [hlt,hc,hw,hjn,AK6,hw0,b1]
    have hq':(out++ [w])++wGo (l.drop (j+1)) []=Awt l:=by simpa using hq
    exact⟨k-1,by omega,j+1,by omega,[],out++ [w],fun _=>hq',(hend _ hq' (by simp;omega)).2,by simp,by simp;omega,by simp⟩
  ·rw[if_neg hc]at hat
   rw[hat]at hq
   have hc':¬((l[j].toNat:Int)=32):=fun h=>hc (by apply UInt8.toNat_inj.1;simpa using Int.ofNat.inj h)
   have b2:w.length+1<=1099511627776:=by omega
   have c2:(j:Int)<=j+1:=by omega
   have c3:(j:Int)+1<=l.length:=by omega
   simp -implicitDefEqProofs [hlt,hc',hcut,hw,b2,hjn,c2,c3]
   exact⟨k-1,by omega,j+1,by omega,w++ [l[j]],out,fun _=>hq,fun h=>absurd h (by omega),by simp;omega,by omega,by simp⟩
 ·obtain rfl:j=l.length:=by omega
  have hd:wGo (l.drop l.length) w=if w=[]then []else [w]:=by rw[List.drop_of_length_le (Nat.le_refl _),AIW]
  rw[hd]at hq
  by_cases hw0:w=[]
  ·subst hw0
   simp -implicitDefEqProofs [hw,AK6]
   exact⟨k-1,by omega,l.length+1,by omega,[],out,fun h=>absurd h (by omega),fun _=>by simpa using hq,by simp,by omega,by simp⟩
  ·rw[if_neg hw0]at hq
   simp -implicitDefEqProofs [hw,AK6,hw0,b1]
   exact⟨k-1,by omega,l.length+1,by omega,[],out++ [w],fun h=>absurd h (by omega),fun _=>hq,by simp,by simp;omega,by simp⟩
end Go.Eng.T
namespace Go.Eng.T
open Go.Lib
set_option maxRecDepth 20000
set_option maxHeartbeats 4000000
def AIy (c:UInt8):Bool:=decide (48<=(c.toNat:Int)/\(c.toNat:Int)<=57)
def AEb (l:List UInt8):Nat:=l.foldl (fun a c=>10*a+(c.toNat-48)) 0
def AsY (l:List UInt8):Bool:=decide (1<=(l.length:Int)/\(l.length:Int)<=13)&&l.all AIy&&decide (AEb l<=1000000000000)&&decide (itoa (AEb l)=l)
def Ave (l:List UInt8):Int:=if AsY l=true then(AEb l:Int)else 0
abbrev ABY (R:Rel):Prop:=∀l:List UInt8,l.length<=4194304->R [Sb l] [] (.tup [I (Ave l),B (AsY l)]) []
theorem AIV (l:List UInt8):Py (Ave l)/\0<=Ave l/\Ave l<=1000000000000:=by
 unfold Ave Py
 split
 ·rename_i h
  simp only[AsY,Bool.and_eq_true,decide_eq_true_eq]at h
  omega
 ·omega
theorem APf {l:List UInt8} {j:Nat} (h:j<l.length):AEb (l.take (j+1))=10*AEb (l.take j)+(l[j].toNat-48):=by
 unfold AEb
 rw[<-List.take_append_getElem h,List.foldl_append];rfl
theorem APk {l:List UInt8} {j:Nat} (h:j<l.length):(l.take (j+1)).all AIy=((l.take j).all AIy&&AIy l[j]):=by
 rw[<-List.take_append_getElem h,List.all_append];simp
theorem AO7:∀(l:List UInt8) (a:Nat),l.all AIy=true->l.foldl (fun a c=>10*a+(c.toNat-48)) a<(a+1)*10 ^ l.length
 | [],a,_=>by simp
 | c::r,a,h=>by
  simp only[List.all_cons,Bool.and_eq_true,AIy,decide_eq_true_eq]at h
  have:=AO7 r (10*a+(c.toNat-48)) h.2
  simp only[List.foldl_cons,List.length_cons,Nat.pow_succ]
  refine Nat.lt_of_lt_of_le this ?_
  rw[Nat.mul_comm (10 ^ r.length) 10,<-Nat.mul_assoc]
  exact Nat.mul_le_mul_right _ (by omega)
theorem AOK (D:Dn) (hI:Vf (D 71)) (hF:EB (D 93)):ABY (Body D ALY):=by
 intro l hl
 simp -implicitDefEqProofs
 refine Aa (hI l.length 1 13) ?_
 by_cases h0:1<=(l.length:Int)/\(l.length:Int)<=13
 rotate_left
 ·have e:AsY l=false:=by unfold AsY;simp only[decide_eq_false h0,Bool.false_and]
  have e2:Ave l=0:=by unfold Ave;simp[e]
  simp -implicitDefEqProofs [h0,e,e2]
 have b13:l.length<=13:=by omega
 simp -implicitDefEqProofs [h0]
 refine Ag (fun k s=>∃j,j+k=l.length/\(l.take j).all AIy=true/\s=⟨[Sb l,.undef,.undef,I (AEb (l.take j)),I j,.undef,.undef,.undef,.undef],[]⟩) ?_ (l.length) _ ⟨0,by simp,by simp,by simp[AEb]⟩
 intro k s ⟨j,hj,hd,hs⟩
 subst hs
 have hlt:AEb (l.take j)<10000000000000:=by
  have h1:=AO7 (l.take j) 0 hd
  have h2:(l.take j).length<=13:=by simp;omega
  have h3:=Nat.pow_le_pow_right (show 0<10 by omega) h2
  unfold AEb
  omega
 by_cases hjn:j<l.length
 ·have hw:=Cv (j:=j) (by omega)
  have hst:=APf hjn
  have has:=APk hjn
  have hu8:l[j].toNat<256:=l[j].toNat_lt
  have hwc:IntKind.i64.wrap (l[j].toNat:Int)=(l[j].toNat:Int):=Ad (by omega) (by omega)
  simp -implicitDefEqProofs [hjn,hwc]
  refine Aa (hI (l[j].toNat:Int) 48 57) ?_
  by_cases hdg:AIy l[j]=true
  rotate_left
  ·have e:AsY l=false:=by
    unfold AsY
    have:l.all AIy=false:=by
     rw[List.all_eq_false]
     exact⟨l[j],List.getElem_mem hjn,by simpa using hdg⟩
    simp[this]
   have e2:Ave l=0:=by unfold Ave;simp[e]
   have hdg':¬(48<=(l[j].toNat:Int)/\(l[j].toNat:Int)<=57):=by simpa[AIy]using hdg
   simp -implicitDefEqProofs [hdg',e,e2]
  ·have hdg':48<=(l[j].toNat:Int)/\(l[j].toNat:Int)<=57:=by simpa[AIy]using hdg
   have hw8:IntKind.u8.wrap ((l[j].toNat:Int)-48)=(l[j].toNat:Int)-48:=by
    show(if(false&&decide (((l[j].toNat:Int)-48) % (2 ^ 8:Int)>=(2 ^ 7:Int)))=true then((l[j].toNat:Int)-48) % (2 ^ 8:Int)-(2 ^ 8:Int)else((l[j].toNat:Int)-48) % (2 ^ 8:Int))=_
    rw[if_neg (by simp)];omega
   have hwa:IntKind.i64.wrap ((l[j].toNat:Int)-48)=(l[j].toNat:Int)-48:=Ad (by omega) (by omega)
   have hwm:IntKind.i64.wrap (10*(AEb (l.take j):Int))=10*(AEb (l.take j):Int):=Ad (by omega) (by omega)
   have hwp:IntKind.i64.wrap (10*(AEb (l.take j):Int)+((l[j].toNat:Int)-48))=(AEb (l.take (j+1)):Int):=by rw[Ad (by omega) (by omega)];omega
   simp -implicitDefEqProofs [hdg',hw8,hwa,hwm,hwp,hw,hjn]
   exact⟨k-1,by omega,j+1,by omega,by simpa[hd,hdg]using has,by simp⟩
 ·obtain rfl:j=l.length:=by omega
  rw[List.take_length]at hd hlt
  have hrg:Py (AEb l):=by unfold Py;omega
  by_cases g1:AEb l<=1000000000000
  ·have g1':¬(1000000000000<(AEb l:Int)):=by omega
   simp -implicitDefEqProofs [g1']
   refine Aa (hF (AEb l) hrg) ?_
   by_cases g2:itoa (AEb l)=l
   ·have e:AsY l=true:=by unfold AsY;simp[h0,hd,g1,g2]
    have e2:Ave l=AEb l:=by unfold Ave;simp[e]
    simp -implicitDefEqProofs [g2,e,e2]
   ·have e:AsY l=false:=by unfold AsY;simp[g2]
    have e2:Ave l=0:=by unfold Ave;simp[e]
    simp -implicitDefEqProofs [g2,e,e2]
  ·have g1':1000000000000<(AEb l:Int):=by omega
   have e:AsY l=false:=by unfold AsY;simp[g1]
   have e2:Ave l=0:=by unfold Ave;simp[e]
   simp -implicitDefEqProofs [g1',e,e2]
end Go.Eng.T
namespace Go.Eng.T
variable (R:Rel)
abbrev Uu:Prop:=∀(xs ys:List Int),xs.length<=maxLen->ys.length<=maxLen->R [.sl 1 1 xs.length (ints xs),.sl 1 1 ys.length (ints ys)] [] (B (decide (xs=ys))) []
theorem Ad3 {xs:List Int} {v:Int} {j:Nat} (h:j<xs.length) (hp:v∉xs.take j) (hv:¬xs[j]=v):v∉xs.take (j+1):=by
 rw[List.take_add_one,List.getElem?_eq_getElem h]
 intro hm
 rcases List.mem_append.1 hm with hm | hm
 ·exact hp hm
 ·simp at hm;exact hv hm.symm
theorem Ag8 {xs:List Int} {v:Int} {j:Nat} (h:xs.length<=j) (hp:v∉xs.take j):v∉xs:=by rwa [List.take_of_length_le h]at hp
theorem Amb {xs:List Int} {v:Int} {j:Nat} (h:j<xs.length) (hv:xs[j]=v):v∈xs:=by rw[<-hv];exact List.getElem_mem h
def AIo (xs:List Int) (v:Int):Int:=if v∈xs then(xs.idxOf v:Nat)else -1
theorem AJL {xs:List Int} {v:Int} {j:Nat} (h:j<xs.length) (hp:v∉xs.take j) (hv:xs[j]=v):AIo xs v=j:=by
 unfold AIo
 rw[if_pos (Amb h hv)]
 congr 1
 have e:xs=xs.take j++v::xs.drop (j+1):=by
  conv=>lhs;rw[<-List.take_append_drop j xs,List.drop_eq_getElem_cons h,hv]
 rw[e,List.idxOf_append,if_neg hp]
 simp
 omega
theorem AKM {xs:List Int} {v:Int}:(0<=AIo xs v)=(v∈xs):=by
 unfold AIo
 by_cases h:v∈xs<;>simp[h]
abbrev AGq:Prop:=∀(xs:List Int) (v:Int),xs.length<=maxLen->R [.sl 1 1 xs.length (ints xs),I v] [] (I (AIo xs v)) []
variable (D:Dn)
theorem AKW:AGq (Body D AsX):=by
 intro xs v hl
 unfold maxLen at hl
 simp -implicitDefEqProofs
 refine Ag (fun k s=>∃j,j+k=xs.length/\v∉xs.take j/\s=⟨[.sl 1 1 xs.length (ints xs),.sc (.int .i64 v),.undef,.undef,.sc (.int .i64 xs.length),.sc (.int .i64 j),.undef,.undef],[]⟩) ?_ xs.length _ ⟨0,by simp,by simp,by simp⟩
 intro k s ⟨j,hj,hp,hs⟩
 subst hs
 by_cases hjn:j<xs.length
 ·have hw:=Cv (j:=j) (by omega)
  by_cases he:v=xs[j]
  ·have hx:=AJL hjn hp he.symm
   simp -implicitDefEqProofs [hjn,<-he,hx]
  ·simp -implicitDefEqProofs [hjn,he]
   exact⟨k-1,by omega,j+1,by omega,Ad3 hjn hp (fun h=>he h.symm),by simp[hw]⟩
 ·have hx:AIo xs v= -1:=by unfold AIo;rw[if_neg (Ag8 (by omega) hp)]
  simp -implicitDefEqProofs [hjn,hx]
abbrev UQ:Prop:=∀(xs:List Int) (v:Int),xs.length<=maxLen->R [.sl 1 1 xs.length (ints xs),I v] [] (B (decide (v∈xs))) []
theorem AHI (hI:AGq (D 389)):UQ (Body D Ar5):=by
 intro xs v hl
 simp -implicitDefEqProofs
 refine Aa (hI xs v hl) ?_
 simp -implicitDefEqProofs [AKM]
theorem AoO:UQ (Body D QH):=by
 intro xs v hl
 unfold maxLen at hl
 simp -implicitDefEqProofs
 refine Ag (fun k s=>∃j,j+k=xs.length/\v∉xs.take j/\s=⟨[.sl 1 1 xs.length (ints xs),.sc (.int .i64 v),.undef,.sc (.int .i64 j),.undef,.undef],[]⟩) ?_ xs.length _ ⟨0,by simp,by simp,by simp⟩
 intro k s ⟨j,hj,hp,hs⟩
 subst hs
 by_cases hjn:j<xs.length
 ·have hw:=Cv (j:=j) (by omega)
  by_cases he:xs[j]=v
  ·have hx:=Amb hjn he
   simp -implicitDefEqProofs [hjn,he,hx]
  ·simp -implicitDefEqProofs [hjn,he]
   exact⟨k-1,by omega,j+1,by omega,Ad3 hjn hp he,by simp[hw]⟩
 ·have hx:=Ag8 (by omega) hp
  simp -implicitDefEqProofs [hjn,hx]
def Lj (v:Int) (d:BP):Bool:= !d.deal.ok||(decide (d.deal.version<v)&&decide (v∈d.up))
def goodD (v:Int) (d:BP):Bool:= !Lj v d&&decide (v<=d.deal.version)
def cntF {α:Type} (f:α->Bool) (xs:List α):Nat:=(xs.filter f).length
theorem AaP {α:Type} {f:α->Bool} {xs:List α} {j:Nat} (h:j<xs.length):cntF f (xs.take (j+1))=cntF f (xs.take j)+(if f xs[j]then 1 else 0):=by
 unfold cntF
 rw[List.take_add_one,List.getElem?_eq_getElem h,List.filter_append,List.length_append]
 congr 1
 by_cases hf:f xs[j]<;>simp[hf]
theorem Afa {α:Type} {f:α->Bool} {xs:List α} {j:Nat} (h:j<=xs.length):cntF f (xs.take j)<=j:=by
 unfold cntF
 have:=List.length_filter_le f (xs.take j)
 simp at this
 omega
theorem Afj {α:Type} {f:α->Bool} {xs:List α} {j:Nat} (h:xs.length<=j):cntF f (xs.take j)=cntF f xs:=by rw[List.take_of_length_le h]
abbrev NV:Prop:=∀(xs:List BP) (v:Int),xs.length<=maxLen->(∀(j:Nat) (h:j<xs.length),xs[j].up.length<=maxLen)->
 R [.sl 1 5 xs.length (xs.flatMap AB),I v] [] (.tup [I (cntF (goodD v) xs),I (cntF (Lj v) xs)]) []
theorem Af7 (hH:UQ (D 166)):NV (Body D Mg):=by
 intro xs v hl hu
 unfold maxLen at hl
 simp -implicitDefEqProofs
 refine Ag (fun k s=>∃j o0,j+k=xs.length/\s=⟨[.sl 1 5 xs.length (xs.flatMap AB),.sc (.int .i64 v),.undef,.undef,.sc (.int .i64 (cntF (goodD v) (xs.take j))),.sc (.int .i64 (cntF (Lj v) (xs.take j))),.sc (.int .i64 j),.undef,.undef,.undef,.undef],[o0]⟩) ?_ xs.length _ ⟨0,.free,by simp,by simp[cntF]⟩
 intro k s ⟨j,o0,hj,hs⟩
 subst hs
 by_cases hjn:j<xs.length
 ·have hw:=Cv (j:=j) (by omega)
  have hc:=AaP (f:=goodD v) hjn
  have hb:=AaP (f:=Lj v) hjn
  have hcl:=Afa (f:=goodD v) (xs:=xs) (j:=j) (by omega)
  have hbl:=Afa (f:=Lj v) (xs:=xs) (j:=j) (by omega)
  have hw2:IntKind.i64.wrap ((cntF (goodD v) (xs.take j):Int)+1)=(cntF (goodD v) (xs.take j)+1:Nat):=by rw[Ad (by omega) (by omega)];simp
  have hw3:IntKind.i64.wrap ((cntF (Lj v) (xs.take j):Int)+1)=(cntF (Lj v) (xs.take j)+1:Nat):=by rw[Ad (by omega) (by omega)];simp
  have fin:∀(a b:Bool),goodD v xs[j]=a->Lj v xs[j]=b->∀x y:Int,x=((cntF (goodD v) (xs.take j)+(if a then 1 else 0):Nat):Int)->y=((cntF (Lj v) (xs.take j)+(if b then 1 else 0):Nat):Int)->
   x=cntF (goodD v) (xs.take (j+1))/\y=cntF (Lj v) (xs.take (j+1)):=by
   intro a b ha hb' x y hx hy
   rw[hc,hb,ha,hb']
   exact⟨hx,hy⟩
  by_cases h1:xs[j].deal.ok=true
  ·by_cases h2:xs[j].deal.version<v
   ·simp -implicitDefEqProofs [hjn,h1,h2]
    refine Aa (hH xs[j].up v (hu j hjn)) ?_
    by_cases h3:v∈xs[j].up
    ·have g:=fin false true (by simp[goodD,Lj,h1,h2,h3]) (by simp[Lj,h1,h2,h3]) _ _ rfl rfl
     simp -implicitDefEqProofs [h3]
     exact⟨k-1,by omega,j+1,by omega,by simpa using g.1,by rw[hw3];simpa using g.2,by simp[hw]⟩
    ·have h4:¬v<=xs[j].deal.version:=by omega
     have g:=fin false false (by simp[goodD,Lj,h1,h2,h3,h4]) (by simp[Lj,h1,h2,h3]) _ _ rfl rfl
     simp -implicitDefEqProofs [h3,h4]
     exact⟨k-1,by omega,j+1,by omega,by simpa using g.1,by simpa using g.2,by simp[hw]⟩
   ·have h4:v<=xs[j].deal.version:=by omega
    have g:=fin true false (by simp[goodD,Lj,h1,h2,h4]) (by simp[Lj,h1,h2]) _ _ rfl rfl
    simp -implicitDefEqProofs [hjn,h1,h2,h4]
    exact⟨k-1,by omega,j+1,by omega,by rw[hw2];simpa using g.1,by simpa using g.2,by simp[hw]⟩
  ·have g:=fin false true (by simp[goodD,Lj,h1]) (by simp[Lj,h1]) _ _ rfl rfl
   simp -implicitDefEqProofs [hjn,h1]
   exact⟨k-1,by omega,j+1,by omega,by simpa using g.1,by rw[hw3];simpa using g.2,by simp[hw]⟩
 ·have hx:=Afj (f:=goodD v) (xs:=xs) (j:=j) (by omega)
  have hy:=Afj (f:=Lj v) (xs:=xs) (j:=j) (by omega)
  simp -implicitDefEqProofs [hjn,hx,hy]
abbrev PN:Prop:=∀(d:BP) (v:Int),d.up.length<=maxLen->R [arg (AB d),I v] [] (B (Lj v d)) []
theorem Aep (hM:NV (D 155)):PN (Body D Kw):=by
 intro d v hu
 simp -implicitDefEqProofs
 refine Aa (hM [d] v (by unfold maxLen;simp) (fun j h=>by have e:j=0:=(by simpa using h);subst e;exact hu)) ?_
 by_cases h:Lj v d<;>simp -implicitDefEqProofs [cntF,h]
theorem AKv (hH:UQ (D 188)):PN (Body D Ayx):=by
 intro d v hu
 by_cases h1:d.deal.ok=true
 ·by_cases h2:d.deal.version<v
  ·simp -implicitDefEqProofs [h1,h2]
   refine Aa (hH d.up v hu) ?_
   simp -implicitDefEqProofs [Lj,h1,h2]
  ·simp -implicitDefEqProofs [h1,h2,Lj]
 ·simp -implicitDefEqProofs [h1,Lj]
theorem AGt (hB:PN (D 229)):PN (Body D Avg):=by
 intro d v hu
 simp -implicitDefEqProofs
 refine Aa (hB d v hu) ?_
 simp -implicitDefEqProofs
set_option maxRecDepth 20000
abbrev M6 (a b c:Int):Prop:=b<=a/\a<=c
def J6 (g b l p:Int):Int:=
 if¬M6 g 0 10000∨¬M6 b 0 10000∨¬M6 l 1 10000∨¬M6 p 0 100 then 0
 else if 100*b>p*l/\100*b>p*(g+b)then 2
 else if g+b<l then 0
 else if 100*b<=p*(g+b)then 1
 else 2
abbrev RH:Prop:=∀g b l p:Int,R [I g,I b,I l,I p] [] (I (J6 g b l p)) []
theorem AdN {p x:Int} (h1:0<=p) (h2:p<=100) (h3:0<=x) (h4:x<=20000):IntKind.i64.wrap (p*x)=p*x:=by
 have a1:0<=p*x:=Int.mul_nonneg h1 h3
 have a2:p*x<=100*20000:=Int.mul_le_mul h2 h4 h3 (by omega)
 exact Ad (by omega) (by omega)
theorem Agg (hI:Vf (D 71)):RH (Body D Ma):=by
 intro g b l p
 simp -implicitDefEqProofs
 refine Aa (hI _ _ _) ?_
 by_cases h1:M6 g 0 10000
 rotate_left
 ·simp -implicitDefEqProofs [h1,J6]
 simp -implicitDefEqProofs [h1]
 refine Aa (hI _ _ _) ?_
 by_cases h2:M6 b 0 10000
 rotate_left
 ·simp -implicitDefEqProofs [h2,J6]
 simp -implicitDefEqProofs [h2]
 refine Aa (hI _ _ _) ?_
 by_cases h3:M6 l 1 10000
 rotate_left
 ·simp -implicitDefEqProofs [h3,J6]
 simp -implicitDefEqProofs [h3]
 refine Aa (hI _ _ _) ?_
 by_cases h4:M6 p 0 100
 rotate_left
 ·simp -implicitDefEqProofs [h4,J6]
 have w1:IntKind.i64.wrap (100*b)=100*b:=Ad (by omega) (by omega)
 have w2:=AdN h4.1 h4.2 (x:=l) (by omega) (by omega)
 have w3:=AdN h4.1 h4.2 (x:=g+b) (by omega) (by omega)
 have w4:IntKind.i64.wrap (g+b)=g+b:=Ad (by omega) (by omega)
 have e:J6 g b l p=if 100*b>p*l/\100*b>p*(g+b)then 2 else if g+b<l then 0 else if 100*b<=p*(g+b)then 1 else 2:=by unfold J6;rw[if_neg (by simp[h1,h2,h3,h4])]
 rw[e]
 clear e
 by_cases c1:p*l<100*b
 ·by_cases c2:p*(g+b)<100*b
  ·simp -implicitDefEqProofs [h4,w1,w2,w3,w4,c1,c2]
  ·have c3:100*b<=p*(g+b):=by omega
   by_cases c4:g+b<l
   ·simp -implicitDefEqProofs [h4,w1,w2,w3,w4,c1,c2,c3,c4]
   ·simp -implicitDefEqProofs [h4,w1,w2,w3,w4,c1,c2,c3,c4]
 ·by_cases c4:g+b<l
  ·simp -implicitDefEqProofs [h4,w1,w2,w3,w4,c1,c4]
  ·by_cases c3:100*b<=p*(g+b)
   ·simp -implicitDefEqProofs [h4,w1,w2,w3,w4,c1,c3,c4]
   ·simp -implicitDefEqProofs [h4,w1,w2,w3,w4,c1,c3,c4]
def Rc {α:Type} (p:α->Bool):List α->Int->Int
 | [],_=> -1
 | x::r,i=>if p x then i else Rc p r (i+1)
theorem AkE {α:Type} {p:α->Bool} {xs:List α} {j:Nat} (h:j<xs.length):Rc p (xs.drop j) j=if p xs[j]then(j:Int)else Rc p (xs.drop (j+1)) ((j:Int)+1):=by
 rw[List.drop_eq_getElem_cons h];rfl
theorem Am6 {α:Type} {p:α->Bool} {xs:List α} {j:Nat} (h:xs.length<=j):Rc p (xs.drop j) j= -1:=by rw[List.drop_eq_nil_of_le h];rfl
theorem AjA {α:Type} {p:α->Bool}:∀ {xs:List α} {i:Int},0<=i->(0<=Rc p xs i)=(xs.any p=true)
 | [],i,_=>by simp[Rc]
 | x::r,i,h=>by
  by_cases hp:p x=true
  ·simp[Rc,hp,h]
  ·have:=AjA (p:=p) (xs:=r) (i:=i+1) (by omega)
   simp[Rc,hp]at *
   exact this
def Atz (caps:List V):Prop:=(∀(H:Hp) (n:Nat),Gi H n (caps.map fun v=>(false,v))=some [])/\(∀(H Hr:Hp) (n:Nat),F6 H Hr n (caps.map fun v=>(false,v))=some caps)/\∀H:Hp,AlY H caps=some caps
theorem Api:Atz []:=⟨fun _ _=>rfl,fun _ _ _=>rfl,fun _=>rfl⟩
theorem AzW {v:V} {r:List V} (hv:∀H,ro H v=some v) (hv2:∀H,ro2 H v=some v) (h:Atz r):Atz (v::r):=
 ⟨fun H n=>h.1 H n,fun H Hr n=>by simp only[List.map_cons,F6,hv,h.2.1],fun H=>by simp only[AlY,hv2,h.2.2]⟩
theorem ABB {a:Int} {r:List V} (h:Atz r):Atz (.rptr 1 [.sc (.int .i64 a)] 0::r):=AzW (fun H=>by simp) (fun H=>by simp) h
abbrev Axr (D:Dn) (R:Rel):Prop:=∀(xs:List Int) (g:Nat) (caps:List V) (p:Int->Bool),xs.length<=maxLen->Atz caps->(∀x:Int,D g (I x::caps) [] (B (p x)) [])->
 R [.sl 1 1 xs.length (ints xs),.fn g caps] [] (I (Rc p xs 0)) []
theorem AHv:Axr D (Body D ArL):=by
 intro xs g caps p hl hc hp
 unfold maxLen at hl
 simp -implicitDefEqProofs
 refine Ag (fun k s=>∃j,j+k=xs.length/\Rc p xs 0=Rc p (xs.drop j) j/\s=⟨[.sl 1 1 xs.length (ints xs),.fn g caps,.undef,.undef,.sc (.int .i64 xs.length),.sc (.int .i64 j),.undef,.undef],[]⟩) ?_ xs.length _ ⟨0,by simp,by simp,by simp⟩
 intro k s ⟨j,hj,hi,hs⟩
 subst hs
 by_cases hjn:j<xs.length
 ·have hw:=Cv (j:=j) (by omega)
  rw[AkE hjn]at hi
  simp -implicitDefEqProofs [hjn,hc.1,hc.2.1]
  refine Aa (hp xs[j]) ?_
  by_cases he:p xs[j]=true
  ·rw[if_pos he]at hi
   simp -implicitDefEqProofs [he,hi]
  ·rw[if_neg he]at hi
   simp -implicitDefEqProofs [he]
   exact⟨k-1,by omega,j+1,by omega,by simpa using hi,by simp[hw]⟩
 ·rw[Am6 (by omega)]at hi
  simp -implicitDefEqProofs [hjn,hi]
abbrev Ate (D:Dn) (R:Rel):Prop:=∀(xs:List Int) (g:Nat) (caps:List V) (p:Int->Bool),xs.length<=maxLen->Atz caps->(∀x:Int,D g (I x::caps) [] (B (p x)) [])->
 R [.sl 1 1 xs.length (ints xs),.fn g caps] [] (B (xs.any p)) []
theorem AD8 (hI:Axr D (D 404)):Ate D (Body D Aqw):=by
 intro xs g caps p hl hc hp
 simp -implicitDefEqProofs [hc.2.2]
 refine Aa (hI xs g caps p hl hc hp) ?_
 have e:decide (0<=Rc p xs 0)=xs.any p:=by rw[Bool.eq_iff_iff];simp only[decide_eq_true_eq];rw[AjA (by omega)]
 simp -implicitDefEqProofs [e]
def allIn (xs:List Int) (lo hi:Int):Bool:=xs.all fun x=>decide (M6 x lo hi)
abbrev AsS:Prop:=∀(xs:List Int) (lo hi:Int),xs.length<=maxLen->R [.sl 1 1 xs.length (ints xs),I lo,I hi] [] (B (allIn xs lo hi)) []
abbrev AvQ:Prop:=∀(x lo hi:Int),R [I x,.rptr 1 [I lo] 0,.rptr 1 [I hi] 0] [] (B (!decide (M6 x lo hi))) []
theorem AEs (hI:Vf (D 114)):AvQ (Body D AtV):=by
 intro x lo hi
 simp -implicitDefEqProofs
 refine Aa (hI _ _ _) ?_
 simp -implicitDefEqProofs
theorem AFJ (h1:AvQ (D 266)) (hC:Ate D (D 267)):AsS (Body D AuC):=by
 intro xs lo hi hl
 simp -implicitDefEqProofs
 refine Aa (hC xs 266 _ (fun x=> !decide (M6 x lo hi)) hl (ABB (ABB Api)) (fun x=>h1 x lo hi)) ?_
 have e:(xs.any fun x=> !decide (M6 x lo hi))= !allIn xs lo hi:=by unfold allIn;rw[List.all_eq_not_any_not];simp
 generalize(xs.any fun x=> !decide (M6 x lo hi))=b at e⊢
 subst e
 simp -implicitDefEqProofs
structure Ext where
 tag:Int
 body:List Int
 deriving DecidableEq
structure Hello where
 versions:List Int
 exts:List Ext
 deriving DecidableEq
structure Nw where
 version:Int
 exts:List Ext
 deriving DecidableEq
def Cc (x:Ext):List V:=[.sc (.int .i64 x.tag),.sl 0 1 x.body.length (ints x.body)]
def Ck (h:Hello):List V:=[.sl 0 1 h.versions.length (ints h.versions),.sl 0 2 h.exts.length (h.exts.flatMap Cc)]
def RB (a:Nw):List V:=[.sc (.int .i64 a.version),.sl 0 2 a.exts.length (a.exts.flatMap Cc)]
theorem Mi (x:Ext):(Cc x).length=2:=rfl
@[simp] theorem Ar9 (xs:List Ext):(xs.flatMap Cc).map (AO 0)=xs.flatMap Cc:=R8 (fun _=>rfl) xs
@[simp high] theorem Ar7 {xs:List Ext} {j:Nat} (h:j<xs.length):ER (xs.flatMap Cc) (j*2) 2=some (Cc xs[j]):=JB Mi h
@[simp high] theorem LF (xs:List Ext):(xs.flatMap Cc).length=xs.length*2:=Iq Mi xs
@[simp high] theorem Aok {xs:List Ext} {j:Nat} (h:j<xs.length):(xs.flatMap Cc)[j*2]? =some (.sc (.int .i64 xs[j].tag)):=by
 have:=Aq (o:=0) Mi h (by omega)
 simpa[Cc]using this
@[simp high] theorem ArZ {xs:List Ext} {j:Nat} (h:j<xs.length):(xs.flatMap Cc)[j*2+1]? =some (.sl 0 1 xs[j].body.length (ints xs[j].body)):=by
 have:=Aq (o:=1) Mi h (by omega)
 simpa[Cc]using this
theorem Ali {α:Type} {f:α->List V} {e:Nat} (hf:∀x,(f x).length=e) (xs:List α) (i:Nat):(xs.flatMap f).take (i*e)=(xs.take i).flatMap f:=by
 induction xs generalizing i with
 | nil=>simp
 | cons x xs ih=>
  cases i with
  | zero=>simp
  | succ i=>
   simp only[List.flatMap_cons,List.take_succ_cons]
   rw[<-ih i,show(i+1)*e=(f x).length+i*e by rw[hf,Nat.add_mul];omega,List.take_length_add_append]
theorem AlC {α:Type} {f:α->List V} {e:Nat} (hf:∀x,(f x).length=e) (xs:List α) (o n:Nat):part (xs.flatMap f) e o n=((xs.drop o).take n).flatMap f:=by
 unfold part
 rw[RA hf,Ali hf]
@[simp high] theorem Aq3 (xs:List Ext) (o n:Nat):part (xs.flatMap Cc) 2 o n=((xs.drop o).take n).flatMap Cc:=AlC Mi xs o n
attribute [simp] Cc Ck RB
def OD (l:List Ext):Prop:=l.length<=4194304/\∀x,x∈l->x.body.length<=4194304
theorem P5 {l:List Ext} (h:OD l) {j:Nat} (hj:j<l.length):l[j].body.length<=4194304:=h.2 _ (List.getElem_mem hj)
theorem Afg:OD []:=⟨by simp,by simp⟩
theorem Aia {l:List Ext} (h:OD l) (p:Ext->Bool):OD (l.filter p):=
 ⟨Nat.le_trans (List.length_filter_le p l) h.1,fun x hx=>h.2 x (List.mem_filter.1 hx).1⟩
def Oj (q:Nat->Bool) (j:Nat):Bool:=(List.range j).all q
@[simp] theorem AqK (q:Nat->Bool):Oj q 0=true:=rfl
theorem LY (q:Nat->Bool) (j:Nat):Oj q (j+1)=(Oj q j&&q j):=by
 unfold Oj
 rw[List.range_succ,List.all_append]
 simp
theorem AhE {q:Nat->Bool} {j n:Nat} (h:j<n) (hn:q j=false):Oj q n=false:=by
 have:∀m,Oj q (j+1+m)=false:=by
  intro m
  induction m with
  | zero=>rw[Nat.add_zero,LY,hn];simp
  | succ m ih=>rw[show j+1+(m+1)=(j+1+m)+1 by omega,LY,ih];rfl
 have:=this (n-(j+1))
 rwa [show j+1+(n-(j+1))=n by omega]at this
theorem V7 {q:Nat->Bool} {n:Nat}:Oj q n=true↔∀i,i<n->q i=true:=by
 unfold Oj
 rw[List.all_eq_true]
 simp
theorem AaH {α:Type} {p:α->Bool} {xs:List α} {j:Nat} (h:j<xs.length):(xs.take (j+1)).filter p=(xs.take j).filter p++(if p xs[j]then [xs[j]]else []):=by
 have e:xs.take (j+1)=xs.take j++ [xs[j]]:=by simp
 rw[e,List.filter_append]
 by_cases hp:p xs[j]=true<;>simp[hp]
theorem AdG {α:Type} {p:α->Bool} {xs:List α} {j:Nat} (h:xs.length<=j):(xs.take j).filter p=xs.filter p:=by rw[List.take_of_length_le h]
theorem Adw {α:Type} {p:α->Bool} {xs:List α} {j:Nat}:((xs.take j).filter p).length<=j:=by
 have:=List.length_filter_le p (xs.take j)
 have h2:(xs.take j).length<=j:=by simp;omega
 omega
end Go.Eng.T
