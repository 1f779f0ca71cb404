/- Own work: part 12 of the proof of FnConsole. -/
import Derived.Test.YtogmkdgkgfhhoaaGreatDoorCEngAL
import Derived.Test.YtogmkdgkgfhhoaaGreatDoorCP11
set_option linter.unusedSimpArgs false
set_option linter.unusedVariables false
namespace Go.Eng.T
abbrev I (a:Int):V:= .sc (.int .i64 a)
abbrev B (a:Bool):V:= .sc (.bool a)
abbrev S (a:ByteArray):V:= .sc (.string a)
abbrev Rel:=List V->List O->V->List O->Prop
def ints (xs:List Int):List V:=xs.map fun x=> .sc (.int .i64 x)
@[simp] theorem ArG (xs:List Int):(ints xs).length=xs.length:=by simp[ints]
@[simp] theorem ArF:ints []=[]:=rfl
@[simp] theorem ints_at {xs:List Int} {j:Nat} (h:j<xs.length):(ints xs)[j]? =some (V.sc (.int .i64 xs[j])):=by simp[ints,h]
@[simp] theorem Aq4 {xs:List Int} {j:Nat} (h:j<(ints xs).length):(ints xs)[j]=V.sc (.int .i64 (xs[j]'(by simpa using h))):=by simp[ints]
@[simp] theorem Asl (xs:List Int) (k:Nat):(ints xs).map (AO k)=ints xs:=by simp[ints,Function.comp_def,AO]
theorem Ab4 (xs ys:List Int):ints xs++ints ys=ints (xs++ys):=by simp[ints]
@[simp] theorem Aq2 (xs:List Int) (y:Int):ints xs++ [V.sc (.int .i64 y)]=ints (xs++ [y]):=by simp[ints]
@[simp] theorem ints_set (xs:List Int) (j:Nat) (y:Int):(ints xs).set j (V.sc (.int .i64 y))=ints (xs.set j y):=by simp[ints]
@[simp] theorem ArS (n:Nat):(List.replicate n [V.sc (.int .i64 0)]).flatten=ints (List.replicate n 0):=by
 induction n with
 | zero=>rfl
 | succ n ih=>simp[List.replicate_succ,ints]at *
@[simp] theorem Asi (xs:List Int):(ints xs).all Mr=true:=by simp[ints,Mr]
@[simp] theorem Aq6 (xs:List Int) (o n:Nat):part (ints xs) 1 o n=ints ((xs.drop o).take n):=by simp[part,ints]
@[simp] theorem Arh:∀xs:List Int,(∀x,x∈ints xs->Mr x=true)=True:=by simp[ints,Mr]
@[simp] theorem Arc (a:V) (cs:List V) (off n:Nat):ER (a::cs) off n=if off+n<=cs.length+1 then some (((a::cs).drop off).take n)else none:=by simp[ER]
structure Aaf where
 ok:Bool
 version:Int
 tags:List Int
 deriving DecidableEq
structure EG where
 limit:Int
 drops:List Int
 strips:List Int
 lists:Bool
 deriving DecidableEq
structure BP where
 deal:Aaf
 tries:Int
 up:List Int
 deriving DecidableEq
structure AX where
 version:Int
 stages:List Int
 pos:Int
 off:Bool
 deriving DecidableEq
structure Ai where
 versions:List Int
 tags:List Int
 path:List EG
 cls:Int
 deriving DecidableEq
structure Eo where
 fin:Int
 tick:Int
 on:Bool
 dialed:BP
 deriving DecidableEq
structure World where
 server:List Int
 tags:List Int
 key:Int
 ends:List Ai
 rollout:AX
 least:Int
 percent:Int
 stage:List BP
 log:List Eo
 now:Int
 hurt:Int
 reached:Int
 deriving DecidableEq
structure Event where
 kind:Int
 n:Int
 box:EG
 deriving DecidableEq
abbrev sl (fl e n:Nat) (cs:List V):V:= .sl fl e n cs
def AfJ (d:Aaf):List V:=[.sc (.bool d.ok),.sc (.int .i64 d.version),.sl 0 1 d.tags.length (ints d.tags)]
def DT (d:EG):List V:=[.sc (.int .i64 d.limit),.sl 0 1 d.drops.length (ints d.drops),.sl 0 1 d.strips.length (ints d.strips),.sc (.bool d.lists)]
def AB (d:BP):List V:=[.sc (.bool d.deal.ok),.sc (.int .i64 d.deal.version),.sl 0 1 d.deal.tags.length (ints d.deal.tags),.sc (.int .i64 d.tries),.sl 0 1 d.up.length (ints d.up)]
def Dj (d:AX):List V:=[.sc (.int .i64 d.version),.sl 0 1 d.stages.length (ints d.stages),.sc (.int .i64 d.pos),.sc (.bool d.off)]
def Ah (d:Ai):List V:=[.sl 0 1 d.versions.length (ints d.versions),.sl 0 1 d.tags.length (ints d.tags),.sl 0 4 d.path.length (d.path.flatMap DT),.sc (.int .i64 d.cls)]
def Az (d:Eo):List V:=[.sc (.int .i64 d.fin),.sc (.int .i64 d.tick),.sc (.bool d.on),.sc (.bool d.dialed.deal.ok),.sc (.int .i64 d.dialed.deal.version),.sl 0 1 d.dialed.deal.tags.length (ints d.dialed.deal.tags),.sc (.int .i64 d.dialed.tries),.sl 0 1 d.dialed.up.length (ints d.dialed.up)]
def Bu (d:World):List V:=[.sl 0 1 d.server.length (ints d.server),.sl 0 1 d.tags.length (ints d.tags),.sc (.int .i64 d.key),.sl 0 4 d.ends.length (d.ends.flatMap Ah),.sc (.int .i64 d.rollout.version),.sl 0 1 d.rollout.stages.length (ints d.rollout.stages),.sc (.int .i64 d.rollout.pos),.sc (.bool d.rollout.off),.sc (.int .i64 d.least),.sc (.int .i64 d.percent),.sl 0 5 d.stage.length (d.stage.flatMap AB),.sl 0 8 d.log.length (d.log.flatMap Az),.sc (.int .i64 d.now),.sc (.int .i64 d.hurt),.sc (.int .i64 d.reached)]
def BJ (d:Event):List V:=[.sc (.int .i64 d.kind),.sc (.int .i64 d.n),.sc (.int .i64 d.box.limit),.sl 0 1 d.box.drops.length (ints d.box.drops),.sl 0 1 d.box.strips.length (ints d.box.strips),.sc (.bool d.box.lists)]
abbrev arg (cs:List V):V:= .agg (cs.map (AO 1))
section
variable {α:Type} {f:α->List V} {e:Nat}
theorem R8 (hf:∀x,(f x).map (AO 0)=f x) (xs:List α):(xs.flatMap f).map (AO 0)=xs.flatMap f:=by
 induction xs with
 | nil=>rfl
 | cons x xs ih=>simp[hf,ih]
theorem R4 (cs ds:List V) (o:Nat):∀(azs:List V),o+azs.length<=ds.length->putAt (cs++ds) (cs.length+o) azs=cs++putAt ds o azs:=by
 intro azs
 induction azs generalizing ds o with
 | nil=>intro _;simp[putAt]
 | cons a azs ih=>
  intro h
  simp only[putAt,List.length_cons]at *
  rw[List.set_append_right _ _ (by omega),show cs.length+o-cs.length=o by omega,show cs.length+o+1=cs.length+(o+1)by omega]
  exact ih _ _ (by simp;omega)
theorem Ai9:∀(ds azs:List V),azs.length<=ds.length->putAt ds 0 azs=azs++ds.drop azs.length:=by
 have key:∀(azs pre ds:List V),azs.length<=ds.length->putAt (pre++ds) pre.length azs=pre++azs++ds.drop azs.length:=by
  intro azs
  induction azs with
  | nil=>intro pre ds _;simp[putAt]
  | cons a azs ih=>
   intro pre ds h
   cases ds with
   | nil=>simp at h
   | cons d ds=>
    have:=ih (pre++ [a]) ds (by simpa using h)
    simp only[putAt]
    rw[List.set_append_right _ _ (Nat.le_refl _),Nat.sub_self,List.set_cons_zero]
    simpa using this
 intro ds azs h
 simpa using key azs [] ds h
theorem Ml (hf:∀x,(f x).length=e) {xs:List α} {i:Nat} (hi:i<xs.length) (x:α):putAt (xs.flatMap f) (i*e) (f x)=(xs.set i x).flatMap f:=by
 induction xs generalizing i with
 | nil=>simp at hi
 | cons y ys ih=>
  cases i with
  | zero=>
   rw[Nat.zero_mul,Ai9 _ _ (by simp[hf])]
   simp[hf]
  | succ i=>
   simp only[List.flatMap_cons,List.set_cons_succ]
   rw[show(i+1)*e=(f y).length+i*e by rw[hf,Nat.add_mul];omega,R4]
   ·rw[ih (by simpa using hi)]
   ·rw[Iq hf,hf]
    have:=Nat.mul_le_mul_right e (show i+1<=ys.length by simp at hi;omega)
    rw[Nat.add_mul]at this;omega
end
def fd (o:O):Prop:=o= .free∨o= .dead
@[simp] theorem Aso:fd .free:= .inl rfl
@[simp] theorem Ar4:fd .dead:= .inr rfl
def mix {α:Type} (z:α) (xs:List α) (j:Nat):List α:=xs.take j++List.replicate (xs.length-j) z
section
variable {α:Type} {z:α} {xs:List α} {j:Nat}
@[simp] theorem ArY (h:j<=xs.length):(mix z xs j).length=xs.length:=by simp[mix];omega
end
theorem Ad {n:Int} (h1:-9223372036854775808<=n) (h2:n<=9223372036854775807):IntKind.i64.wrap n=n:=by
 show(if(true&&decide (n % (2 ^ 64:Int)>=(2 ^ 63:Int)))=true then n % (2 ^ 64:Int)-(2 ^ 64:Int)else n % (2 ^ 64:Int))=n
 by_cases h:n % (2 ^ 64:Int)>=(2 ^ 63:Int)
 ·rw[if_pos (by simp only[h];rfl)];omega
 ·rw[if_neg (by simp only[h];simp)];omega
theorem Cv {j:Nat} (h:j<9223372036854775807):IntKind.i64.wrap ((j:Int)+1)=(j+1:Nat):=by rw[Ad (by omega) (by omega)];simp
section
variable {α:Type} {xs ys:List α} {j:Nat}
theorem Adh (hx:j<xs.length) (hy:j<ys.length) (h:xs.take j=ys.take j) (he:xs[j]=ys[j]):xs.take (j+1)=ys.take (j+1):=by
 rw[List.take_add_one,List.take_add_one,h,List.getElem?_eq_getElem hx,List.getElem?_eq_getElem hy,he]
theorem Agx (hx:xs.length<=j) (hl:xs.length=ys.length) (h:xs.take j=ys.take j):xs=ys:=by
 rwa [List.take_of_length_le hx,List.take_of_length_le (by omega)]at h
end
def Cr {α:Type} (f:α->Nat) (xs:List α):Nat:=xs.length+(xs.map f).sum
def ND (d:Aaf):Nat:=d.tags.length
def Gm (d:EG):Nat:=d.drops.length+d.strips.length
def Cb (d:BP):Nat:=ND d.deal+d.up.length
def Db (d:AX):Nat:=d.stages.length
def Am (d:Ai):Nat:=d.versions.length+d.tags.length+Cr Gm d.path
def Ip (d:Eo):Nat:=Cb d.dialed
def Af (d:World):Nat:=d.server.length+d.tags.length+Cr Am d.ends+Db d.rollout+Cr Cb d.stage+Cr Ip d.log
def Hy (d:Event):Nat:=Gm d.box
section
variable {α:Type} {f:α->Nat} {xs:List α} {j:Nat}
theorem AlZ (h:j<xs.length):((xs.take (j+1)).map f).sum=((xs.take j).map f).sum+f xs[j]:=by
 rw[List.take_add_one,List.getElem?_eq_getElem h,List.map_append,List.sum_append,Option.toList_some,List.map_cons,List.map_nil,List.sum_cons,List.sum_nil,Nat.add_zero]
theorem AfV:((xs.take j).map f).sum<=(xs.map f).sum:=by
 conv=>rhs;rw[<-List.take_append_drop j xs,List.map_append,List.sum_append]
 omega
theorem size_at (h:j<xs.length):f xs[j]<=Cr f xs:=by
 have h1:=AlZ (f:=f) h
 have h2:=AfV (f:=f) (xs:=xs) (j:=j+1)
 unfold Cr;omega
theorem J9:xs.length<=Cr f xs:=by unfold Cr;omega
end
def Nr (xs:List Int):Prop:=xs.length<=maxLen
def lnS {α:Type} (f:α->Prop) (xs:List α):Prop:=xs.length<=maxLen/\∀(j:Nat) (h:j<xs.length),f xs[j]
def AIl (d:Aaf):Prop:=Nr d.tags
def Kh (d:EG):Prop:=Nr d.drops/\Nr d.strips
def Ayh (d:BP):Prop:=AIl d.deal/\Nr d.up
def ABu (d:AX):Prop:=Nr d.stages
def AbY (d:Ai):Prop:=Nr d.versions/\Nr d.tags/\lnS Kh d.path
def ADx (d:Eo):Prop:=Ayh d.dialed
def AAK (d:World):Prop:=Nr d.server/\Nr d.tags/\lnS AbY d.ends/\ABu d.rollout/\lnS Ayh d.stage/\lnS ADx d.log
theorem Gp (x:EG):(DT x).length=4:=rfl
theorem C9 (x:BP):(AB x).length=5:=rfl
theorem Dh (x:Ai):(Ah x).length=4:=rfl
theorem Bh (x:Eo):(Az x).length=8:=rfl
theorem CS (x:Event):(BJ x).length=6:=rfl
@[simp] theorem Ar8 (xs:List EG):(xs.flatMap DT).map (AO 0)=xs.flatMap DT:=R8 (fun _=>rfl) xs
@[simp] theorem AqN (xs:List BP):(xs.flatMap AB).map (AO 0)=xs.flatMap AB:=R8 (fun _=>rfl) xs
@[simp] theorem AoC (xs:List Ai):(xs.flatMap Ah).map (AO 0)=xs.flatMap Ah:=R8 (fun _=>rfl) xs
@[simp] theorem AqO (xs:List Eo):(xs.flatMap Az).map (AO 0)=xs.flatMap Az:=R8 (fun _=>rfl) xs
@[simp] theorem Ara (xs:List Event):(xs.flatMap BJ).map (AO 0)=xs.flatMap BJ:=R8 (fun _=>rfl) xs
@[simp high] theorem Asm {xs:List EG} {j:Nat} (h:j<xs.length):ER (xs.flatMap DT) (j*4) 4=some (DT xs[j]):=JB Gp h
@[simp high] theorem Ap7 {xs:List BP} {j:Nat} (h:j<xs.length):ER (xs.flatMap AB) (j*5) 5=some (AB xs[j]):=JB C9 h
@[simp high] theorem Ao8 {xs:List Ai} {j:Nat} (h:j<xs.length):ER (xs.flatMap Ah) (j*4) 4=some (Ah xs[j]):=JB Dh h
@[simp high] theorem Aqo {xs:List Eo} {j:Nat} (h:j<xs.length):ER (xs.flatMap Az) (j*8) 8=some (Az xs[j]):=JB Bh h
@[simp high] theorem AqY {xs:List Event} {j:Nat} (h:j<xs.length):ER (xs.flatMap BJ) (j*6) 6=some (BJ xs[j]):=JB CS h
@[simp high] theorem Aq7 (xs:List EG):(xs.flatMap DT).length=xs.length*4:=Iq Gp xs
@[simp high] theorem ArH {xs:List EG} {j:Nat} (h:j<xs.length) (a:Int) (b c:List Int) (d:Bool) {nb:Nat} (hb:nb=b.length) {nc:Nat} (hc:nc=c.length):putAt (xs.flatMap DT) (j*4) [.sc (.int .i64 a),.sl 0 1 nb (ints b),.sl 0 1 nc (ints c),.sc (.bool d)]=(xs.set j ⟨a,b,c,d⟩).flatMap DT:=by subst hb;subst hc;exact Ml Gp h ⟨a,b,c,d⟩
@[simp high] theorem Ao1 (xs:List BP):(xs.flatMap AB).length=xs.length*5:=Iq C9 xs
@[simp high] theorem Apz {xs:List BP} {j:Nat} (h:j<xs.length) (a:Bool) (b:Int) (c:List Int) (d:Int) (u:List Int) {nc:Nat} (hc:nc=c.length) {nu:Nat} (hu:nu=u.length):putAt (xs.flatMap AB) (j*5) [.sc (.bool a),.sc (.int .i64 b),.sl 0 1 nc (ints c),.sc (.int .i64 d),.sl 0 1 nu (ints u)]=(xs.set j ⟨⟨a,b,c⟩,d,u⟩).flatMap AB:=by subst hc;subst hu;exact Ml C9 h ⟨⟨a,b,c⟩,d,u⟩
@[simp high] theorem Al9 (xs:List Ai):(xs.flatMap Ah).length=xs.length*4:=Iq Dh xs
@[simp high] theorem AnW {xs:List Ai} {j:Nat} (h:j<xs.length) (a b:List Int) (c:List EG) (d:Int) {na:Nat} (ha:na=a.length) {nb:Nat} (hb:nb=b.length) {nc:Nat} (hc:nc=c.length):putAt (xs.flatMap Ah) (j*4) [.sl 0 1 na (ints a),.sl 0 1 nb (ints b),.sl 0 4 nc (c.flatMap DT),.sc (.int .i64 d)]=(xs.set j ⟨a,b,c,d⟩).flatMap Ah:=by subst ha;subst hb;subst hc;exact Ml Dh h ⟨a,b,c,d⟩
@[simp high] theorem AoX (xs:List Eo):(xs.flatMap Az).length=xs.length*8:=Iq Bh xs
@[simp high] theorem Apj {xs:List Eo} {j:Nat} (h:j<xs.length) (m n:Int) (o a:Bool) (b:Int) (c:List Int) (d:Int) (u:List Int) {nc:Nat} (hc:nc=c.length) {nu:Nat} (hu:nu=u.length):putAt (xs.flatMap Az) (j*8) [.sc (.int .i64 m),.sc (.int .i64 n),.sc (.bool o),.sc (.bool a),.sc (.int .i64 b),.sl 0 1 nc (ints c),.sc (.int .i64 d),.sl 0 1 nu (ints u)]=(xs.set j ⟨m,n,o,⟨⟨a,b,c⟩,d,u⟩⟩).flatMap Az:=by subst hc;subst hu;exact Ml Bh h ⟨m,n,o,⟨⟨a,b,c⟩,d,u⟩⟩
@[simp high] theorem Apw (xs:List Event):(xs.flatMap BJ).length=xs.length*6:=Iq CS xs
@[simp high] theorem Aqa {xs:List Event} {j:Nat} (h:j<xs.length) (m n:Int) (a:Int) (b c:List Int) (d:Bool) {nb:Nat} (hb:nb=b.length) {nc:Nat} (hc:nc=c.length):putAt (xs.flatMap BJ) (j*6) [.sc (.int .i64 m),.sc (.int .i64 n),.sc (.int .i64 a),.sl 0 1 nb (ints b),.sl 0 1 nc (ints c),.sc (.bool d)]=(xs.set j ⟨m,n,⟨a,b,c,d⟩⟩).flatMap BJ:=by subst hb;subst hc;exact Ml CS h ⟨m,n,⟨a,b,c,d⟩⟩
@[simp high] theorem Asb {xs:List EG} {j:Nat} (h:j<xs.length):(xs.flatMap DT)[j*4]? =some (.sc (.int .i64 xs[j].limit)):=by
 have:=Aq (o:=0) Gp h (by omega)
 simpa[DT]using this
@[simp high] theorem Ar2 {xs:List EG} {j:Nat} (h:j<xs.length):(xs.flatMap DT)[j*4+1]? =some (.sl 0 1 xs[j].drops.length (ints xs[j].drops)):=by
 have:=Aq (o:=1) Gp h (by omega)
 simpa[DT]using this
@[simp high] theorem Ash {xs:List EG} {j:Nat} (h:j<xs.length):(xs.flatMap DT)[j*4+2]? =some (.sl 0 1 xs[j].strips.length (ints xs[j].strips)):=by
 have:=Aq (o:=2) Gp h (by omega)
 simpa[DT]using this
@[simp high] theorem Asn {xs:List EG} {j:Nat} (h:j<xs.length):(xs.flatMap DT)[j*4+3]? =some (.sc (.bool xs[j].lists)):=by
 have:=Aq (o:=3) Gp h (by omega)
 simpa[DT]using this
@[simp high] theorem ApI {xs:List BP} {j:Nat} (h:j<xs.length):(xs.flatMap AB)[j*5]? =some (.sc (.bool xs[j].deal.ok)):=by
 have:=Aq (o:=0) C9 h (by omega)
 simpa[AB]using this
@[simp high] theorem Ap9 {xs:List BP} {j:Nat} (h:j<xs.length):(xs.flatMap AB)[j*5+1]? =some (.sc (.int .i64 xs[j].deal.version)):=by
 have:=Aq (o:=1) C9 h (by omega)
 simpa[AB]using this
@[simp high] theorem ApM {xs:List BP} {j:Nat} (h:j<xs.length):(xs.flatMap AB)[j*5+2]? =some (.sl 0 1 xs[j].deal.tags.length (ints xs[j].deal.tags)):=by
 have:=Aq (o:=2) C9 h (by omega)
 simpa[AB]using this
@[simp high] theorem ApQ {xs:List BP} {j:Nat} (h:j<xs.length):(xs.flatMap AB)[j*5+3]? =some (.sc (.int .i64 xs[j].tries)):=by
 have:=Aq (o:=3) C9 h (by omega)
 simpa[AB]using this
@[simp high] theorem Ap4 {xs:List BP} {j:Nat} (h:j<xs.length):(xs.flatMap AB)[j*5+4]? =some (.sl 0 1 xs[j].up.length (ints xs[j].up)):=by
 have:=Aq (o:=4) C9 h (by omega)
 simpa[AB]using this
@[simp high] theorem Aol {xs:List Ai} {j:Nat} (h:j<xs.length):(xs.flatMap Ah)[j*4]? =some (.sl 0 1 xs[j].versions.length (ints xs[j].versions)):=by
 have:=Aq (o:=0) Dh h (by omega)
 simpa[Ah]using this
@[simp high] theorem Ao2 {xs:List Ai} {j:Nat} (h:j<xs.length):(xs.flatMap Ah)[j*4+1]? =some (.sl 0 1 xs[j].tags.length (ints xs[j].tags)):=by
 have:=Aq (o:=1) Dh h (by omega)
 simpa[Ah]using this
@[simp high] theorem An0 {xs:List Ai} {j:Nat} (h:j<xs.length):(xs.flatMap Ah)[j*4+2]? =some (.sl 0 4 xs[j].path.length (xs[j].path.flatMap DT)):=by
 have:=Aq (o:=2) Dh h (by omega)
 simpa[Ah]using this
@[simp high] theorem Apb {xs:List Ai} {j:Nat} (h:j<xs.length):(xs.flatMap Ah)[j*4+3]? =some (.sc (.int .i64 xs[j].cls)):=by
 have:=Aq (o:=3) Dh h (by omega)
 simpa[Ah]using this
@[simp high] theorem Aqm {xs:List Eo} {j:Nat} (h:j<xs.length):(xs.flatMap Az)[j*8]? =some (.sc (.int .i64 xs[j].fin)):=by
 have:=Aq (o:=0) Bh h (by omega)
 simpa[Az]using this
@[simp high] theorem Aqv {xs:List Eo} {j:Nat} (h:j<xs.length):(xs.flatMap Az)[j*8+1]? =some (.sc (.int .i64 xs[j].tick)):=by
 have:=Aq (o:=1) Bh h (by omega)
 simpa[Az]using this
@[simp high] theorem Aqr {xs:List Eo} {j:Nat} (h:j<xs.length):(xs.flatMap Az)[j*8+2]? =some (.sc (.bool xs[j].on)):=by
 have:=Aq (o:=2) Bh h (by omega)
 simpa[Az]using this
@[simp high] theorem ApD {xs:List Eo} {j:Nat} (h:j<xs.length):(xs.flatMap Az)[j*8+3]? =some (.sc (.bool xs[j].dialed.deal.ok)):=by
 have:=Aq (o:=3) Bh h (by omega)
 simpa[Az]using this
@[simp high] theorem AqM {xs:List Eo} {j:Nat} (h:j<xs.length):(xs.flatMap Az)[j*8+4]? =some (.sc (.int .i64 xs[j].dialed.deal.version)):=by
 have:=Aq (o:=4) Bh h (by omega)
 simpa[Az]using this
@[simp high] theorem Aqb {xs:List Eo} {j:Nat} (h:j<xs.length):(xs.flatMap Az)[j*8+5]? =some (.sl 0 1 xs[j].dialed.deal.tags.length (ints xs[j].dialed.deal.tags)):=by
 have:=Aq (o:=5) Bh h (by omega)
 simpa[Az]using this
@[simp high] theorem ApP {xs:List Eo} {j:Nat} (h:j<xs.length):(xs.flatMap Az)[j*8+6]? =some (.sc (.int .i64 xs[j].dialed.tries)):=by
 have:=Aq (o:=6) Bh h (by omega)
 simpa[Az]using this
@[simp high] theorem ApR {xs:List Eo} {j:Nat} (h:j<xs.length):(xs.flatMap Az)[j*8+7]? =some (.sl 0 1 xs[j].dialed.up.length (ints xs[j].dialed.up)):=by
 have:=Aq (o:=7) Bh h (by omega)
 simpa[Az]using this
@[simp high] theorem Arn {xs:List Event} {j:Nat} (h:j<xs.length):(xs.flatMap BJ)[j*6]? =some (.sc (.int .i64 xs[j].kind)):=by
 have:=Aq (o:=0) CS h (by omega)
 simpa[BJ]using this
@[simp high] theorem AqW {xs:List Event} {j:Nat} (h:j<xs.length):(xs.flatMap BJ)[j*6+1]? =some (.sc (.int .i64 xs[j].n)):=by
 have:=Aq (o:=1) CS h (by omega)
 simpa[BJ]using this
@[simp high] theorem AqX {xs:List Event} {j:Nat} (h:j<xs.length):(xs.flatMap BJ)[j*6+2]? =some (.sc (.int .i64 xs[j].box.limit)):=by
 have:=Aq (o:=2) CS h (by omega)
 simpa[BJ]using this
@[simp high] theorem Aq9 {xs:List Event} {j:Nat} (h:j<xs.length):(xs.flatMap BJ)[j*6+3]? =some (.sl 0 1 xs[j].box.drops.length (ints xs[j].box.drops)):=by
 have:=Aq (o:=3) CS h (by omega)
 simpa[BJ]using this
@[simp high] theorem Arf {xs:List Event} {j:Nat} (h:j<xs.length):(xs.flatMap BJ)[j*6+4]? =some (.sl 0 1 xs[j].box.strips.length (ints xs[j].box.strips)):=by
 have:=Aq (o:=4) CS h (by omega)
 simpa[BJ]using this
@[simp high] theorem Ari {xs:List Event} {j:Nat} (h:j<xs.length):(xs.flatMap BJ)[j*6+5]? =some (.sc (.bool xs[j].box.lists)):=by
 have:=Aq (o:=5) CS h (by omega)
 simpa[BJ]using this
theorem K8 {α:Type} {f:α->List V} {e:Nat} (hf:∀x,(f x).length=e) {xs:List α} {j o n:Nat} (h:j<xs.length) (ho:o+n<=e):ER (xs.flatMap f) (j*e+o) n=some (((f xs[j]).drop o).take n):=by
 unfold ER
 have hl:=Iq hf xs
 have h2:j*e+e<=xs.length*e:=by
  have:=Nat.mul_le_mul_right e (show j+1<=xs.length by omega)
  rw[Nat.add_mul]at this;omega
 rw[hl,if_pos (by omega),<-List.drop_drop,RA hf,List.drop_eq_getElem_cons h,List.flatMap_cons,List.drop_append,List.take_append]
 have h3:=hf xs[j]
 rw[List.length_drop,h3]
 have:n-(e-o)=0:=by omega
 rw[this,List.take_zero,List.append_nil]
@[simp high] theorem ApN {xs:List Eo} {j:Nat} (h:j<xs.length):ER (xs.flatMap Az) (j*8+3) 5=some (AB xs[j].dialed):=K8 Bh h (by omega)
@[simp high] theorem AqS {xs:List Eo} {j:Nat} (h:j<xs.length):ER (xs.flatMap Az) (j*8+3) 3=some (AfJ xs[j].dialed.deal):=K8 Bh h (by omega)
@[simp high] theorem ApF {xs:List BP} {j:Nat} (h:j<xs.length):ER (xs.flatMap AB) (j*5) 3=some (AfJ xs[j].deal):=K8 (o:=0) C9 h (by omega)
@[simp high] theorem Aq5 {xs:List Event} {j:Nat} (h:j<xs.length):ER (xs.flatMap BJ) (j*6+2) 4=some (DT xs[j].box):=K8 CS h (by omega)
attribute [simp] Nat.add_one_le_iff AfJ DT AB Dj Ah Az Bu BJ
variable (R:Rel)
abbrev Vf:Prop:=∀a b c:Int,R [I a,I b,I c] [] (B (decide (b<=a/\a<=c))) []
variable (D:Dn)
theorem Aqt:Vf (Body D TW):=by
 intro a b c
 by_cases h1:b<=a<;>by_cases h2:a<=c<;>simp -implicitDefEqProofs [h1,h2]
theorem AIX:Vf (Body D AwZ):=by
 intro a b c
 by_cases h1:b<=a<;>by_cases h2:a<=c<;>simp -implicitDefEqProofs [h1,h2]
def nums:Nat->Int->List Int
 | 0,_=> []
 | n+1,k=>k::nums n (k+1)
@[simp] theorem AnC:∀(n:Nat) (k:Int),(nums n k).length=n
 | 0,_=>rfl
 | n+1,k=>by simp[nums,AnC n]
def mkL {α:Type} (mc:α->Nat) (mk:α->Int->α):List α->Int->List α
 | [],_=> []
 | x::r,k=>mk x k::mkL mc mk r (k+mc x)
section
variable {α:Type} {mc:α->Nat} {mk:α->Int->α}
@[simp] theorem Ao6:∀(xs:List α) (k:Int),(mkL mc mk xs k).length=xs.length
 | [],_=>rfl
 | x::r,k=>by simp[mkL,Ao6 r]
def mkJ (mc:α->Nat) (mk:α->Int->α) (xs:List α) (k:Int) (j:Nat):List α:=mkL mc mk (xs.take j) k++xs.drop j
@[simp] theorem Asj {xs:List α} {k:Int} {j:Nat} (h:j<=xs.length):(mkJ mc mk xs k j).length=xs.length:=by simp[mkJ];omega
end
theorem BA {α:Type} {f:α->List V} {e:Nat} (hf:∀x,(f x).length=e) {o:Nat} (ho:o<e) {v:V} {y:α}:∀ {xs:List α} {j:Nat} (h:j<xs.length),f y=(f xs[j]).set o v->(xs.flatMap f).set (j*e+o) v=(xs.set j y).flatMap f
 | [],j,h,_=>by simp at h
 | x::xs,0,_,hy=>by
  simp only[List.flatMap_cons,List.set_cons_zero,Nat.zero_mul,Nat.zero_add]
  rw[List.set_append_left _ _ (by rw[hf];exact ho),hy]
  rfl
 | x::xs,j+1,h,hy=>by
  simp only[List.flatMap_cons,List.set_cons_succ]
  have e1:(j+1)*e+o=(f x).length+(j*e+o):=by rw[hf,Nat.add_mul];omega
  rw[e1,List.set_append_right _ _ (by omega),Nat.add_sub_cancel_left,BA hf ho (by simpa using h) (by simpa using hy)]
@[simp high] theorem Ase {xs:List EG} {j:Nat} (h:j<xs.length) (a:Int):(xs.flatMap DT).set (j*4) (.sc (.int .i64 a))=(xs.set j ⟨a,xs[j].drops,xs[j].strips,xs[j].lists⟩).flatMap DT:=BA (o:=0) Gp (by omega) h rfl
@[simp high] theorem Asd {xs:List EG} {j:Nat} (h:j<xs.length) {n:Nat} (a:List Int) (hn:n=a.length):(xs.flatMap DT).set (j*4+1) (.sl 0 1 n (ints a))=(xs.set j ⟨xs[j].limit,a,xs[j].strips,xs[j].lists⟩).flatMap DT:=by subst hn;exact BA (o:=1) Gp (by omega) h rfl
@[simp high] theorem ArW {xs:List EG} {j:Nat} (h:j<xs.length) {n:Nat} (a:List Int) (hn:n=a.length):(xs.flatMap DT).set (j*4+2) (.sl 0 1 n (ints a))=(xs.set j ⟨xs[j].limit,xs[j].drops,a,xs[j].lists⟩).flatMap DT:=by subst hn;exact BA (o:=2) Gp (by omega) h rfl
@[simp high] theorem Asg {xs:List EG} {j:Nat} (h:j<xs.length) (a:Bool):(xs.flatMap DT).set (j*4+3) (.sc (.bool a))=(xs.set j ⟨xs[j].limit,xs[j].drops,xs[j].strips,a⟩).flatMap DT:=BA (o:=3) Gp (by omega) h rfl
@[simp high] theorem Aqi {xs:List BP} {j:Nat} (h:j<xs.length) (a:Bool):(xs.flatMap AB).set (j*5) (.sc (.bool a))=(xs.set j ⟨⟨a,xs[j].deal.version,xs[j].deal.tags⟩,xs[j].tries,xs[j].up⟩).flatMap AB:=BA (o:=0) C9 (by omega) h rfl
@[simp high] theorem ApS {xs:List BP} {j:Nat} (h:j<xs.length) (a:Int):(xs.flatMap AB).set (j*5+1) (.sc (.int .i64 a))=(xs.set j ⟨⟨xs[j].deal.ok,a,xs[j].deal.tags⟩,xs[j].tries,xs[j].up⟩).flatMap AB:=BA (o:=1) C9 (by omega) h rfl
@[simp high] theorem AqI {xs:List BP} {j:Nat} (h:j<xs.length) {n:Nat} (a:List Int) (hn:n=a.length):(xs.flatMap AB).set (j*5+2) (.sl 0 1 n (ints a))=(xs.set j ⟨⟨xs[j].deal.ok,xs[j].deal.version,a⟩,xs[j].tries,xs[j].up⟩).flatMap AB:=by subst hn;exact BA (o:=2) C9 (by omega) h rfl
@[simp high] theorem ApO {xs:List BP} {j:Nat} (h:j<xs.length) (a:Int):(xs.flatMap AB).set (j*5+3) (.sc (.int .i64 a))=(xs.set j ⟨⟨xs[j].deal.ok,xs[j].deal.version,xs[j].deal.tags⟩,a,xs[j].up⟩).flatMap AB:=BA (o:=3) C9 (by omega) h rfl
@[simp high] theorem Aqh {xs:List BP} {j:Nat} (h:j<xs.length) {n:Nat} (a:List Int) (hn:n=a.length):(xs.flatMap AB).set (j*5+4) (.sl 0 1 n (ints a))=(xs.set j ⟨⟨xs[j].deal.ok,xs[j].deal.version,xs[j].deal.tags⟩,xs[j].tries,a⟩).flatMap AB:=by subst hn;exact BA (o:=4) C9 (by omega) h rfl
@[simp high] theorem Aof {xs:List Ai} {j:Nat} (h:j<xs.length) {n:Nat} (a:List Int) (hn:n=a.length):(xs.flatMap Ah).set (j*4) (.sl 0 1 n (ints a))=(xs.set j ⟨a,xs[j].tags,xs[j].path,xs[j].cls⟩).flatMap Ah:=by subst hn;exact BA (o:=0) Dh (by omega) h rfl
@[simp high] theorem Apf {xs:List Ai} {j:Nat} (h:j<xs.length) {n:Nat} (a:List Int) (hn:n=a.length):(xs.flatMap Ah).set (j*4+1) (.sl 0 1 n (ints a))=(xs.set j ⟨xs[j].versions,a,xs[j].path,xs[j].cls⟩).flatMap Ah:=by subst hn;exact BA (o:=1) Dh (by omega) h rfl
@[simp high] theorem VN {xs:List Ai} {j:Nat} (h:j<xs.length) {n:Nat} (a:List EG) (hn:n=a.length):(xs.flatMap Ah).set (j*4+2) (.sl 0 4 n (a.flatMap DT))=(xs.set j ⟨xs[j].versions,xs[j].tags,a,xs[j].cls⟩).flatMap Ah:=by subst hn;exact BA (o:=2) Dh (by omega) h rfl
@[simp high] theorem Aos {xs:List Ai} {j:Nat} (h:j<xs.length) (a:Int):(xs.flatMap Ah).set (j*4+3) (.sc (.int .i64 a))=(xs.set j ⟨xs[j].versions,xs[j].tags,xs[j].path,a⟩).flatMap Ah:=BA (o:=3) Dh (by omega) h rfl
@[simp high] theorem Aqp {xs:List Eo} {j:Nat} (h:j<xs.length) (a:Int):(xs.flatMap Az).set (j*8) (.sc (.int .i64 a))=(xs.set j ⟨a,xs[j].tick,xs[j].on,⟨⟨xs[j].dialed.deal.ok,xs[j].dialed.deal.version,xs[j].dialed.deal.tags⟩,xs[j].dialed.tries,xs[j].dialed.up⟩⟩).flatMap Az:=BA (o:=0) Bh (by omega) h rfl
@[simp high] theorem AqG {xs:List Eo} {j:Nat} (h:j<xs.length) (a:Int):(xs.flatMap Az).set (j*8+1) (.sc (.int .i64 a))=(xs.set j ⟨xs[j].fin,a,xs[j].on,⟨⟨xs[j].dialed.deal.ok,xs[j].dialed.deal.version,xs[j].dialed.deal.tags⟩,xs[j].dialed.tries,xs[j].dialed.up⟩⟩).flatMap Az:=BA (o:=1) Bh (by omega) h rfl
@[simp high] theorem ApL {xs:List Eo} {j:Nat} (h:j<xs.length) (a:Bool):(xs.flatMap Az).set (j*8+2) (.sc (.bool a))=(xs.set j ⟨xs[j].fin,xs[j].tick,a,⟨⟨xs[j].dialed.deal.ok,xs[j].dialed.deal.version,xs[j].dialed.deal.tags⟩,xs[j].dialed.tries,xs[j].dialed.up⟩⟩).flatMap Az:=BA (o:=2) Bh (by omega) h rfl
@[simp high] theorem ApK {xs:List Eo} {j:Nat} (h:j<xs.length) (a:Bool):(xs.flatMap Az).set (j*8+3) (.sc (.bool a))=(xs.set j ⟨xs[j].fin,xs[j].tick,xs[j].on,⟨⟨a,xs[j].dialed.deal.version,xs[j].dialed.deal.tags⟩,xs[j].dialed.tries,xs[j].dialed.up⟩⟩).flatMap Az:=BA (o:=3) Bh (by omega) h rfl
@[simp high] theorem AqR {xs:List Eo} {j:Nat} (h:j<xs.length) (a:Int):(xs.flatMap Az).set (j*8+4) (.sc (.int .i64 a))=(xs.set j ⟨xs[j].fin,xs[j].tick,xs[j].on,⟨⟨xs[j].dialed.deal.ok,a,xs[j].dialed.deal.tags⟩,xs[j].dialed.tries,xs[j].dialed.up⟩⟩).flatMap Az:=BA (o:=4) Bh (by omega) h rfl
@[simp high] theorem Ap8 {xs:List Eo} {j:Nat} (h:j<xs.length) {n:Nat} (a:List Int) (hn:n=a.length):(xs.flatMap Az).set (j*8+5) (.sl 0 1 n (ints a))=(xs.set j ⟨xs[j].fin,xs[j].tick,xs[j].on,⟨⟨xs[j].dialed.deal.ok,xs[j].dialed.deal.version,a⟩,xs[j].dialed.tries,xs[j].dialed.up⟩⟩).flatMap Az:=by subst hn;exact BA (o:=5) Bh (by omega) h rfl
@[simp high] theorem ApU {xs:List Eo} {j:Nat} (h:j<xs.length) (a:Int):(xs.flatMap Az).set (j*8+6) (.sc (.int .i64 a))=(xs.set j ⟨xs[j].fin,xs[j].tick,xs[j].on,⟨⟨xs[j].dialed.deal.ok,xs[j].dialed.deal.version,xs[j].dialed.deal.tags⟩,a,xs[j].dialed.up⟩⟩).flatMap Az:=BA (o:=6) Bh (by omega) h rfl
@[simp high] theorem Aqy {xs:List Eo} {j:Nat} (h:j<xs.length) {n:Nat} (a:List Int) (hn:n=a.length):(xs.flatMap Az).set (j*8+7) (.sl 0 1 n (ints a))=(xs.set j ⟨xs[j].fin,xs[j].tick,xs[j].on,⟨⟨xs[j].dialed.deal.ok,xs[j].dialed.deal.version,xs[j].dialed.deal.tags⟩,xs[j].dialed.tries,a⟩⟩).flatMap Az:=by subst hn;exact BA (o:=7) Bh (by omega) h rfl
@[simp high] theorem AqV {xs:List Event} {j:Nat} (h:j<xs.length) (a:Int):(xs.flatMap BJ).set (j*6) (.sc (.int .i64 a))=(xs.set j ⟨a,xs[j].n,⟨xs[j].box.limit,xs[j].box.drops,xs[j].box.strips,xs[j].box.lists⟩⟩).flatMap BJ:=BA (o:=0) CS (by omega) h rfl
@[simp high] theorem Arl {xs:List Event} {j:Nat} (h:j<xs.length) (a:Int):(xs.flatMap BJ).set (j*6+1) (.sc (.int .i64 a))=(xs.set j ⟨xs[j].kind,a,⟨xs[j].box.limit,xs[j].box.drops,xs[j].box.strips,xs[j].box.lists⟩⟩).flatMap BJ:=BA (o:=1) CS (by omega) h rfl
@[simp high] theorem Arp {xs:List Event} {j:Nat} (h:j<xs.length) (a:Int):(xs.flatMap BJ).set (j*6+2) (.sc (.int .i64 a))=(xs.set j ⟨xs[j].kind,xs[j].n,⟨a,xs[j].box.drops,xs[j].box.strips,xs[j].box.lists⟩⟩).flatMap BJ:=BA (o:=2) CS (by omega) h rfl
@[simp high] theorem Arm {xs:List Event} {j:Nat} (h:j<xs.length) {n:Nat} (a:List Int) (hn:n=a.length):(xs.flatMap BJ).set (j*6+3) (.sl 0 1 n (ints a))=(xs.set j ⟨xs[j].kind,xs[j].n,⟨xs[j].box.limit,a,xs[j].box.strips,xs[j].box.lists⟩⟩).flatMap BJ:=by subst hn;exact BA (o:=3) CS (by omega) h rfl
@[simp high] theorem Aq1 {xs:List Event} {j:Nat} (h:j<xs.length) {n:Nat} (a:List Int) (hn:n=a.length):(xs.flatMap BJ).set (j*6+4) (.sl 0 1 n (ints a))=(xs.set j ⟨xs[j].kind,xs[j].n,⟨xs[j].box.limit,xs[j].box.drops,a,xs[j].box.lists⟩⟩).flatMap BJ:=by subst hn;exact BA (o:=4) CS (by omega) h rfl
@[simp high] theorem Arj {xs:List Event} {j:Nat} (h:j<xs.length) (a:Bool):(xs.flatMap BJ).set (j*6+5) (.sc (.bool a))=(xs.set j ⟨xs[j].kind,xs[j].n,⟨xs[j].box.limit,xs[j].box.drops,xs[j].box.strips,a⟩⟩).flatMap BJ:=BA (o:=5) CS (by omega) h rfl
def Py (n:Int):Prop:= -9223372036854775808<=n/\n<=9223372036854775807
theorem AbN {α:Type} {f:α->List V} {p:α->Prop}:∀ {xs:List (List V)},(∀x,x∈xs->∃d,x=f d/\p d)->∃ds:List α,xs=ds.map f/\∀d,d∈ds->p d
 | [],_=>⟨[],rfl,by simp⟩
 | x::xs,h=>by
  obtain⟨d,rfl,hd⟩:=h x (by simp)
  obtain⟨ds,rfl,hds⟩:=AbN (xs:=xs) fun y hy=>h y (by simp[hy])
  exact⟨d::ds,rfl,by intro y hy;rcases List.mem_cons.1 hy with rfl | hy;exact hd;exact hds y hy⟩
theorem AqT {α:Type} {y:Ty} {f:α->List V} {p:α->Prop} (hf:∀cs,Dat y cs->∃d,cs=f d/\p d) {cs:List V} (h:Dat (.sl y) cs):
 ∃ds:List α,cs=[.sl 0 y.cells ds.length (ds.flatMap f)]/\ds.length<=maxLen/\∀d,d∈ds->p d:=by
 simp only[Dat]at h
 obtain⟨xs,h1,h2,rfl⟩:=h
 obtain⟨ds,rfl,h3⟩:=AbN (f:=f) (p:=p) (xs:=xs) fun x hx=>hf x (h2 x hx)
 exact⟨ds,by simp[List.flatMap_def],by simpa using h1,h3⟩
def DK (xs:List Int):Prop:=∀x,x∈xs->Py x
def AK9 (d:Aaf):Prop:=Py d.version/\DK d.tags
def AyE (d:BP):Prop:=AK9 d.deal/\Py d.tries/\DK d.up
theorem Akl {w:World} (h:Af w<=4194304):w.log.length<=4194304:=by have:=J9 (f:=Ip) (xs:=w.log);unfold Af at h;omega
theorem FE {w:World} (h:Af w<=4194304):w.ends.length<=4194304:=by have:=J9 (f:=Am) (xs:=w.ends);unfold Af at h;omega
theorem XY {w:World} (h:Af w<=4194304):w.stage.length<=4194304:=by have:=J9 (f:=Cb) (xs:=w.stage);unfold Af at h;omega
theorem Aqs (a b:Int):(a==b)=decide (a=b):=by by_cases h:a=b<;>simp[h]
abbrev Uu:Prop:=∀(xs ys:List Int),xs.length<=maxLen->ys.length<=maxLen->R [.sl 1 1 xs.length (ints xs),.sl 1 1 ys.length (ints ys)] [] (B (decide (xs=ys))) []
theorem Ad3 {xs:List Int} {v:Int} {j:Nat} (h:j<xs.length) (hp:v∉xs.take j) (hv:¬xs[j]=v):v∉xs.take (j+1):=by
 rw[List.take_add_one,List.getElem?_eq_getElem h]
 intro hm
 rcases List.mem_append.1 hm with hm | hm
 ·exact hp hm
 ·simp at hm;exact hv hm.symm
theorem Ag8 {xs:List Int} {v:Int} {j:Nat} (h:xs.length<=j) (hp:v∉xs.take j):v∉xs:=by rwa [List.take_of_length_le h]at hp
theorem Amb {xs:List Int} {v:Int} {j:Nat} (h:j<xs.length) (hv:xs[j]=v):v∈xs:=by rw[<-hv];exact List.getElem_mem h
def AIo (xs:List Int) (v:Int):Int:=if v∈xs then(xs.idxOf v:Nat)else -1
theorem AJL {xs:List Int} {v:Int} {j:Nat} (h:j<xs.length) (hp:v∉xs.take j) (hv:xs[j]=v):AIo xs v=j:=by
 unfold AIo
 rw[if_pos (Amb h hv)]
 congr 1
 have e:xs=xs.take j++v::xs.drop (j+1):=by
  conv=>lhs;rw[<-List.take_append_drop j xs,List.drop_eq_getElem_cons h,hv]
 rw[e,List.idxOf_append,if_neg hp]
 simp
 omega
theorem AKM {xs:List Int} {v:Int}:(0<=AIo xs v)=(v∈xs):=by
 unfold AIo
 by_cases h:v∈xs<;>simp[h]
abbrev AGq:Prop:=∀(xs:List Int) (v:Int),xs.length<=maxLen->R [.sl 1 1 xs.length (ints xs),I v] [] (I (AIo xs v)) []
theorem AKW:AGq (Body D AsX):=by
 intro xs v hl
 unfold maxLen at hl
 simp -implicitDefEqProofs
 refine Ag (fun k s=>∃j,j+k=xs.length/\v∉xs.take j/\s=⟨[.sl 1 1 xs.length (ints xs),.sc (.int .i64 v),.undef,.undef,.sc (.int .i64 xs.length),.sc (.int .i64 j),.undef,.undef],[]⟩) ?_ xs.length _ ⟨0,by simp,by simp,by simp⟩
 intro k s ⟨j,hj,hp,hs⟩
 subst hs
 by_cases hjn:j<xs.length
 ·have hw:=Cv (j:=j) (by omega)
  by_cases he:v=xs[j]
  ·have hx:=AJL hjn hp he.symm
   simp -implicitDefEqProofs [hjn,<-he,hx]
  ·simp -implicitDefEqProofs [hjn,he]
   exact⟨k-1,by omega,j+1,by omega,Ad3 hjn hp (fun h=>he h.symm),by simp[hw]⟩
 ·have hx:AIo xs v= -1:=by unfold AIo;rw[if_neg (Ag8 (by omega) hp)]
  simp -implicitDefEqProofs [hjn,hx]
abbrev UQ:Prop:=∀(xs:List Int) (v:Int),xs.length<=maxLen->R [.sl 1 1 xs.length (ints xs),I v] [] (B (decide (v∈xs))) []
theorem AHI (hI:AGq (D 389)):UQ (Body D Ar5):=by
 intro xs v hl
 simp -implicitDefEqProofs
 refine Aa (hI xs v hl) ?_
 simp -implicitDefEqProofs [AKM]
theorem AoO:UQ (Body D QH):=by
 intro xs v hl
 unfold maxLen at hl
 simp -implicitDefEqProofs
 refine Ag (fun k s=>∃j,j+k=xs.length/\v∉xs.take j/\s=⟨[.sl 1 1 xs.length (ints xs),.sc (.int .i64 v),.undef,.sc (.int .i64 j),.undef,.undef],[]⟩) ?_ xs.length _ ⟨0,by simp,by simp,by simp⟩
 intro k s ⟨j,hj,hp,hs⟩
 subst hs
 by_cases hjn:j<xs.length
 ·have hw:=Cv (j:=j) (by omega)
  by_cases he:xs[j]=v
  ·have hx:=Amb hjn he
   simp -implicitDefEqProofs [hjn,he,hx]
  ·simp -implicitDefEqProofs [hjn,he]
   exact⟨k-1,by omega,j+1,by omega,Ad3 hjn hp he,by simp[hw]⟩
 ·have hx:=Ag8 (by omega) hp
  simp -implicitDefEqProofs [hjn,hx]
def Lj (v:Int) (d:BP):Bool:= !d.deal.ok||(decide (d.deal.version<v)&&decide (v∈d.up))
def goodD (v:Int) (d:BP):Bool:= !Lj v d&&decide (v<=d.deal.version)
def cntF {α:Type} (f:α->Bool) (xs:List α):Nat:=(xs.filter f).length
theorem AaP {α:Type} {f:α->Bool} {xs:List α} {j:Nat} (h:j<xs.length):cntF f (xs.take (j+1))=cntF f (xs.take j)+(if f xs[j]then 1 else 0):=by
 unfold cntF
 rw[List.take_add_one,List.getElem?_eq_getElem h,List.filter_append,List.length_append]
 congr 1
 by_cases hf:f xs[j]<;>simp[hf]
theorem Afa {α:Type} {f:α->Bool} {xs:List α} {j:Nat} (h:j<=xs.length):cntF f (xs.take j)<=j:=by
 unfold cntF
 have:=List.length_filter_le f (xs.take j)
 simp at this
 omega
theorem Afj {α:Type} {f:α->Bool} {xs:List α} {j:Nat} (h:xs.length<=j):cntF f (xs.take j)=cntF f xs:=by rw[List.take_of_length_le h]
abbrev NV:Prop:=∀(xs:List BP) (v:Int),xs.length<=maxLen->(∀(j:Nat) (h:j<xs.length),xs[j].up.length<=maxLen)->
 R [.sl 1 5 xs.length (xs.flatMap AB),I v] [] (.tup [I (cntF (goodD v) xs),I (cntF (Lj v) xs)]) []
theorem Af7 (hH:UQ (D 166)):NV (Body D Mg):=by
 intro xs v hl hu
 unfold maxLen at hl
 simp -implicitDefEqProofs
 refine Ag (fun k s=>∃j o0,j+k=xs.length/\s=⟨[.sl 1 5 xs.length (xs.flatMap AB),.sc (.int .i64 v),.undef,.undef,.sc (.int .i64 (cntF (goodD v) (xs.take j))),.sc (.int .i64 (cntF (Lj v) (xs.take j))),.sc (.int .i64 j),.undef,.undef,.undef,.undef],[o0]⟩) ?_ xs.length _ ⟨0,.free,by simp,by simp[cntF]⟩
 intro k s ⟨j,o0,hj,hs⟩
 subst hs
 by_cases hjn:j<xs.length
 ·have hw:=Cv (j:=j) (by omega)
  have hc:=AaP (f:=goodD v) hjn
  have hb:=AaP (f:=Lj v) hjn
  have hcl:=Afa (f:=goodD v) (xs:=xs) (j:=j) (by omega)
  have hbl:=Afa (f:=Lj v) (xs:=xs) (j:=j) (by omega)
  have hw2:IntKind.i64.wrap ((cntF (goodD v) (xs.take j):Int)+1)=(cntF (goodD v) (xs.take j)+1:Nat):=by rw[Ad (by omega) (by omega)];simp
  have hw3:IntKind.i64.wrap ((cntF (Lj v) (xs.take j):Int)+1)=(cntF (Lj v) (xs.take j)+1:Nat):=by rw[Ad (by omega) (by omega)];simp
  have fin:∀(a b:Bool),goodD v xs[j]=a->Lj v xs[j]=b->∀x y:Int,x=((cntF (goodD v) (xs.take j)+(if a then 1 else 0):Nat):Int)->y=((cntF (Lj v) (xs.take j)+(if b then 1 else 0):Nat):Int)->
   x=cntF (goodD v) (xs.take (j+1))/\y=cntF (Lj v) (xs.take (j+1)):=by
   intro a b ha hb' x y hx hy
   rw[hc,hb,ha,hb']
   exact⟨hx,hy⟩
  by_cases h1:xs[j].deal.ok=true
  ·by_cases h2:xs[j].deal.version<v
   ·simp -implicitDefEqProofs [hjn,h1,h2]
    refine Aa (hH xs[j].up v (hu j hjn)) ?_
    by_cases h3:v∈xs[j].up
    ·have g:=fin false true (by simp[goodD,Lj,h1,h2,h3]) (by simp[Lj,h1,h2,h3]) _ _ rfl rfl
     simp -implicitDefEqProofs [h3]
     exact⟨k-1,by omega,j+1,by omega,by simpa using g.1,by rw[hw3];simpa using g.2,by simp[hw]⟩
    ·have h4:¬v<=xs[j].deal.version:=by omega
     have g:=fin false false (by simp[goodD,Lj,h1,h2,h3,h4]) (by simp[Lj,h1,h2,h3]) _ _ rfl rfl
     simp -implicitDefEqProofs [h3,h4]
     exact⟨k-1,by omega,j+1,by omega,by simpa using g.1,by simpa using g.2,by simp[hw]⟩
   ·have h4:v<=xs[j].deal.version:=by omega
    have g:=fin true false (by simp[goodD,Lj,h1,h2,h4]) (by simp[Lj,h1,h2]) _ _ rfl rfl
    simp -implicitDefEqProofs [hjn,h1,h2,h4]
    exact⟨k-1,by omega,j+1,by omega,by rw[hw2];simpa using g.1,by simpa using g.2,by simp[hw]⟩
  ·have g:=fin false true (by simp[goodD,Lj,h1]) (by simp[Lj,h1]) _ _ rfl rfl
   simp -implicitDefEqProofs [hjn,h1]
   exact⟨k-1,by omega,j+1,by omega,by simpa using g.1,by rw[hw3];simpa using g.2,by simp[hw]⟩
 ·have hx:=Afj (f:=goodD v) (xs:=xs) (j:=j) (by omega)
  have hy:=Afj (f:=Lj v) (xs:=xs) (j:=j) (by omega)
  simp -implicitDefEqProofs [hjn,hx,hy]
abbrev PN:Prop:=∀(d:BP) (v:Int),d.up.length<=maxLen->R [arg (AB d),I v] [] (B (Lj v d)) []
theorem Aep (hM:NV (D 155)):PN (Body D Kw):=by
 intro d v hu
 simp -implicitDefEqProofs
 refine Aa (hM [d] v (by unfold maxLen;simp) (fun j h=>by have e:j=0:=(by simpa using h);subst e;exact hu)) ?_
 by_cases h:Lj v d<;>simp -implicitDefEqProofs [cntF,h]
theorem AKv (hH:UQ (D 188)):PN (Body D Ayx):=by
 intro d v hu
 by_cases h1:d.deal.ok=true
 ·by_cases h2:d.deal.version<v
  ·simp -implicitDefEqProofs [h1,h2]
   refine Aa (hH d.up v hu) ?_
   simp -implicitDefEqProofs [Lj,h1,h2]
  ·simp -implicitDefEqProofs [h1,h2,Lj]
 ·simp -implicitDefEqProofs [h1,Lj]
theorem AGt (hB:PN (D 229)):PN (Body D Avg):=by
 intro d v hu
 simp -implicitDefEqProofs
 refine Aa (hB d v hu) ?_
 simp -implicitDefEqProofs
set_option maxRecDepth 20000
abbrev M6 (a b c:Int):Prop:=b<=a/\a<=c
def J6 (g b l p:Int):Int:=
 if¬M6 g 0 10000∨¬M6 b 0 10000∨¬M6 l 1 10000∨¬M6 p 0 100 then 0
 else if 100*b>p*l/\100*b>p*(g+b)then 2
 else if g+b<l then 0
 else if 100*b<=p*(g+b)then 1
 else 2
abbrev RH:Prop:=∀g b l p:Int,R [I g,I b,I l,I p] [] (I (J6 g b l p)) []
theorem AdN {p x:Int} (h1:0<=p) (h2:p<=100) (h3:0<=x) (h4:x<=20000):IntKind.i64.wrap (p*x)=p*x:=by
 have a1:0<=p*x:=Int.mul_nonneg h1 h3
 have a2:p*x<=100*20000:=Int.mul_le_mul h2 h4 h3 (by omega)
 exact Ad (by omega) (by omega)
theorem Agg (hI:Vf (D 71)):RH (Body D Ma):=by
 intro g b l p
 simp -implicitDefEqProofs
 refine Aa (hI _ _ _) ?_
 by_cases h1:M6 g 0 10000
 rotate_left
 ·simp -implicitDefEqProofs [h1,J6]
 simp -implicitDefEqProofs [h1]
 refine Aa (hI _ _ _) ?_
 by_cases h2:M6 b 0 10000
 rotate_left
 ·simp -implicitDefEqProofs [h2,J6]
 simp -implicitDefEqProofs [h2]
 refine Aa (hI _ _ _) ?_
 by_cases h3:M6 l 1 10000
 rotate_left
 ·simp -implicitDefEqProofs [h3,J6]
 simp -implicitDefEqProofs [h3]
 refine Aa (hI _ _ _) ?_
 by_cases h4:M6 p 0 100
 rotate_left
 ·simp -implicitDefEqProofs [h4,J6]
 have w1:IntKind.i64.wrap (100*b)=100*b:=Ad (by omega) (by omega)
 have w2:=AdN h4.1 h4.2 (x:=l) (by omega) (by omega)
 have w3:=AdN h4.1 h4.2 (x:=g+b) (by omega) (by omega)
 have w4:IntKind.i64.wrap (g+b)=g+b:=Ad (by omega) (by omega)
 have e:J6 g b l p=if 100*b>p*l/\100*b>p*(g+b)then 2 else if g+b<l then 0 else if 100*b<=p*(g+b)then 1 else 2:=by unfold J6;rw[if_neg (by simp[h1,h2,h3,h4])]
 rw[e]
 clear e
 by_cases c1:p*l<100*b
 ·by_cases c2:p*(g+b)<100*b
  ·simp -implicitDefEqProofs [h4,w1,w2,w3,w4,c1,c2]
  ·have c3:100*b<=p*(g+b):=by omega
   by_cases c4:g+b<l
   ·simp -implicitDefEqProofs [h4,w1,w2,w3,w4,c1,c2,c3,c4]
   ·simp -implicitDefEqProofs [h4,w1,w2,w3,w4,c1,c2,c3,c4]
 ·by_cases c4:g+b<l
  ·simp -implicitDefEqProofs [h4,w1,w2,w3,w4,c1,c4]
  ·by_cases c3:100*b<=p*(g+b)
   ·simp -implicitDefEqProofs [h4,w1,w2,w3,w4,c1,c3,c4]
   ·simp -implicitDefEqProofs [h4,w1,w2,w3,w4,c1,c3,c4]
def Rc {α:Type} (p:α->Bool):List α->Int->Int
 | [],_=> -1
 | x::r,i=>if p x then i else Rc p r (i+1)
theorem AkE {α:Type} {p:α->Bool} {xs:List α} {j:Nat} (h:j<xs.length):Rc p (xs.drop j) j=if p xs[j]then(j:Int)else Rc p (xs.drop (j+1)) ((j:Int)+1):=by
 rw[List.drop_eq_getElem_cons h];rfl
theorem Am6 {α:Type} {p:α->Bool} {xs:List α} {j:Nat} (h:xs.length<=j):Rc p (xs.drop j) j= -1:=by rw[List.drop_eq_nil_of_le h];rfl
theorem AjA {α:Type} {p:α->Bool}:∀ {xs:List α} {i:Int},0<=i->(0<=Rc p xs i)=(xs.any p=true)
 | [],i,_=>by simp[Rc]
 | x::r,i,h=>by
  by_cases hp:p x=true
  ·simp[Rc,hp,h]
  ·have:=AjA (p:=p) (xs:=r) (i:=i+1) (by omega)
   simp[Rc,hp]at *
   exact this
def Atz (caps:List V):Prop:=(∀(H:Hp) (n:Nat),Gi H n (caps.map fun v=>(false,v))=some [])/\(∀(H Hr:Hp) (n:Nat),F6 H Hr n (caps.map fun v=>(false,v))=some caps)/\∀H:Hp,AlY H caps=some caps
theorem Api:Atz []:=⟨fun _ _=>rfl,fun _ _ _=>rfl,fun _=>rfl⟩
theorem AzW {v:V} {r:List V} (hv:∀H,ro H v=some v) (hv2:∀H,ro2 H v=some v) (h:Atz r):Atz (v::r):=
 ⟨fun H n=>h.1 H n,fun H Hr n=>by simp only[List.map_cons,F6,hv,h.2.1],fun H=>by simp only[AlY,hv2,h.2.2]⟩
theorem ABB {a:Int} {r:List V} (h:Atz r):Atz (.rptr 1 [.sc (.int .i64 a)] 0::r):=AzW (fun H=>by simp) (fun H=>by simp) h
abbrev Axr (D:Dn) (R:Rel):Prop:=∀(xs:List Int) (g:Nat) (caps:List V) (p:Int->Bool),xs.length<=maxLen->Atz caps->(∀x:Int,D g (I x::caps) [] (B (p x)) [])->
 R [.sl 1 1 xs.length (ints xs),.fn g caps] [] (I (Rc p xs 0)) []
theorem AHv:Axr D (Body D ArL):=by
 intro xs g caps p hl hc hp
 unfold maxLen at hl
 simp -implicitDefEqProofs
 refine Ag (fun k s=>∃j,j+k=xs.length/\Rc p xs 0=Rc p (xs.drop j) j/\s=⟨[.sl 1 1 xs.length (ints xs),.fn g caps,.undef,.undef,.sc (.int .i64 xs.length),.sc (.int .i64 j),.undef,.undef],[]⟩) ?_ xs.length _ ⟨0,by simp,by simp,by simp⟩
 intro k s ⟨j,hj,hi,hs⟩
 subst hs
 by_cases hjn:j<xs.length
 ·have hw:=Cv (j:=j) (by omega)
  rw[AkE hjn]at hi
  simp -implicitDefEqProofs [hjn,hc.1,hc.2.1]
  refine Aa (hp xs[j]) ?_
  by_cases he:p xs[j]=true
  ·rw[if_pos he]at hi
   simp -implicitDefEqProofs [he,hi]
  ·rw[if_neg he]at hi
   simp -implicitDefEqProofs [he]
   exact⟨k-1,by omega,j+1,by omega,by simpa using hi,by simp[hw]⟩
 ·rw[Am6 (by omega)]at hi
  simp -implicitDefEqProofs [hjn,hi]
abbrev Ate (D:Dn) (R:Rel):Prop:=∀(xs:List Int) (g:Nat) (caps:List V) (p:Int->Bool),xs.length<=maxLen->Atz caps->(∀x:Int,D g (I x::caps) [] (B (p x)) [])->
 R [.sl 1 1 xs.length (ints xs),.fn g caps] [] (B (xs.any p)) []
theorem AD8 (hI:Axr D (D 404)):Ate D (Body D Aqw):=by
 intro xs g caps p hl hc hp
 simp -implicitDefEqProofs [hc.2.2]
 refine Aa (hI xs g caps p hl hc hp) ?_
 have e:decide (0<=Rc p xs 0)=xs.any p:=by rw[Bool.eq_iff_iff];simp only[decide_eq_true_eq];rw[AjA (by omega)]
 simp -implicitDefEqProofs [e]
def allIn (xs:List Int) (lo hi:Int):Bool:=xs.all fun x=>decide (M6 x lo hi)
abbrev AsS:Prop:=∀(xs:List Int) (lo hi:Int),xs.length<=maxLen->R [.sl 1 1 xs.length (ints xs),I lo,I hi] [] (B (allIn xs lo hi)) []
abbrev AvQ:Prop:=∀(x lo hi:Int),R [I x,.rptr 1 [I lo] 0,.rptr 1 [I hi] 0] [] (B (!decide (M6 x lo hi))) []
theorem AEs (hI:Vf (D 114)):AvQ (Body D AtV):=by
 intro x lo hi
 simp -implicitDefEqProofs
 refine Aa (hI _ _ _) ?_
 simp -implicitDefEqProofs
theorem AFJ (h1:AvQ (D 266)) (hC:Ate D (D 267)):AsS (Body D AuC):=by
 intro xs lo hi hl
 simp -implicitDefEqProofs
 refine Aa (hC xs 266 _ (fun x=> !decide (M6 x lo hi)) hl (ABB (ABB Api)) (fun x=>h1 x lo hi)) ?_
 have e:(xs.any fun x=> !decide (M6 x lo hi))= !allIn xs lo hi:=by unfold allIn;rw[List.all_eq_not_any_not];simp
 generalize(xs.any fun x=> !decide (M6 x lo hi))=b at e⊢
 subst e
 simp -implicitDefEqProofs
structure Ext where
 tag:Int
 body:List Int
 deriving DecidableEq
structure Hello where
 versions:List Int
 exts:List Ext
 deriving DecidableEq
structure Nw where
 version:Int
 exts:List Ext
 deriving DecidableEq
def Cc (x:Ext):List V:=[.sc (.int .i64 x.tag),.sl 0 1 x.body.length (ints x.body)]
def Ck (h:Hello):List V:=[.sl 0 1 h.versions.length (ints h.versions),.sl 0 2 h.exts.length (h.exts.flatMap Cc)]
def RB (a:Nw):List V:=[.sc (.int .i64 a.version),.sl 0 2 a.exts.length (a.exts.flatMap Cc)]
theorem Mi (x:Ext):(Cc x).length=2:=rfl
@[simp] theorem Ar9 (xs:List Ext):(xs.flatMap Cc).map (AO 0)=xs.flatMap Cc:=R8 (fun _=>rfl) xs
@[simp high] theorem Ar7 {xs:List Ext} {j:Nat} (h:j<xs.length):ER (xs.flatMap Cc) (j*2) 2=some (Cc xs[j]):=JB Mi h
@[simp high] theorem LF (xs:List Ext):(xs.flatMap Cc).length=xs.length*2:=Iq Mi xs
@[simp high] theorem Aok {xs:List Ext} {j:Nat} (h:j<xs.length):(xs.flatMap Cc)[j*2]? =some (.sc (.int .i64 xs[j].tag)):=by
 have:=Aq (o:=0) Mi h (by omega)
 simpa[Cc]using this
@[simp high] theorem ArZ {xs:List Ext} {j:Nat} (h:j<xs.length):(xs.flatMap Cc)[j*2+1]? =some (.sl 0 1 xs[j].body.length (ints xs[j].body)):=by
 have:=Aq (o:=1) Mi h (by omega)
 simpa[Cc]using this
theorem Ali {α:Type} {f:α->List V} {e:Nat} (hf:∀x,(f x).length=e) (xs:List α) (i:Nat):(xs.flatMap f).take (i*e)=(xs.take i).flatMap f:=by
 induction xs generalizing i with
 | nil=>simp
 | cons x xs ih=>
  cases i with
  | zero=>simp
  | succ i=>
   simp only[List.flatMap_cons,List.take_succ_cons]
   rw[<-ih i,show(i+1)*e=(f x).length+i*e by rw[hf,Nat.add_mul];omega,List.take_length_add_append]
theorem AlC {α:Type} {f:α->List V} {e:Nat} (hf:∀x,(f x).length=e) (xs:List α) (o n:Nat):part (xs.flatMap f) e o n=((xs.drop o).take n).flatMap f:=by
 unfold part
 rw[RA hf,Ali hf]
@[simp high] theorem Aq3 (xs:List Ext) (o n:Nat):part (xs.flatMap Cc) 2 o n=((xs.drop o).take n).flatMap Cc:=AlC Mi xs o n
attribute [simp] Cc Ck RB
def OD (l:List Ext):Prop:=l.length<=4194304/\∀x,x∈l->x.body.length<=4194304
theorem P5 {l:List Ext} (h:OD l) {j:Nat} (hj:j<l.length):l[j].body.length<=4194304:=h.2 _ (List.getElem_mem hj)
theorem Afg:OD []:=⟨by simp,by simp⟩
theorem Aia {l:List Ext} (h:OD l) (p:Ext->Bool):OD (l.filter p):=
 ⟨Nat.le_trans (List.length_filter_le p l) h.1,fun x hx=>h.2 x (List.mem_filter.1 hx).1⟩
def Oj (q:Nat->Bool) (j:Nat):Bool:=(List.range j).all q
@[simp] theorem AqK (q:Nat->Bool):Oj q 0=true:=rfl
theorem LY (q:Nat->Bool) (j:Nat):Oj q (j+1)=(Oj q j&&q j):=by
 unfold Oj
 rw[List.range_succ,List.all_append]
 simp
theorem AhE {q:Nat->Bool} {j n:Nat} (h:j<n) (hn:q j=false):Oj q n=false:=by
 have:∀m,Oj q (j+1+m)=false:=by
  intro m
  induction m with
  | zero=>rw[Nat.add_zero,LY,hn];simp
  | succ m ih=>rw[show j+1+(m+1)=(j+1+m)+1 by omega,LY,ih];rfl
 have:=this (n-(j+1))
 rwa [show j+1+(n-(j+1))=n by omega]at this
theorem V7 {q:Nat->Bool} {n:Nat}:Oj q n=true↔∀i,i<n->q i=true:=by
 unfold Oj
 rw[List.all_eq_true]
 simp
theorem AaH {α:Type} {p:α->Bool} {xs:List α} {j:Nat} (h:j<xs.length):(xs.take (j+1)).filter p=(xs.take j).filter p++(if p xs[j]then [xs[j]]else []):=by
 have e:xs.take (j+1)=xs.take j++ [xs[j]]:=by simp
 rw[e,List.filter_append]
 by_cases hp:p xs[j]=true<;>simp[hp]
theorem AdG {α:Type} {p:α->Bool} {xs:List α} {j:Nat} (h:xs.length<=j):(xs.take j).filter p=xs.filter p:=by rw[List.take_of_length_le h]
theorem Adw {α:Type} {p:α->Bool} {xs:List α} {j:Nat}:((xs.take j).filter p).length<=j:=by
 have:=List.length_filter_le p (xs.take j)
 have h2:(xs.take j).length<=j:=by simp;omega
 omega
abbrev Je:Prop:=∀r:AX,Db r<=4194304->R [arg (Dj r)] [] (.agg (Dj r)) []
theorem Alw:Je (Body D NA):=by
 intro r h
 have hb:r.stages.length*8<=1099511627776:=by unfold Db at h;omega
 simp -implicitDefEqProofs [hb]
theorem AEp:Je (Body D Aui):=by
 intro r h
 have hb:r.stages.length*8<=1099511627776:=by unfold Db at h;omega
 simp -implicitDefEqProofs [hb]
abbrev NY:Prop:=∀d:BP,Cb d<=4194304->R [arg (AB d)] [] (.agg (AB d)) []
theorem Af8:NY (Body D KY):=by
 intro d h
 unfold Cb ND at h
 have h1:d.deal.tags.length*8<=1099511627776:=by omega
 have h2:d.up.length*8<=1099511627776:=by omega
 simp -implicitDefEqProofs [h1,h2]
theorem AGn:NY (Body D AuL):=by
 intro d h
 unfold Cb ND at h
 have h1:d.deal.tags.length*8<=1099511627776:=by omega
 have h2:d.up.length*8<=1099511627776:=by omega
 simp -implicitDefEqProofs [h1,h2]
theorem R3 {α:Type} {f:α->List V} {xs:List α} {j:Nat} (h:j<xs.length):(xs.take j).flatMap f++f xs[j]=(xs.take (j+1)).flatMap f:=by
 have e:xs.take (j+1)=xs.take j++ [xs[j]]:=by simp
 rw[e,List.flatMap_append];simp
abbrev AAf:Prop:=∀xs:List EG,Cr Gm xs<=4194304->R [.sl 1 4 xs.length (xs.flatMap DT)] [] (.sl 0 4 xs.length (xs.flatMap DT)) []
theorem AHH:AAf (Body D Awh):=by
 intro xs h
 have hlen:=J9 (f:=Gm) (xs:=xs)
 simp -implicitDefEqProofs
 refine Ag (fun k s=>∃j o1 o2 o3 o4 o5 o6 o7,j+k=xs.length/\s=⟨[.undef,.undef,.arr 8,.undef,.sl 1 4 xs.length (xs.flatMap DT),.sc (.int .i64 xs.length),.sc (.int .i64 j),.undef],[.free,o1,o2,o3,o4,o5,o6,o7,.arr 4 0 j ((xs.take j).flatMap DT)]⟩) ?_ xs.length _ ⟨0,.free,.free,.free,.free,.free,.free,.free,by simp,by simp⟩
 intro k s ⟨j,o1,o2,o3,o4,o5,o6,o7,hj,hs⟩
 subst hs
 by_cases hjn:j<xs.length
 ·have hw:=Cv (j:=j) (by omega)
  have hsz:=size_at (f:=Gm) hjn
  have e:Gm xs[j]=xs[j].drops.length+xs[j].strips.length:=rfl
  have h1:xs[j].drops.length*8<=1099511627776:=by omega
  have h2:xs[j].strips.length*8<=1099511627776:=by omega
  have h3:(j+1)*64<=1099511627776:=by omega
  have hst:=R3 (f:=DT) hjn
  simp -implicitDefEqProofs [hjn,h1,h2,h3]
  exact⟨k-1,by omega,j+1,by omega,by simp[hw],rfl,by rw[<-hst];rfl⟩
 ·obtain rfl:j=xs.length:=by omega
  simp -implicitDefEqProofs
abbrev MF:Prop:=∀x:Ai,Am x<=4194304->R [arg (Ah x)] [] (.agg (Ah x)) []
theorem ADP (hP:AAf (D 172)):MF (Body D AtZ):=by
 intro x h
 unfold Am at h
 have h1:x.versions.length*8<=1099511627776:=by omega
 have h2:x.tags.length*8<=1099511627776:=by omega
 simp -implicitDefEqProofs [h1,h2]
 refine Aa (hP x.path (by omega)) ?_
 simp -implicitDefEqProofs
theorem Anh:MF (Body D OM):=by
 intro x h
 unfold Am at h
 have h1:x.versions.length*8<=1099511627776:=by omega
 have h2:x.tags.length*8<=1099511627776:=by omega
 have hlen:=J9 (f:=Gm) (xs:=x.path)
 simp -implicitDefEqProofs [h1,h2]
 refine Ag (fun k s=>∃j o7 o8 o9 o10 o11 o12 o13,j+k=x.path.length/\s=⟨[.undef,.ptr 0 0,.ptr 1 0,.ptr 6 0,.sc (.int .i64 j),.undef,.undef],[.var ((Ah x).map (AO 1)),.var [.nil 1,.nil 1,.nil 4,.sc (.int .i64 0)],.dead,.arr 1 0 x.versions.length (ints x.versions),.dead,.arr 1 0 x.tags.length (ints x.tags),.var [.arr 3,.arr 5,.arr 14,.sc (.int .i64 x.cls)],o7,o8,o9,o10,o11,o12,o13,.arr 4 0 j ((x.path.take j).flatMap DT)]⟩) ?_ x.path.length _ ⟨0,.free,.free,.free,.free,.free,.free,.free,by simp,by simp⟩
 intro k s ⟨j,o7,o8,o9,o10,o11,o12,o13,hj,hs⟩
 subst hs
 by_cases hjn:j<x.path.length
 ·have hw:=Cv (j:=j) (by omega)
  have hsz:=size_at (f:=Gm) hjn
  have e:Gm x.path[j]=x.path[j].drops.length+x.path[j].strips.length:=rfl
  have h1:x.path[j].drops.length*8<=1099511627776:=by omega
  have h2:x.path[j].strips.length*8<=1099511627776:=by omega
  have h3:(j+1)*64<=1099511627776:=by omega
  have hst:=R3 (f:=DT) hjn
  simp -implicitDefEqProofs [hjn,h1,h2,h3]
  exact⟨k-1,by omega,j+1,by omega,by simp[hw],rfl,by rw[<-hst];rfl⟩
 ·obtain rfl:j=x.path.length:=by omega
  simp -implicitDefEqProofs
theorem XH {w:World} (h:Af w<=4194304):Db w.rollout<=4194304:=by unfold Af at h;omega
theorem Od {w:World} (h:Af w<=4194304):w.server.length<=4194304/\w.tags.length<=4194304/\Cr Am w.ends<=4194304/\Cr Cb w.stage<=4194304/\Cr Ip w.log<=4194304:=by unfold Af at h;omega
abbrev EF:Prop:=∀w:World,Af w<=4194304->R [arg (Bu w)] [] (.agg (Bu w)) []
theorem Aka (hE:MF (D 65)) (hR:Je (D 66)) (hD:NY (D 67)):EF (Body D Na):=by
 intro w h
 have hl:=Akl h
 have he:=FE h
 have hs:=XY h
 have hr:=XH h
 have z:=Od h
 have b1:w.server.length*8<=1099511627776:=by omega
 have b2:w.tags.length*8<=1099511627776:=by omega
 simp -implicitDefEqProofs [b1,b2]
 refine Ag (fun k s=>∃j o8 o9 o10 o11 o12,j+k=w.ends.length/\s=⟨[.undef,.ptr 0 0,.ptr 1 0,.ptr 2 0,.sc (.int .i64 j),.undef,.undef,.undef,.undef,.undef],[.var ((Bu w).map (AO 1)),.var [.nil 1,.nil 1,.sc (.int .i64 0),.nil 4,.sc (.int .i64 0),.nil 1,.sc (.int .i64 0),.sc (.bool false),.sc (.int .i64 0),.sc (.int .i64 0),.nil 5,.nil 8,.sc (.int .i64 0),.sc (.int .i64 0),.sc (.int .i64 0)],.var [.arr 4,.arr 6,.sc (.int .i64 w.key),.arr 24,.sc (.int .i64 w.rollout.version),.sl 1 1 w.rollout.stages.length (ints w.rollout.stages),.sc (.int .i64 w.rollout.pos),.sc (.bool w.rollout.off),.sc (.int .i64 w.least),.sc (.int .i64 w.percent),.sl 1 5 w.stage.length (w.stage.flatMap AB),.sl 1 8 w.log.length (w.log.flatMap Az),.sc (.int .i64 w.now),.sc (.int .i64 w.hurt),.sc (.int .i64 w.reached)],.dead,.arr 1 0 w.server.length (ints w.server),.dead,.arr 1 0 w.tags.length (ints w.tags),.free,o8,o9,o10,o11,o12,.free,.free,.free,.free,.free,.free,.free,.free,.free,.free,.free,.arr 4 0 j ((w.ends.take j).flatMap Ah),.free,.free]⟩) ?_ w.ends.length _ ⟨0,by simp⟩
 intro k s ⟨j,o8,o9,o10,o11,o12,hj,hs'⟩
 subst hs'
 by_cases hjn:j<w.ends.length
 ·have hw:=Cv (j:=j) (by omega)
  have hsz:=size_at (f:=Am) hjn
  have h3:(j+1)*80<=1099511627776:=by omega
  have hst:=R3 (f:=Ah) hjn
  simp -implicitDefEqProofs [hjn]
  refine Aa (hE w.ends[j] (by first | omega | (simp only[Ip]at hsz;omega))) ?_
  simp -implicitDefEqProofs [hjn,h3]
  exact⟨k-1,by omega,j+1,by omega,by simp[hw],rfl,by rw[<-hst];rfl⟩
 obtain rfl:j=w.ends.length:=by omega
 simp -implicitDefEqProofs
 refine Aa (hR w.rollout hr) ?_
 simp -implicitDefEqProofs
 refine Ag (fun k s=>∃j o8 o9 o10 o11 o12 o15 o16 o17 o18,j+k=w.stage.length/\s=⟨[.undef,.ptr 0 0,.ptr 1 0,.ptr 2 0,.undef,.sc (.int .i64 j),.undef,.undef,.undef,.undef],[.var ((Bu w).map (AO 1)),.var [.nil 1,.nil 1,.sc (.int .i64 0),.nil 4,.sc (.int .i64 0),.nil 1,.sc (.int .i64 0),.sc (.bool false),.sc (.int .i64 0),.sc (.int .i64 0),.nil 5,.nil 8,.sc (.int .i64 0),.sc (.int .i64 0),.sc (.int .i64 0)],.var [.arr 4,.arr 6,.sc (.int .i64 w.key),.arr 24,.sc (.int .i64 w.rollout.version),.arr 13,.sc (.int .i64 w.rollout.pos),.sc (.bool w.rollout.off),.sc (.int .i64 w.least),.sc (.int .i64 w.percent),.arr 25,.sl 1 8 w.log.length (w.log.flatMap Az),.sc (.int .i64 w.now),.sc (.int .i64 w.hurt),.sc (.int .i64 w.reached)],.dead,.arr 1 0 w.server.length (ints w.server),.dead,.arr 1 0 w.tags.length (ints w.tags),.free,o8,o9,o10,o11,o12,.arr 1 0 w.rollout.stages.length (ints w.rollout.stages),.free,o15,o16,o17,o18,.free,.free,.free,.free,.free,.arr 4 0 w.ends.length (w.ends.flatMap Ah),.arr 5 0 j ((w.stage.take j).flatMap AB),.free]⟩) ?_ w.stage.length _ ⟨0,by simp⟩
 intro k s ⟨j,o8,o9,o10,o11,o12,o15,o16,o17,o18,hj,hs'⟩
 subst hs'
 by_cases hjn:j<w.stage.length
 ·have hw:=Cv (j:=j) (by omega)
  have hsz:=size_at (f:=Cb) hjn
  have h3:(j+1)*72<=1099511627776:=by omega
  have hst:=R3 (f:=AB) hjn
  simp -implicitDefEqProofs [hjn]
  refine Aa (hD w.stage[j] (by first | omega | (simp only[Ip]at hsz;omega))) ?_
  simp -implicitDefEqProofs [hjn,h3]
  exact⟨k-1,by omega,j+1,by omega,by simp[hw],rfl,by rw[<-hst];rfl⟩
 obtain rfl:j=w.stage.length:=by omega
 simp -implicitDefEqProofs
 refine Ag (fun k s=>∃j o8 o9 o10 o11 o12 o15 o16 o17 o18 o20 o21 o22 o23,j+k=w.log.length/\s=⟨[.undef,.ptr 0 0,.ptr 1 0,.ptr 2 0,.undef,.undef,.sc (.int .i64 j),.undef,.undef,.undef],[.var ((Bu w).map (AO 1)),.var [.nil 1,.nil 1,.sc (.int .i64 0),.nil 4,.sc (.int .i64 0),.nil 1,.sc (.int .i64 0),.sc (.bool false),.sc (.int .i64 0),.sc (.int .i64 0),.nil 5,.nil 8,.sc (.int .i64 0),.sc (.int .i64 0),.sc (.int .i64 0)],.var [.arr 4,.arr 6,.sc (.int .i64 w.key),.arr 24,.sc (.int .i64 w.rollout.version),.arr 13,.sc (.int .i64 w.rollout.pos),.sc (.bool w.rollout.off),.sc (.int .i64 w.least),.sc (.int .i64 w.percent),.arr 25,.arr 26,.sc (.int .i64 w.now),.sc (.int .i64 w.hurt),.sc (.int .i64 w.reached)],.dead,.arr 1 0 w.server.length (ints w.server),.dead,.arr 1 0 w.tags.length (ints w.tags),.free,o8,o9,o10,o11,o12,.arr 1 0 w.rollout.stages.length (ints w.rollout.stages),.free,o15,o16,o17,o18,.free,o20,o21,o22,o23,.arr 4 0 w.ends.length (w.ends.flatMap Ah),.arr 5 0 w.stage.length (w.stage.flatMap AB),.arr 8 0 j ((w.log.take j).flatMap Az)]⟩) ?_ w.log.length _ ⟨0,by simp⟩
 intro k s ⟨j,o8,o9,o10,o11,o12,o15,o16,o17,o18,o20,o21,o22,o23,hj,hs'⟩
 subst hs'
 by_cases hjn:j<w.log.length
 ·have hw:=Cv (j:=j) (by omega)
  have hsz:=size_at (f:=Ip) hjn
  have h3:(j+1)*96<=1099511627776:=by omega
  have hst:=R3 (f:=Az) hjn
  simp -implicitDefEqProofs [hjn]
  refine Aa (hD w.log[j].dialed (by first | omega | (simp only[Ip]at hsz;omega))) ?_
  simp -implicitDefEqProofs [hjn,h3]
  exact⟨k-1,by omega,j+1,by omega,by simp[hw],rfl,by rw[<-hst];rfl⟩
 obtain rfl:j=w.log.length:=by omega
 simp -implicitDefEqProofs
theorem AHd (hE:MF (D 102)) (hR:Je (D 101)) (hD:NY (D 103)):EF (Body D Avi):=by
 intro w h
 have hl:=Akl h
 have he:=FE h
 have hs:=XY h
 have hr:=XH h
 have z:=Od h
 have b1:w.server.length*8<=1099511627776:=by omega
 have b2:w.tags.length*8<=1099511627776:=by omega
 simp -implicitDefEqProofs [b1,b2]
 refine Aa (hR w.rollout hr) ?_
 simp -implicitDefEqProofs
 refine Ag (fun k s=>∃j o8 o9 o10 o11 o12 o13,j+k=w.ends.length/\s=⟨[.undef,.ptr 0 0,.ptr 1 0,.ptr 2 0,.undef,.undef,.undef,.sl 1 4 w.ends.length (w.ends.flatMap Ah),.sc (.int .i64 w.ends.length),.sc (.int .i64 j),.undef,.undef,.undef,.undef,.undef,.undef,.undef,.undef,.undef],[.var ((Bu w).map (AO 1)),.var [.nil 1,.nil 1,.sc (.int .i64 0),.nil 4,.sc (.int .i64 0),.nil 1,.sc (.int .i64 0),.sc (.bool false),.sc (.int .i64 0),.sc (.int .i64 0),.nil 5,.nil 8,.sc (.int .i64 0),.sc (.int .i64 0),.sc (.int .i64 0)],.var [.arr 4,.arr 6,.sc (.int .i64 w.key),.arr 24,.sc (.int .i64 w.rollout.version),.arr 7,.sc (.int .i64 w.rollout.pos),.sc (.bool w.rollout.off),.sc (.int .i64 w.least),.sc (.int .i64 w.percent),.arr 25,.arr 26,.sc (.int .i64 w.now),.sc (.int .i64 w.hurt),.sc (.int .i64 w.reached)],.dead,.arr 1 0 w.server.length (ints w.server),.dead,.arr 1 0 w.tags.length (ints w.tags),.arr 1 0 w.rollout.stages.length (ints w.rollout.stages),o8,o9,o10,o11,o12,o13,.free,.free,.free,.free,.free,.free,.free,.free,.free,.free,.arr 4 0 j ((w.ends.take j).flatMap Ah),.arr 5 0 0 [],.arr 8 0 0 []]⟩) ?_ w.ends.length _ ⟨0,by simp⟩
 intro k s ⟨j,o8,o9,o10,o11,o12,o13,hj,hs'⟩
 subst hs'
 by_cases hjn:j<w.ends.length
 ·have hw:=Cv (j:=j) (by omega)
  have hsz:=size_at (f:=Am) hjn
  have h3:(j+1)*80<=1099511627776:=by omega
  have hst:=R3 (f:=Ah) hjn
  simp -implicitDefEqProofs [hjn]
  refine Aa (hE w.ends[j] (by first | omega | (simp only[Ip]at hsz;omega))) ?_
  simp -implicitDefEqProofs [hjn,h3]
  exact⟨k-1,by omega,j+1,by omega,by simp[hw],rfl,by rw[<-hst];rfl⟩
 obtain rfl:j=w.ends.length:=by omega
 simp -implicitDefEqProofs
 refine Ag (fun k s=>∃j o8 o9 o10 o11 o12 o13 o14 o15 o16 o17 o18,j+k=w.stage.length/\s=⟨[.undef,.ptr 0 0,.ptr 1 0,.ptr 2 0,.undef,.undef,.undef,.undef,.undef,.undef,.undef,.sl 1 5 w.stage.length (w.stage.flatMap AB),.sc (.int .i64 w.stage.length),.sc (.int .i64 j),.undef,.undef,.undef,.undef,.undef],[.var ((Bu w).map (AO 1)),.var [.nil 1,.nil 1,.sc (.int .i64 0),.nil 4,.sc (.int .i64 0),.nil 1,.sc (.int .i64 0),.sc (.bool false),.sc (.int .i64 0),.sc (.int .i64 0),.nil 5,.nil 8,.sc (.int .i64 0),.sc (.int .i64 0),.sc (.int .i64 0)],.var [.arr 4,.arr 6,.sc (.int .i64 w.key),.arr 24,.sc (.int .i64 w.rollout.version),.arr 7,.sc (.int .i64 w.rollout.pos),.sc (.bool w.rollout.off),.sc (.int .i64 w.least),.sc (.int .i64 w.percent),.arr 25,.arr 26,.sc (.int .i64 w.now),.sc (.int .i64 w.hurt),.sc (.int .i64 w.reached)],.dead,.arr 1 0 w.server.length (ints w.server),.dead,.arr 1 0 w.tags.length (ints w.tags),.arr 1 0 w.rollout.stages.length (ints w.rollout.stages),o8,o9,o10,o11,o12,o13,o14,o15,o16,o17,o18,.free,.free,.free,.free,.free,.arr 4 0 w.ends.length (w.ends.flatMap Ah),.arr 5 0 j ((w.stage.take j).flatMap AB),.arr 8 0 0 []]⟩) ?_ w.stage.length _ ⟨0,by simp⟩
 intro k s ⟨j,o8,o9,o10,o11,o12,o13,o14,o15,o16,o17,o18,hj,hs'⟩
 subst hs'
 by_cases hjn:j<w.stage.length
 ·have hw:=Cv (j:=j) (by omega)
  have hsz:=size_at (f:=Cb) hjn
  have h3:(j+1)*72<=1099511627776:=by omega
  have hst:=R3 (f:=AB) hjn
  simp -implicitDefEqProofs [hjn]
  refine Aa (hD w.stage[j] (by first | omega | (simp only[Ip]at hsz;omega))) ?_
  simp -implicitDefEqProofs [hjn,h3]
  exact⟨k-1,by omega,j+1,by omega,by simp[hw],rfl,by rw[<-hst];rfl⟩
 obtain rfl:j=w.stage.length:=by omega
 simp -implicitDefEqProofs
 refine Ag (fun k s=>∃j o8 o9 o10 o11 o12 o13 o14 o15 o16 o17 o18 o19 o20 o21 o22 o23,j+k=w.log.length/\s=⟨[.undef,.undef,.ptr 1 0,.ptr 2 0,.undef,.undef,.undef,.undef,.undef,.undef,.undef,.undef,.undef,.undef,.undef,.sl 1 8 w.log.length (w.log.flatMap Az),.sc (.int .i64 w.log.length),.sc (.int .i64 j),.undef],[.var ((Bu w).map (AO 1)),.var [.nil 1,.nil 1,.sc (.int .i64 0),.nil 4,.sc (.int .i64 0),.nil 1,.sc (.int .i64 0),.sc (.bool false),.sc (.int .i64 0),.sc (.int .i64 0),.nil 5,.nil 8,.sc (.int .i64 0),.sc (.int .i64 0),.sc (.int .i64 0)],.var [.arr 4,.arr 6,.sc (.int .i64 w.key),.arr 24,.sc (.int .i64 w.rollout.version),.arr 7,.sc (.int .i64 w.rollout.pos),.sc (.bool w.rollout.off),.sc (.int .i64 w.least),.sc (.int .i64 w.percent),.arr 25,.arr 26,.sc (.int .i64 w.now),.sc (.int .i64 w.hurt),.sc (.int .i64 w.reached)],.dead,.arr 1 0 w.server.length (ints w.server),.dead,.arr 1 0 w.tags.length (ints w.tags),.arr 1 0 w.rollout.stages.length (ints w.rollout.stages),o8,o9,o10,o11,o12,o13,o14,o15,o16,o17,o18,o19,o20,o21,o22,o23,.arr 4 0 w.ends.length (w.ends.flatMap Ah),.arr 5 0 w.stage.length (w.stage.flatMap AB),.arr 8 0 j ((w.log.take j).flatMap Az)]⟩) ?_ w.log.length _ ⟨0,by simp⟩
 intro k s ⟨j,o8,o9,o10,o11,o12,o13,o14,o15,o16,o17,o18,o19,o20,o21,o22,o23,hj,hs'⟩
 subst hs'
 by_cases hjn:j<w.log.length
 ·have hw:=Cv (j:=j) (by omega)
  have hsz:=size_at (f:=Ip) hjn
  have h3:(j+1)*96<=1099511627776:=by omega
  have hst:=R3 (f:=Az) hjn
  simp -implicitDefEqProofs [hjn]
  refine Aa (hD w.log[j].dialed (by first | omega | (simp only[Ip]at hsz;omega))) ?_
  simp -implicitDefEqProofs [hjn,h3]
  exact⟨k-1,by omega,j+1,by omega,by simp[hw],rfl,by rw[<-hst];rfl⟩
 obtain rfl:j=w.log.length:=by omega
 simp -implicitDefEqProofs
abbrev NJ (a b c:Int):Prop:=b<=a/\a<=c
def Ju (xs:List Int) (j:Nat):Bool:=(List.range j).all fun i=>decide (NJ (xs.getD i 0) 1 100)&&(decide (i=0)||decide (xs.getD (i-1) 0<xs.getD i 0))
theorem XR (xs:List Int) (j:Nat):Ju xs (j+1)=(Ju xs j&&(decide (NJ (xs.getD j 0) 1 100)&&(decide (j=0)||decide (xs.getD (j-1) 0<xs.getD j 0)))):=by
 unfold Ju
 rw[List.range_succ,List.all_append]
 simp
theorem AgA {xs:List Int} {j:Nat} (h:j<xs.length) (hn:Ju xs (j+1)=false):Ju xs xs.length=false:=by
 have:∀n,Ju xs (j+1+n)=false:=by
  intro n
  induction n with
  | zero=>exact hn
  | succ n ih=>rw[show j+1+(n+1)=(j+1+n)+1 by omega,XR,ih];rfl
 have:=this (xs.length-(j+1))
 rwa [show j+1+(xs.length-(j+1))=xs.length by omega]at this
def AP (r:AX):Bool:=
 Ju r.stages r.stages.length&&(decide (NJ r.version 1 9)&&decide (NJ r.stages.length 1 5)&&decide (r.stages.getD (r.stages.length-1) 0=100)&&decide (NJ r.pos 0 (r.stages.length-1)))
abbrev FX:Prop:=∀r:AX,r.stages.length<=4194304->R [arg (Dj r)] [] (B (AP r)) []
theorem getD_at {xs:List Int} {j:Nat} (h:j<xs.length):xs.getD j 0=xs[j]:=by simp[h]
theorem AeT (hI:Vf (D 71)):FX (Body D Kv):=by
 intro r hl
 simp -implicitDefEqProofs
 refine Ag (fun k s=>∃j,j+k=r.stages.length/\Ju r.stages j=true/\s=⟨[.undef,.ptr 0 0,.undef,.sc (.int .i64 j),.undef,.undef],[.var ((Dj r).map (AO 1))]⟩) ?_ r.stages.length _ ⟨0,by simp,by simp[Ju],by simp⟩
 intro k s ⟨j,hj,hr,hs⟩
 subst hs
 by_cases hjn:j<r.stages.length
 ·have hw:=Cv (j:=j) (by omega)
  have hst:=XR r.stages j
  rw[hr,Bool.true_and,getD_at hjn]at hst
  simp -implicitDefEqProofs [hjn]
  refine Aa (hI _ _ _) ?_
  by_cases h1:NJ r.stages[j] 1 100
  rotate_left
  ·have e:AP r=false:=by unfold AP;rw[AgA hjn (by rw[hst];simp[h1])];rfl
   simp -implicitDefEqProofs [h1,e]
  by_cases h0:j=0
  ·subst h0
   simp -implicitDefEqProofs [h1]
   exact⟨k-1,by omega,1,by omega,by rw[hst];simp[h1],by simpa using hw⟩
  ·have hp:((j-1:Nat):Int)=(j:Int)-1:=by omega
   have hw2:IntKind.i64.wrap ((j:Int)-1)=((j-1:Nat):Int):=by rw[Ad (by omega) (by omega)];omega
   have h2:(0:Int)<j:=by omega
   have h2':0<j:=by omega
   have h3:j-1<r.stages.length:=by omega
   rw[getD_at h3]at hst
   by_cases h4:r.stages[j-1]<r.stages[j]
   ·have h4':¬r.stages[j]<=r.stages[j-1]:=by omega
    simp -implicitDefEqProofs [h1,h2,h2',hw2,h3,hjn,h4']
    exact⟨k-1,by omega,j+1,by omega,by rw[hst];simp[h1,h0,h4],by simp[hw]⟩
   ·have e:AP r=false:=by unfold AP;rw[AgA hjn (by rw[hst];simp[h1,h0,h4])];rfl
    have h4':r.stages[j]<=r.stages[j-1]:=by omega
    simp -implicitDefEqProofs [h1,h2,h2',hw2,h3,hjn,h4',e]
 ·obtain rfl:j=r.stages.length:=by omega
  simp -implicitDefEqProofs
  refine Aa (hI _ _ _) ?_
  by_cases h1:NJ r.version 1 9
  rotate_left
  ·simp -implicitDefEqProofs [h1,AP]
  simp -implicitDefEqProofs [h1]
  refine Aa (hI _ _ _) ?_
  by_cases h2:NJ r.stages.length 1 5
  rotate_left
  ·simp -implicitDefEqProofs [h2,AP]
  have hw2:IntKind.i64.wrap ((r.stages.length:Int)-1)=((r.stages.length-1:Nat):Int):=by rw[Ad (by omega) (by omega)];omega
  have h3:r.stages.length-1<r.stages.length:=by omega
  have h5:0<r.stages.length:=by omega
  by_cases h4:r.stages[r.stages.length-1]=100
  rotate_left
  ·simp -implicitDefEqProofs [h2,hw2,h3,h4,h5,AP]
  simp -implicitDefEqProofs [h2,hw2,h3,h4,h5]
  refine Aa (hI _ _ _) ?_
  have hc:((r.stages.length-1:Nat):Int)=(r.stages.length:Int)-1:=by omega
  have e:AP r=decide (NJ r.pos 0 ((r.stages.length-1:Nat):Int)):=by unfold AP;rw[hr,getD_at h3,h4,hc];simp[h1,h2]
  simp -implicitDefEqProofs [e]
theorem AFU (hI:Vf (D 114)):FX (Body D Avj):=by
 intro r hl
 simp -implicitDefEqProofs
 refine Ag (fun k s=>∃j v3 v4,j+k=r.stages.length/\Ju r.stages j=true/\s=⟨[.undef,.ptr 0 0,.undef,v3,v4,.sl 1 1 r.stages.length (ints r.stages),.sc (.int .i64 r.stages.length),.sc (.int .i64 j),.undef,.undef],[.var ((Dj r).map (AO 1))]⟩) ?_ r.stages.length _ ⟨0,.undef,.undef,by simp,by simp[Ju],by simp⟩
 intro k s ⟨j,v3,v4,hj,hr,hs⟩
 subst hs
 by_cases hjn:j<r.stages.length
 ·have hw:=Cv (j:=j) (by omega)
  have hst:=XR r.stages j
  rw[hr,Bool.true_and,getD_at hjn]at hst
  simp -implicitDefEqProofs [hjn]
  refine Aa (hI _ _ _) ?_
  by_cases h1:NJ r.stages[j] 1 100
  rotate_left
  ·have e:AP r=false:=by unfold AP;rw[AgA hjn (by rw[hst];simp[h1])];rfl
   simp -implicitDefEqProofs [h1,e]
  by_cases h0:j=0
  ·subst h0
   simp -implicitDefEqProofs [h1]
   exact⟨k-1,by omega,1,by omega,by rw[hst];simp[h1],by simpa using hw⟩
  ·have hp:((j-1:Nat):Int)=(j:Int)-1:=by omega
   have hw2:IntKind.i64.wrap ((j:Int)-1)=((j-1:Nat):Int):=by rw[Ad (by omega) (by omega)];omega
   have h2:(0:Int)<j:=by omega
   have h2':0<j:=by omega
   have h3:j-1<r.stages.length:=by omega
   rw[getD_at h3]at hst
   by_cases h4:r.stages[j-1]<r.stages[j]
   ·have h4':¬r.stages[j]<=r.stages[j-1]:=by omega
    simp -implicitDefEqProofs [h1,h2,h2',hw2,h3,hjn,h4']
    exact⟨k-1,by omega,j+1,by omega,by rw[hst];simp[h1,h0,h4],by simp[hw]⟩
   ·have e:AP r=false:=by unfold AP;rw[AgA hjn (by rw[hst];simp[h1,h0,h4])];rfl
    have h4':r.stages[j]<=r.stages[j-1]:=by omega
    simp -implicitDefEqProofs [h1,h2,h2',hw2,h3,hjn,h4',e]
 ·obtain rfl:j=r.stages.length:=by omega
  simp -implicitDefEqProofs
  refine Aa (hI _ _ _) ?_
  by_cases h1:NJ r.version 1 9
  rotate_left
  ·simp -implicitDefEqProofs [h1,AP]
  simp -implicitDefEqProofs [h1]
  refine Aa (hI _ _ _) ?_
  by_cases h2:NJ r.stages.length 1 5
  rotate_left
  ·simp -implicitDefEqProofs [h2,AP]
  have hw2:IntKind.i64.wrap ((r.stages.length:Int)-1)=((r.stages.length-1:Nat):Int):=by rw[Ad (by omega) (by omega)];omega
  have h3:r.stages.length-1<r.stages.length:=by omega
  have h5:0<r.stages.length:=by omega
  by_cases h4:r.stages[r.stages.length-1]=100
  rotate_left
  ·simp -implicitDefEqProofs [h2,hw2,h3,h4,h5,AP]
  simp -implicitDefEqProofs [h2,hw2,h3,h4,h5]
  refine Aa (hI _ _ _) ?_
  have hc:((r.stages.length-1:Nat):Int)=(r.stages.length:Int)-1:=by omega
  have e:AP r=decide (NJ r.pos 0 ((r.stages.length-1:Nat):Int)):=by unfold AP;rw[hr,getD_at h3,h4,hc];simp[h1,h2]
  simp -implicitDefEqProofs [e]
def PV (a b:Int):Int:=if NJ a 0 1000000000000/\NJ b 1 1000000000000 then(a+b-1).tdiv b else 0
abbrev Ui:Prop:=∀a b:Int,R [I a,I b] [] (I (PV a b)) []
theorem AnF {a b:Int} (h1:0<=a) (h2:a<=4000000000000) (h3:1<=b):IntKind.i64.wrap (a.tdiv b)=a.tdiv b:=by
 have a1:0<=a.tdiv b:=Int.tdiv_nonneg h1 (by omega)
 have a2:a.tdiv b<=a:=Int.tdiv_le_self _ h1
 exact Ad (by omega) (by omega)
theorem Ajf (hI:Vf (D 71)):Ui (Body D M9):=by
 intro a b
 simp -implicitDefEqProofs
 refine Aa (hI _ _ _) ?_
 by_cases h1:NJ a 0 1000000000000
 rotate_left
 ·simp -implicitDefEqProofs [h1,PV]
 simp -implicitDefEqProofs [h1]
 refine Aa (hI _ _ _) ?_
 by_cases h2:NJ b 1 1000000000000
 rotate_left
 ·simp -implicitDefEqProofs [h2,PV]
 have w1:IntKind.i64.wrap (a+b)=a+b:=Ad (by omega) (by omega)
 have w2:IntKind.i64.wrap (a+b-1)=a+b-1:=Ad (by omega) (by omega)
 have w3:=AnF (a:=a+b-1) (b:=b) (by omega) (by omega) (by omega)
 have h0:¬b=0:=by omega
 have e:PV a b=(a+b-1).tdiv b:=by unfold PV;rw[if_pos ⟨h1,h2⟩]
 simp -implicitDefEqProofs [h2,w1,w2,w3,h0,e]
theorem AHF (hI:Vf (D 114)):Ui (Body D Aw3):=by
 intro a b
 simp -implicitDefEqProofs
 refine Aa (hI _ _ _) ?_
 by_cases h1:NJ a 0 1000000000000
 rotate_left
 ·simp -implicitDefEqProofs [h1,PV]
 simp -implicitDefEqProofs [h1]
 refine Aa (hI _ _ _) ?_
 by_cases h2:NJ b 1 1000000000000
 rotate_left
 ·simp -implicitDefEqProofs [h2,PV]
 have w1:IntKind.i64.wrap (a+b)=a+b:=Ad (by omega) (by omega)
 have w2:IntKind.i64.wrap (a+b-1)=a+b-1:=Ad (by omega) (by omega)
 have w3:=AnF (a:=a+b-1) (b:=b) (by omega) (by omega) (by omega)
 have h0:¬b=0:=by omega
 have e:PV a b=(a+b-1).tdiv b:=by unfold PV;rw[if_pos ⟨h1,h2⟩]
 simp -implicitDefEqProofs [h2,w1,w2,w3,h0,e]
theorem AfY {xs:List Int} {n:Nat} (h:Ju xs n=true) {i:Nat} (hi:i<n):NJ (xs.getD i 0) 1 100:=by
 unfold Ju at h
 have:=List.all_eq_true.1 h i (List.mem_range.2 hi)
 simp at this
 exact⟨this.1.1,this.1.2⟩
theorem Abf {r:AX} (h:AP r=true):0<=r.pos/\r.pos<r.stages.length/\r.stages.length<=5/\NJ (r.stages.getD r.pos.toNat 0) 1 100:=by
 unfold AP at h
 simp only[Bool.and_eq_true,decide_eq_true_eq]at h
 obtain⟨h1,⟨⟨h2,h3⟩,h4⟩,h5⟩:=h
 refine⟨h5.1,by omega,by omega,AfY h1 (by omega)⟩
def countIn (r:AX) (n:Int):Int:=if AP r=true/\r.off=false/\NJ n 0 10000 then PV (n*r.stages.getD r.pos.toNat 0) 100 else 0
abbrev V3:Prop:=∀(r:AX) (n:Int),r.stages.length<=4194304->R [arg (Dj r),I n] [] (I (countIn r n)) []
theorem AoW {n x:Int} (h1:NJ n 0 10000) (h2:NJ x 1 100):IntKind.i64.wrap (n*x)=n*x:=by
 have a1:0<=n*x:=Int.mul_nonneg h1.1 (by omega)
 have a2:n*x<=10000*100:=Int.mul_le_mul h1.2 h2.2 (by omega) (by omega)
 exact Ad (by omega) (by omega)
theorem AhR (hR:FX (D 145)) (hI:Vf (D 71)) (hC:Ui (D 284)):V3 (Body D NG):=by
 intro r n hl
 simp -implicitDefEqProofs
 refine Aa (hR r hl) ?_
 by_cases h1:AP r=true
 rotate_left
 ·simp -implicitDefEqProofs [h1,countIn]
 by_cases h2:r.off=true
 ·simp -implicitDefEqProofs [h1,h2,countIn]
 simp -implicitDefEqProofs [h1,h2]
 refine Aa (hI _ _ _) ?_
 by_cases h3:NJ n 0 10000
 rotate_left
 ·simp -implicitDefEqProofs [h3,countIn]
 obtain⟨p1,p2,p3,p4⟩:=Abf h1
 obtain⟨q,hq⟩:∃q:Nat,r.pos=q:=⟨r.pos.toNat,by omega⟩
 have hq2:q<r.stages.length:=by omega
 have e:countIn r n=PV (n*r.stages[q]) 100:=by unfold countIn;rw[if_pos ⟨h1,by simpa using h2,h3⟩,hq];simp[hq2]
 have p4':NJ r.stages[q] 1 100:=by rw[hq]at p4;simpa[hq2]using p4
 have hw:=AoW h3 p4'
 simp -implicitDefEqProofs [h3,hq,hq2,hw]
 refine Aa (hC _ _) ?_
 simp -implicitDefEqProofs [e]
theorem AHT (hR:FX (D 176)) (hI:Vf (D 114)) (hC:Ui (D 291)):V3 (Body D AwY):=by
 intro r n hl
 simp -implicitDefEqProofs
 refine Aa (hR r hl) ?_
 by_cases h1:AP r=true
 rotate_left
 ·simp -implicitDefEqProofs [h1,countIn]
 by_cases h2:r.off=true
 ·simp -implicitDefEqProofs [h1,h2,countIn]
 simp -implicitDefEqProofs [h1,h2]
 refine Aa (hI _ _ _) ?_
 by_cases h3:NJ n 0 10000
 rotate_left
 ·simp -implicitDefEqProofs [h3,countIn]
 obtain⟨p1,p2,p3,p4⟩:=Abf h1
 obtain⟨q,hq⟩:∃q:Nat,r.pos=q:=⟨r.pos.toNat,by omega⟩
 have hq2:q<r.stages.length:=by omega
 have e:countIn r n=PV (n*r.stages[q]) 100:=by unfold countIn;rw[if_pos ⟨h1,by simpa using h2,h3⟩,hq];simp[hq2]
 have p4':NJ r.stages[q] 1 100:=by rw[hq]at p4;simpa[hq2]using p4
 have hw:=AoW h3 p4'
 simp -implicitDefEqProofs [h3,hq,hq2,hw]
 refine Aa (hC _ _) ?_
 simp -implicitDefEqProofs [e]
def isIn (r:AX) (i n:Int):Bool:=decide (0<=i)&&decide (i<n)&&decide (i<countIn r n)
abbrev Af6:Prop:=∀(r:AX) (i n:Int),r.stages.length<=4194304->R [arg (Dj r),I i,I n] [] (B (isIn r i n)) []
theorem AoJ (hC:V3 (D 254)):Af6 (Body D Uf):=by
 intro r i n hl
 by_cases h1:0<=i
 ·by_cases h2:i<n
  ·simp -implicitDefEqProofs [h1,h2]
   refine Aa (hC r n hl) ?_
   simp -implicitDefEqProofs [isIn,h1,h2]
  ·simp -implicitDefEqProofs [h1,h2,isIn]
 ·simp -implicitDefEqProofs [h1,isIn]
theorem AKA (hC:V3 (D 263)):Af6 (Body D AzB):=by
 intro r i n hl
 by_cases h1:0<=i
 ·by_cases h2:i<n
  ·simp -implicitDefEqProofs [h1,h2]
   refine Aa (hC r n hl) ?_
   simp -implicitDefEqProofs [isIn,h1,h2]
  ·simp -implicitDefEqProofs [h1,h2,isIn]
 ·simp -implicitDefEqProofs [h1,isIn]
abbrev Au5:Prop:=∀(w:World) (i:Int),w.ends.length<=4194304->R [arg (Bu w),I i] [] (B (decide (NJ i 0 ((w.ends.length:Int)-1)))) []
theorem AKi (hI:Vf (D 114)):Au5 (Body D Axy):=by
 intro w i hl
 have hw:IntKind.i64.wrap ((w.ends.length:Int)-1)=(w.ends.length:Int)-1:=Ad (by omega) (by omega)
 simp -implicitDefEqProofs [hw]
 refine Aa (hI _ _ _) ?_
 simp -implicitDefEqProofs
def Pg (w:World) (i:Int):Bool:=decide (NJ i 0 ((w.ends.length:Int)-1))&&isIn w.rollout i w.ends.length&&(match w.ends[i.toNat]? with | some e=>decide (w.rollout.version∈e.versions) | none=>false)
theorem AgK {w:World} (h:Af w<=4194304) {j:Nat} (hj:j<w.ends.length):w.ends[j].versions.length<=maxLen:=by
 have:=size_at (f:=Am) hj
 have e:Am w.ends[j]=w.ends[j].versions.length+w.ends[j].tags.length+Cr Gm w.ends[j].path:=rfl
 unfold Af at h
 unfold maxLen;omega
theorem OU {w:World} (h:Af w<=4194304):w.rollout.stages.length<=4194304:=by unfold Af Db at h;omega
abbrev Vw:Prop:=∀(w:World) (i:Int),Af w<=4194304->R [arg (Bu w),I i] [] (B (Pg w i)) []
theorem AhV (hI:Vf (D 71)) (hN:Af6 (D 214)) (hH:UQ (D 166)):Vw (Body D Nk):=by
 intro w i hsz
 have hl:=FE hsz
 have hw:IntKind.i64.wrap ((w.ends.length:Int)-1)=(w.ends.length:Int)-1:=Ad (by omega) (by omega)
 simp -implicitDefEqProofs [hw]
 refine Aa (hI _ _ _) ?_
 by_cases h1:NJ i 0 ((w.ends.length:Int)-1)
 rotate_left
 ·simp -implicitDefEqProofs [h1,Pg]
 simp -implicitDefEqProofs [h1]
 refine Aa (hN w.rollout _ _ (OU hsz)) ?_
 by_cases h2:isIn w.rollout i w.ends.length=true
 rotate_left
 ·simp -implicitDefEqProofs [h2,Pg]
 obtain⟨j,rfl⟩:∃j:Nat,i=j:=⟨i.toNat,by omega⟩
 have hj:j<w.ends.length:=by omega
 simp -implicitDefEqProofs [h2,hj]
 refine Aa (hH _ _ (AgK hsz hj)) ?_
 simp -implicitDefEqProofs [Pg,h1,h2,hj]
theorem AIk (hE:Au5 (D 117)) (hN:Af6 (D 228)) (hH:UQ (D 188)):Vw (Body D AwJ):=by
 intro w i hsz
 have hl:=FE hsz
 simp -implicitDefEqProofs
 refine Aa (hE w i hl) ?_
 by_cases h1:NJ i 0 ((w.ends.length:Int)-1)
 rotate_left
 ·simp -implicitDefEqProofs [h1,Pg]
 simp -implicitDefEqProofs [h1]
 refine Aa (hN w.rollout _ _ (OU hsz)) ?_
 by_cases h2:isIn w.rollout i w.ends.length=true
 rotate_left
 ·simp -implicitDefEqProofs [h2,Pg]
 obtain⟨j,rfl⟩:∃j:Nat,i=j:=⟨i.toNat,by omega⟩
 have hj:j<w.ends.length:=by omega
 simp -implicitDefEqProofs [h2,hj]
 refine Aa (hH _ _ (AgK hsz hj)) ?_
 simp -implicitDefEqProofs [Pg,h1,h2,hj]
end Go.Eng.T
