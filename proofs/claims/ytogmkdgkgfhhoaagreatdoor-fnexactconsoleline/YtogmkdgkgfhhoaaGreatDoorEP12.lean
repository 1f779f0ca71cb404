/- Own work: part 12 of the proof of FnExactConsoleLine. -/
import Derived.Test.YtogmkdgkgfhhoaaGreatDoorEEngAL
import Derived.Test.YtogmkdgkgfhhoaaGreatDoorEP11
set_option linter.unusedSimpArgs false
set_option linter.unusedVariables false
namespace Go.Eng.T
abbrev I (a:Int):V:= .sc (.int .i64 a)
abbrev B (a:Bool):V:= .sc (.bool a)
abbrev S (a:ByteArray):V:= .sc (.string a)
abbrev Rel:=List V->List O->V->List O->Prop
def ints (xs:List Int):List V:=xs.map fun x=> .sc (.int .i64 x)
@[simp] theorem ArG (xs:List Int):(ints xs).length=xs.length:=by simp[ints]
@[simp] theorem ArF:ints []=[]:=rfl
@[simp] theorem ints_at {xs:List Int} {j:Nat} (h:j<xs.length):(ints xs)[j]? =some (V.sc (.int .i64 xs[j])):=by simp[ints,h]
@[simp] theorem Aq4 {xs:List Int} {j:Nat} (h:j<(ints xs).length):(ints xs)[j]=V.sc (.int .i64 (xs[j]'(by simpa using h))):=by simp[ints]
@[simp] theorem Asl (xs:List Int) (k:Nat):(ints xs).map (AO k)=ints xs:=by simp[ints,Function.comp_def,AO]
theorem Ab4 (xs ys:List Int):ints xs++ints ys=ints (xs++ys):=by simp[ints]
@[simp] theorem Aq2 (xs:List Int) (y:Int):ints xs++ [V.sc (.int .i64 y)]=ints (xs++ [y]):=by simp[ints]
@[simp] theorem ints_set (xs:List Int) (j:Nat) (y:Int):(ints xs).set j (V.sc (.int .i64 y))=ints (xs.set j y):=by simp[ints]
@[simp] theorem ArS (n:Nat):(List.replicate n [V.sc (.int .i64 0)]).flatten=ints (List.replicate n 0):=by
 induction n with
 | zero=>rfl
 | succ n ih=>simp[List.replicate_succ,ints]at *
@[simp] theorem Asi (xs:List Int):(ints xs).all Mr=true:=by simp[ints,Mr]
@[simp] theorem Aq6 (xs:List Int) (o n:Nat):part (ints xs) 1 o n=ints ((xs.drop o).take n):=by simp[part,ints]
@[simp] theorem Arh:∀xs:List Int,(∀x,x∈ints xs->Mr x=true)=True:=by simp[ints,Mr]
@[simp] theorem Arc (a:V) (cs:List V) (off n:Nat):ER (a::cs) off n=if off+n<=cs.length+1 then some (((a::cs).drop off).take n)else none:=by simp[ER]
structure Aaf where
 ok:Bool
 version:Int
 tags:List Int
 deriving DecidableEq
structure EG where
 limit:Int
 drops:List Int
 strips:List Int
 lists:Bool
 deriving DecidableEq
structure BP where
 deal:Aaf
 tries:Int
 up:List Int
 deriving DecidableEq
structure AX where
 version:Int
 stages:List Int
 pos:Int
 off:Bool
 deriving DecidableEq
structure Ai where
 versions:List Int
 tags:List Int
 path:List EG
 cls:Int
 deriving DecidableEq
structure Eo where
 fin:Int
 tick:Int
 on:Bool
 dialed:BP
 deriving DecidableEq
structure World where
 server:List Int
 tags:List Int
 key:Int
 ends:List Ai
 rollout:AX
 least:Int
 percent:Int
 stage:List BP
 log:List Eo
 now:Int
 hurt:Int
 reached:Int
 deriving DecidableEq
structure Event where
 kind:Int
 n:Int
 box:EG
 deriving DecidableEq
abbrev sl (fl e n:Nat) (cs:List V):V:= .sl fl e n cs
def AfJ (d:Aaf):List V:=[.sc (.bool d.ok),.sc (.int .i64 d.version),.sl 0 1 d.tags.length (ints d.tags)]
def DT (d:EG):List V:=[.sc (.int .i64 d.limit),.sl 0 1 d.drops.length (ints d.drops),.sl 0 1 d.strips.length (ints d.strips),.sc (.bool d.lists)]
def AB (d:BP):List V:=[.sc (.bool d.deal.ok),.sc (.int .i64 d.deal.version),.sl 0 1 d.deal.tags.length (ints d.deal.tags),.sc (.int .i64 d.tries),.sl 0 1 d.up.length (ints d.up)]
def Dj (d:AX):List V:=[.sc (.int .i64 d.version),.sl 0 1 d.stages.length (ints d.stages),.sc (.int .i64 d.pos),.sc (.bool d.off)]
def Ah (d:Ai):List V:=[.sl 0 1 d.versions.length (ints d.versions),.sl 0 1 d.tags.length (ints d.tags),.sl 0 4 d.path.length (d.path.flatMap DT),.sc (.int .i64 d.cls)]
def Az (d:Eo):List V:=[.sc (.int .i64 d.fin),.sc (.int .i64 d.tick),.sc (.bool d.on),.sc (.bool d.dialed.deal.ok),.sc (.int .i64 d.dialed.deal.version),.sl 0 1 d.dialed.deal.tags.length (ints d.dialed.deal.tags),.sc (.int .i64 d.dialed.tries),.sl 0 1 d.dialed.up.length (ints d.dialed.up)]
def Bu (d:World):List V:=[.sl 0 1 d.server.length (ints d.server),.sl 0 1 d.tags.length (ints d.tags),.sc (.int .i64 d.key),.sl 0 4 d.ends.length (d.ends.flatMap Ah),.sc (.int .i64 d.rollout.version),.sl 0 1 d.rollout.stages.length (ints d.rollout.stages),.sc (.int .i64 d.rollout.pos),.sc (.bool d.rollout.off),.sc (.int .i64 d.least),.sc (.int .i64 d.percent),.sl 0 5 d.stage.length (d.stage.flatMap AB),.sl 0 8 d.log.length (d.log.flatMap Az),.sc (.int .i64 d.now),.sc (.int .i64 d.hurt),.sc (.int .i64 d.reached)]
def BJ (d:Event):List V:=[.sc (.int .i64 d.kind),.sc (.int .i64 d.n),.sc (.int .i64 d.box.limit),.sl 0 1 d.box.drops.length (ints d.box.drops),.sl 0 1 d.box.strips.length (ints d.box.strips),.sc (.bool d.box.lists)]
abbrev arg (cs:List V):V:= .agg (cs.map (AO 1))
section
variable {α:Type} {f:α->List V} {e:Nat}
theorem R8 (hf:∀x,(f x).map (AO 0)=f x) (xs:List α):(xs.flatMap f).map (AO 0)=xs.flatMap f:=by
 induction xs with
 | nil=>rfl
 | cons x xs ih=>simp[hf,ih]
theorem R4 (cs ds:List V) (o:Nat):∀(azs:List V),o+azs.length<=ds.length->putAt (cs++ds) (cs.length+o) azs=cs++putAt ds o azs:=by
 intro azs
 induction azs generalizing ds o with
 | nil=>intro _;simp[putAt]
 | cons a azs ih=>
  intro h
  simp only[putAt,List.length_cons]at *
  rw[List.set_append_right _ _ (by omega),show cs.length+o-cs.length=o by omega,show cs.length+o+1=cs.length+(o+1)by omega]
  exact ih _ _ (by simp;omega)
theorem Ai9:∀(ds azs:List V),azs.length<=ds.length->putAt ds 0 azs=azs++ds.drop azs.length:=by
 have key:∀(azs pre ds:List V),azs.length<=ds.length->putAt (pre++ds) pre.length azs=pre++azs++ds.drop azs.length:=by
  intro azs
  induction azs with
  | nil=>intro pre ds _;simp[putAt]
  | cons a azs ih=>
   intro pre ds h
   cases ds with
   | nil=>simp at h
   | cons d ds=>
    have:=ih (pre++ [a]) ds (by simpa using h)
    simp only[putAt]
    rw[List.set_append_right _ _ (Nat.le_refl _),Nat.sub_self,List.set_cons_zero]
    simpa using this
 intro ds azs h
 simpa using key azs [] ds h
theorem Ml (hf:∀x,(f x).length=e) {xs:List α} {i:Nat} (hi:i<xs.length) (x:α):putAt (xs.flatMap f) (i*e) (f x)=(xs.set i x).flatMap f:=by
 induction xs generalizing i with
 | nil=>simp at hi
 | cons y ys ih=>
  cases i with
  | zero=>
   rw[Nat.zero_mul,Ai9 _ _ (by simp[hf])]
   simp[hf]
  | succ i=>
   simp only[List.flatMap_cons,List.set_cons_succ]
   rw[show(i+1)*e=(f y).length+i*e by rw[hf,Nat.add_mul];omega,R4]
   ·rw[ih (by simpa using hi)]
   ·rw[Iq hf,hf]
    have:=Nat.mul_le_mul_right e (show i+1<=ys.length by simp at hi;omega)
    rw[Nat.add_mul]at this;omega
theorem AR2 (z:α) (n:Nat):(List.replicate n (f z)).flatten=(List.replicate n z).flatMap f:=by
 induction n with
 | zero=>rfl
 | succ n ih=>simp[List.replicate_succ,ih]
end
def fd (o:O):Prop:=o= .free∨o= .dead
@[simp] theorem Aso:fd .free:= .inl rfl
@[simp] theorem Ar4:fd .dead:= .inr rfl
def mix {α:Type} (z:α) (xs:List α) (j:Nat):List α:=xs.take j++List.replicate (xs.length-j) z
section
variable {α:Type} {z:α} {xs:List α} {j:Nat}
@[simp] theorem ArY (h:j<=xs.length):(mix z xs j).length=xs.length:=by simp[mix];omega
theorem ARv:mix z xs 0=List.replicate xs.length z:=by simp[mix]
theorem ARZ (h:xs.length<=j):mix z xs j=xs:=by simp[mix,Nat.sub_eq_zero_of_le h,List.take_of_length_le h]
theorem AR5 (h:j<xs.length):(mix z xs j).set j xs[j]=mix z xs (j+1):=by
 unfold mix
 have hl:(xs.take j).length=j:=by simp;omega
 rw[List.set_append_right _ _ (by omega),hl,Nat.sub_self]
 obtain⟨k,hk⟩:∃k,xs.length-j=k+1:=⟨xs.length-j-1,by omega⟩
 have hk':xs.length-(j+1)=k:=by omega
 have ht:xs.take (j+1)=xs.take j++ [xs[j]]:=by simp
 rw[hk,hk',List.replicate_succ,List.set_cons_zero,ht,List.append_assoc]
 rfl
end
theorem Ad {n:Int} (h1:-9223372036854775808<=n) (h2:n<=9223372036854775807):IntKind.i64.wrap n=n:=by
 show(if(true&&decide (n % (2 ^ 64:Int)>=(2 ^ 63:Int)))=true then n % (2 ^ 64:Int)-(2 ^ 64:Int)else n % (2 ^ 64:Int))=n
 by_cases h:n % (2 ^ 64:Int)>=(2 ^ 63:Int)
 ·rw[if_pos (by simp only[h];rfl)];omega
 ·rw[if_neg (by simp only[h];simp)];omega
theorem Cv {j:Nat} (h:j<9223372036854775807):IntKind.i64.wrap ((j:Int)+1)=(j+1:Nat):=by rw[Ad (by omega) (by omega)];simp
section
variable {α:Type} {xs ys:List α} {j:Nat}
theorem Adh (hx:j<xs.length) (hy:j<ys.length) (h:xs.take j=ys.take j) (he:xs[j]=ys[j]):xs.take (j+1)=ys.take (j+1):=by
 rw[List.take_add_one,List.take_add_one,h,List.getElem?_eq_getElem hx,List.getElem?_eq_getElem hy,he]
theorem Agx (hx:xs.length<=j) (hl:xs.length=ys.length) (h:xs.take j=ys.take j):xs=ys:=by
 rwa [List.take_of_length_le hx,List.take_of_length_le (by omega)]at h
end
def Cr {α:Type} (f:α->Nat) (xs:List α):Nat:=xs.length+(xs.map f).sum
def ND (d:Aaf):Nat:=d.tags.length
def Gm (d:EG):Nat:=d.drops.length+d.strips.length
def Cb (d:BP):Nat:=ND d.deal+d.up.length
def Db (d:AX):Nat:=d.stages.length
def Am (d:Ai):Nat:=d.versions.length+d.tags.length+Cr Gm d.path
def Ip (d:Eo):Nat:=Cb d.dialed
def Af (d:World):Nat:=d.server.length+d.tags.length+Cr Am d.ends+Db d.rollout+Cr Cb d.stage+Cr Ip d.log
def Hy (d:Event):Nat:=Gm d.box
def szl (n:Nat) (l:Int):Int:=if l<n then -1 else l-n
section
variable {α:Type} {f:α->Nat} {xs:List α} {j:Nat}
theorem AlZ (h:j<xs.length):((xs.take (j+1)).map f).sum=((xs.take j).map f).sum+f xs[j]:=by
 rw[List.take_add_one,List.getElem?_eq_getElem h,List.map_append,List.sum_append,Option.toList_some,List.map_cons,List.map_nil,List.sum_cons,List.sum_nil,Nat.add_zero]
theorem AfV:((xs.take j).map f).sum<=(xs.map f).sum:=by
 conv=>rhs;rw[<-List.take_append_drop j xs,List.map_append,List.sum_append]
 omega
theorem AR8 (h:xs.length<=j):((xs.take j).map f).sum=(xs.map f).sum:=by rw[List.take_of_length_le h]
theorem size_at (h:j<xs.length):f xs[j]<=Cr f xs:=by
 have h1:=AlZ (f:=f) h
 have h2:=AfV (f:=f) (xs:=xs) (j:=j+1)
 unfold Cr;omega
theorem J9:xs.length<=Cr f xs:=by unfold Cr;omega
end
def Nr (xs:List Int):Prop:=xs.length<=maxLen
def lnS {α:Type} (f:α->Prop) (xs:List α):Prop:=xs.length<=maxLen/\∀(j:Nat) (h:j<xs.length),f xs[j]
def AIl (d:Aaf):Prop:=Nr d.tags
def Kh (d:EG):Prop:=Nr d.drops/\Nr d.strips
def Ayh (d:BP):Prop:=AIl d.deal/\Nr d.up
def ABu (d:AX):Prop:=Nr d.stages
def AbY (d:Ai):Prop:=Nr d.versions/\Nr d.tags/\lnS Kh d.path
def ADx (d:Eo):Prop:=Ayh d.dialed
def AAK (d:World):Prop:=Nr d.server/\Nr d.tags/\lnS AbY d.ends/\ABu d.rollout/\lnS Ayh d.stage/\lnS ADx d.log
theorem Gp (x:EG):(DT x).length=4:=rfl
theorem C9 (x:BP):(AB x).length=5:=rfl
theorem Dh (x:Ai):(Ah x).length=4:=rfl
theorem Bh (x:Eo):(Az x).length=8:=rfl
theorem CS (x:Event):(BJ x).length=6:=rfl
@[simp] theorem Ar8 (xs:List EG):(xs.flatMap DT).map (AO 0)=xs.flatMap DT:=R8 (fun _=>rfl) xs
@[simp] theorem AqN (xs:List BP):(xs.flatMap AB).map (AO 0)=xs.flatMap AB:=R8 (fun _=>rfl) xs
@[simp] theorem AoC (xs:List Ai):(xs.flatMap Ah).map (AO 0)=xs.flatMap Ah:=R8 (fun _=>rfl) xs
@[simp] theorem AqO (xs:List Eo):(xs.flatMap Az).map (AO 0)=xs.flatMap Az:=R8 (fun _=>rfl) xs
@[simp] theorem Ara (xs:List Event):(xs.flatMap BJ).map (AO 0)=xs.flatMap BJ:=R8 (fun _=>rfl) xs
@[simp high] theorem Asm {xs:List EG} {j:Nat} (h:j<xs.length):ER (xs.flatMap DT) (j*4) 4=some (DT xs[j]):=JB Gp h
@[simp high] theorem Ap7 {xs:List BP} {j:Nat} (h:j<xs.length):ER (xs.flatMap AB) (j*5) 5=some (AB xs[j]):=JB C9 h
@[simp high] theorem Ao8 {xs:List Ai} {j:Nat} (h:j<xs.length):ER (xs.flatMap Ah) (j*4) 4=some (Ah xs[j]):=JB Dh h
@[simp high] theorem Aqo {xs:List Eo} {j:Nat} (h:j<xs.length):ER (xs.flatMap Az) (j*8) 8=some (Az xs[j]):=JB Bh h
@[simp high] theorem AqY {xs:List Event} {j:Nat} (h:j<xs.length):ER (xs.flatMap BJ) (j*6) 6=some (BJ xs[j]):=JB CS h
@[simp high] theorem Aq7 (xs:List EG):(xs.flatMap DT).length=xs.length*4:=Iq Gp xs
@[simp high] theorem ArH {xs:List EG} {j:Nat} (h:j<xs.length) (a:Int) (b c:List Int) (d:Bool) {nb:Nat} (hb:nb=b.length) {nc:Nat} (hc:nc=c.length):putAt (xs.flatMap DT) (j*4) [.sc (.int .i64 a),.sl 0 1 nb (ints b),.sl 0 1 nc (ints c),.sc (.bool d)]=(xs.set j ⟨a,b,c,d⟩).flatMap DT:=by subst hb;subst hc;exact Ml Gp h ⟨a,b,c,d⟩
@[simp high] theorem Ao1 (xs:List BP):(xs.flatMap AB).length=xs.length*5:=Iq C9 xs
@[simp high] theorem Apz {xs:List BP} {j:Nat} (h:j<xs.length) (a:Bool) (b:Int) (c:List Int) (d:Int) (u:List Int) {nc:Nat} (hc:nc=c.length) {nu:Nat} (hu:nu=u.length):putAt (xs.flatMap AB) (j*5) [.sc (.bool a),.sc (.int .i64 b),.sl 0 1 nc (ints c),.sc (.int .i64 d),.sl 0 1 nu (ints u)]=(xs.set j ⟨⟨a,b,c⟩,d,u⟩).flatMap AB:=by subst hc;subst hu;exact Ml C9 h ⟨⟨a,b,c⟩,d,u⟩
@[simp high] theorem Al9 (xs:List Ai):(xs.flatMap Ah).length=xs.length*4:=Iq Dh xs
@[simp high] theorem AnW {xs:List Ai} {j:Nat} (h:j<xs.length) (a b:List Int) (c:List EG) (d:Int) {na:Nat} (ha:na=a.length) {nb:Nat} (hb:nb=b.length) {nc:Nat} (hc:nc=c.length):putAt (xs.flatMap Ah) (j*4) [.sl 0 1 na (ints a),.sl 0 1 nb (ints b),.sl 0 4 nc (c.flatMap DT),.sc (.int .i64 d)]=(xs.set j ⟨a,b,c,d⟩).flatMap Ah:=by subst ha;subst hb;subst hc;exact Ml Dh h ⟨a,b,c,d⟩
@[simp high] theorem AoX (xs:List Eo):(xs.flatMap Az).length=xs.length*8:=Iq Bh xs
@[simp high] theorem Apj {xs:List Eo} {j:Nat} (h:j<xs.length) (m n:Int) (o a:Bool) (b:Int) (c:List Int) (d:Int) (u:List Int) {nc:Nat} (hc:nc=c.length) {nu:Nat} (hu:nu=u.length):putAt (xs.flatMap Az) (j*8) [.sc (.int .i64 m),.sc (.int .i64 n),.sc (.bool o),.sc (.bool a),.sc (.int .i64 b),.sl 0 1 nc (ints c),.sc (.int .i64 d),.sl 0 1 nu (ints u)]=(xs.set j ⟨m,n,o,⟨⟨a,b,c⟩,d,u⟩⟩).flatMap Az:=by subst hc;subst hu;exact Ml Bh h ⟨m,n,o,⟨⟨a,b,c⟩,d,u⟩⟩
@[simp high] theorem Apw (xs:List Event):(xs.flatMap BJ).length=xs.length*6:=Iq CS xs
@[simp high] theorem Aqa {xs:List Event} {j:Nat} (h:j<xs.length) (m n:Int) (a:Int) (b c:List Int) (d:Bool) {nb:Nat} (hb:nb=b.length) {nc:Nat} (hc:nc=c.length):putAt (xs.flatMap BJ) (j*6) [.sc (.int .i64 m),.sc (.int .i64 n),.sc (.int .i64 a),.sl 0 1 nb (ints b),.sl 0 1 nc (ints c),.sc (.bool d)]=(xs.set j ⟨m,n,⟨a,b,c,d⟩⟩).flatMap BJ:=by subst hb;subst hc;exact Ml CS h ⟨m,n,⟨a,b,c,d⟩⟩
@[simp high] theorem Asb {xs:List EG} {j:Nat} (h:j<xs.length):(xs.flatMap DT)[j*4]? =some (.sc (.int .i64 xs[j].limit)):=by
 have:=Aq (o:=0) Gp h (by omega)
 simpa[DT]using this
@[simp high] theorem Ar2 {xs:List EG} {j:Nat} (h:j<xs.length):(xs.flatMap DT)[j*4+1]? =some (.sl 0 1 xs[j].drops.length (ints xs[j].drops)):=by
 have:=Aq (o:=1) Gp h (by omega)
 simpa[DT]using this
@[simp high] theorem Ash {xs:List EG} {j:Nat} (h:j<xs.length):(xs.flatMap DT)[j*4+2]? =some (.sl 0 1 xs[j].strips.length (ints xs[j].strips)):=by
 have:=Aq (o:=2) Gp h (by omega)
 simpa[DT]using this
@[simp high] theorem Asn {xs:List EG} {j:Nat} (h:j<xs.length):(xs.flatMap DT)[j*4+3]? =some (.sc (.bool xs[j].lists)):=by
 have:=Aq (o:=3) Gp h (by omega)
 simpa[DT]using this
@[simp high] theorem ApI {xs:List BP} {j:Nat} (h:j<xs.length):(xs.flatMap AB)[j*5]? =some (.sc (.bool xs[j].deal.ok)):=by
 have:=Aq (o:=0) C9 h (by omega)
 simpa[AB]using this
@[simp high] theorem Ap9 {xs:List BP} {j:Nat} (h:j<xs.length):(xs.flatMap AB)[j*5+1]? =some (.sc (.int .i64 xs[j].deal.version)):=by
 have:=Aq (o:=1) C9 h (by omega)
 simpa[AB]using this
@[simp high] theorem ApM {xs:List BP} {j:Nat} (h:j<xs.length):(xs.flatMap AB)[j*5+2]? =some (.sl 0 1 xs[j].deal.tags.length (ints xs[j].deal.tags)):=by
 have:=Aq (o:=2) C9 h (by omega)
 simpa[AB]using this
@[simp high] theorem ApQ {xs:List BP} {j:Nat} (h:j<xs.length):(xs.flatMap AB)[j*5+3]? =some (.sc (.int .i64 xs[j].tries)):=by
 have:=Aq (o:=3) C9 h (by omega)
 simpa[AB]using this
@[simp high] theorem Ap4 {xs:List BP} {j:Nat} (h:j<xs.length):(xs.flatMap AB)[j*5+4]? =some (.sl 0 1 xs[j].up.length (ints xs[j].up)):=by
 have:=Aq (o:=4) C9 h (by omega)
 simpa[AB]using this
@[simp high] theorem Aol {xs:List Ai} {j:Nat} (h:j<xs.length):(xs.flatMap Ah)[j*4]? =some (.sl 0 1 xs[j].versions.length (ints xs[j].versions)):=by
 have:=Aq (o:=0) Dh h (by omega)
 simpa[Ah]using this
@[simp high] theorem Ao2 {xs:List Ai} {j:Nat} (h:j<xs.length):(xs.flatMap Ah)[j*4+1]? =some (.sl 0 1 xs[j].tags.length (ints xs[j].tags)):=by
 have:=Aq (o:=1) Dh h (by omega)
 simpa[Ah]using this
@[simp high] theorem An0 {xs:List Ai} {j:Nat} (h:j<xs.length):(xs.flatMap Ah)[j*4+2]? =some (.sl 0 4 xs[j].path.length (xs[j].path.flatMap DT)):=by
 have:=Aq (o:=2) Dh h (by omega)
 simpa[Ah]using this
@[simp high] theorem Apb {xs:List Ai} {j:Nat} (h:j<xs.length):(xs.flatMap Ah)[j*4+3]? =some (.sc (.int .i64 xs[j].cls)):=by
 have:=Aq (o:=3) Dh h (by omega)
 simpa[Ah]using this
@[simp high] theorem Aqm {xs:List Eo} {j:Nat} (h:j<xs.length):(xs.flatMap Az)[j*8]? =some (.sc (.int .i64 xs[j].fin)):=by
 have:=Aq (o:=0) Bh h (by omega)
 simpa[Az]using this
@[simp high] theorem Aqv {xs:List Eo} {j:Nat} (h:j<xs.length):(xs.flatMap Az)[j*8+1]? =some (.sc (.int .i64 xs[j].tick)):=by
 have:=Aq (o:=1) Bh h (by omega)
 simpa[Az]using this
@[simp high] theorem Aqr {xs:List Eo} {j:Nat} (h:j<xs.length):(xs.flatMap Az)[j*8+2]? =some (.sc (.bool xs[j].on)):=by
 have:=Aq (o:=2) Bh h (by omega)
 simpa[Az]using this
@[simp high] theorem ApD {xs:List Eo} {j:Nat} (h:j<xs.length):(xs.flatMap Az)[j*8+3]? =some (.sc (.bool xs[j].dialed.deal.ok)):=by
 have:=Aq (o:=3) Bh h (by omega)
 simpa[Az]using this
@[simp high] theorem AqM {xs:List Eo} {j:Nat} (h:j<xs.length):(xs.flatMap Az)[j*8+4]? =some (.sc (.int .i64 xs[j].dialed.deal.version)):=by
 have:=Aq (o:=4) Bh h (by omega)
 simpa[Az]using this
@[simp high] theorem Aqb {xs:List Eo} {j:Nat} (h:j<xs.length):(xs.flatMap Az)[j*8+5]? =some (.sl 0 1 xs[j].dialed.deal.tags.length (ints xs[j].dialed.deal.tags)):=by
 have:=Aq (o:=5) Bh h (by omega)
 simpa[Az]using this
@[simp high] theorem ApP {xs:List Eo} {j:Nat} (h:j<xs.length):(xs.flatMap Az)[j*8+6]? =some (.sc (.int .i64 xs[j].dialed.tries)):=by
 have:=Aq (o:=6) Bh h (by omega)
 simpa[Az]using this
@[simp high] theorem ApR {xs:List Eo} {j:Nat} (h:j<xs.length):(xs.flatMap Az)[j*8+7]? =some (.sl 0 1 xs[j].dialed.up.length (ints xs[j].dialed.up)):=by
 have:=Aq (o:=7) Bh h (by omega)
 simpa[Az]using this
@[simp high] theorem Arn {xs:List Event} {j:Nat} (h:j<xs.length):(xs.flatMap BJ)[j*6]? =some (.sc (.int .i64 xs[j].kind)):=by
 have:=Aq (o:=0) CS h (by omega)
 simpa[BJ]using this
@[simp high] theorem AqW {xs:List Event} {j:Nat} (h:j<xs.length):(xs.flatMap BJ)[j*6+1]? =some (.sc (.int .i64 xs[j].n)):=by
 have:=Aq (o:=1) CS h (by omega)
 simpa[BJ]using this
@[simp high] theorem AqX {xs:List Event} {j:Nat} (h:j<xs.length):(xs.flatMap BJ)[j*6+2]? =some (.sc (.int .i64 xs[j].box.limit)):=by
 have:=Aq (o:=2) CS h (by omega)
 simpa[BJ]using this
@[simp high] theorem Aq9 {xs:List Event} {j:Nat} (h:j<xs.length):(xs.flatMap BJ)[j*6+3]? =some (.sl 0 1 xs[j].box.drops.length (ints xs[j].box.drops)):=by
 have:=Aq (o:=3) CS h (by omega)
 simpa[BJ]using this
@[simp high] theorem Arf {xs:List Event} {j:Nat} (h:j<xs.length):(xs.flatMap BJ)[j*6+4]? =some (.sl 0 1 xs[j].box.strips.length (ints xs[j].box.strips)):=by
 have:=Aq (o:=4) CS h (by omega)
 simpa[BJ]using this
@[simp high] theorem Ari {xs:List Event} {j:Nat} (h:j<xs.length):(xs.flatMap BJ)[j*6+5]? =some (.sc (.bool xs[j].box.lists)):=by
 have:=Aq (o:=5) CS h (by omega)
 simpa[BJ]using this
theorem K8 {α:Type} {f:α->List V} {e:Nat} (hf:∀x,(f x).length=e) {xs:List α} {j o n:Nat} (h:j<xs.length) (ho:o+n<=e):ER (xs.flatMap f) (j*e+o) n=some (((f xs[j]).drop o).take n):=by
 unfold ER
 have hl:=Iq hf xs
 have h2:j*e+e<=xs.length*e:=by
  have:=Nat.mul_le_mul_right e (show j+1<=xs.length by omega)
  rw[Nat.add_mul]at this;omega
 rw[hl,if_pos (by omega),<-List.drop_drop,RA hf,List.drop_eq_getElem_cons h,List.flatMap_cons,List.drop_append,List.take_append]
 have h3:=hf xs[j]
 rw[List.length_drop,h3]
 have:n-(e-o)=0:=by omega
 rw[this,List.take_zero,List.append_nil]
@[simp high] theorem ApN {xs:List Eo} {j:Nat} (h:j<xs.length):ER (xs.flatMap Az) (j*8+3) 5=some (AB xs[j].dialed):=K8 Bh h (by omega)
@[simp high] theorem AqS {xs:List Eo} {j:Nat} (h:j<xs.length):ER (xs.flatMap Az) (j*8+3) 3=some (AfJ xs[j].dialed.deal):=K8 Bh h (by omega)
@[simp high] theorem ApF {xs:List BP} {j:Nat} (h:j<xs.length):ER (xs.flatMap AB) (j*5) 3=some (AfJ xs[j].deal):=K8 (o:=0) C9 h (by omega)
@[simp high] theorem Aq5 {xs:List Event} {j:Nat} (h:j<xs.length):ER (xs.flatMap BJ) (j*6+2) 4=some (DT xs[j].box):=K8 CS h (by omega)
attribute [simp] Nat.add_one_le_iff AfJ DT AB Dj Ah Az Bu BJ
variable (R:Rel)
abbrev Vf:Prop:=∀a b c:Int,R [I a,I b,I c] [] (B (decide (b<=a/\a<=c))) []
variable (D:Dn)
theorem Aqt:Vf (Body D TW):=by
 intro a b c
 by_cases h1:b<=a<;>by_cases h2:a<=c<;>simp -implicitDefEqProofs [h1,h2]
theorem AIX:Vf (Body D AwZ):=by
 intro a b c
 by_cases h1:b<=a<;>by_cases h2:a<=c<;>simp -implicitDefEqProofs [h1,h2]
def APB:List (List UInt8):=[[],[100,105,97,108],[115,116,97,114,116],[115,116,97,103,101],[114,101,116,105,114,101],[114,101,118,105,118,101],[98,111,120],[99,108,101,97,114],[116,105,99,107]]
def ALe (k:Int):ByteArray:=if 1<=k/\k<=8 then⟨(APB.getD k.toNat []).toArray⟩else⟨#[]⟩
theorem APE {k:Int} (h:1<=k/\k<=8):k=1∨k=2∨k=3∨k=4∨k=5∨k=6∨k=7∨k=8:=by omega
abbrev AMm:Prop:=∀k:Int,R [I k] [] (S (ALe k)) []
theorem AOu (hIn:Vf (D 71)):AMm (Body D ALj):=by
 intro k
 simp -implicitDefEqProofs
 refine Aa (hIn _ _ _) ?_
 by_cases h:1<=k/\k<=8
 ·rcases APE h with rfl | rfl | rfl | rfl | rfl | rfl | rfl | rfl<;>simp -implicitDefEqProofs [ALe]<;>rfl
 ·simp -implicitDefEqProofs [h,ALe]
abbrev AQx:Prop:=∀(xs:List Int) (l:Int),0<=l->l<=4194304->Nr xs->R [.sl 1 1 xs.length (ints xs),I l] [] (I (szl xs.length l)) []
theorem AU5:AQx (Body D AQ5):=by
 intro xs l h1 h2 h3
 have hw:IntKind.i64.wrap (l-(xs.length:Int))=l-xs.length:=by unfold Nr maxLen at h3;exact Ad (by omega) (by omega)
 by_cases h:l<xs.length
 ·have h':l-(xs.length:Int)<0:=by omega
  simp -implicitDefEqProofs [hw,h,h',szl]
 ·have h':¬l-(xs.length:Int)<0:=by omega
  simp -implicitDefEqProofs [hw,h,h',szl]
abbrev AQu:Prop:=∀(xs:List Int),xs.length*8<=2 ^ 40->R [.sl 1 1 xs.length (ints xs)] [] (.sl 0 1 xs.length (ints xs)) []
theorem AU0:AQu (Body D AQW):=by
 intro xs hl
 have h1:((xs.length:Nat):Int)*8<=1099511627776:=by omega
 simp -implicitDefEqProofs [h1]
 refine Ag (fun k s=>∃j,j+k=xs.length/\s=⟨[.sl 1 1 xs.length (ints xs),.undef,.arr 0,.sc (.int .i64 j),.undef],[.arr 1 0 xs.length (ints (mix 0 xs j))]⟩) ?_ xs.length _ ⟨0,by simp,by simp[ARv,ints]⟩
 intro k s ⟨j,hj,hs⟩
 subst hs
 by_cases hjn:j<xs.length
 ·have hw:=Cv (j:=j) (by omega)
  simp -implicitDefEqProofs [hjn,Nat.le_of_lt hjn,AR5]
  exact⟨k-1,by omega,j+1,by omega,by simp[hw],rfl⟩
 ·have hje:mix 0 xs j=xs:=ARZ (by omega)
  simp -implicitDefEqProofs [hjn,hje]
abbrev Uu:Prop:=∀(xs ys:List Int),xs.length<=maxLen->ys.length<=maxLen->R [.sl 1 1 xs.length (ints xs),.sl 1 1 ys.length (ints ys)] [] (B (decide (xs=ys))) []
theorem AUV:Uu (Body D AQ6):=by
 intro xs ys h1 h2
 unfold maxLen at h1 h2
 by_cases hl:xs.length=ys.length
 ·have hl':(xs.length:Int)=ys.length:=by omega
  simp -implicitDefEqProofs [hl']
  refine Ag (fun k s=>∃j,j+k=xs.length/\xs.take j=ys.take j/\s=⟨[.sl 1 1 xs.length (ints xs),.sl 1 1 ys.length (ints ys),.undef,.sc (.int .i64 j),.undef,.undef,.undef],[]⟩) ?_ xs.length _ ⟨0,by simp,by simp,by simp⟩
  intro k s ⟨j,hj,hp,hs⟩
  subst hs
  by_cases hjn:j<xs.length
  ·have hw:=Cv (j:=j) (by omega)
   have hy:j<ys.length:=by omega
   by_cases he:xs[j]=ys[j]
   ·simp -implicitDefEqProofs [hjn,hy,he]
    exact⟨k-1,by omega,j+1,by omega,Adh hjn hy hp he,by simp[hw]⟩
   ·have hne:xs≠ys:=fun h=>he (by simp[h])
    simp -implicitDefEqProofs [hjn,hy,he,hne]
  ·obtain rfl:xs=ys:=Agx (by omega) hl hp
   simp -implicitDefEqProofs [hjn]
 ·have hl':¬(xs.length:Int)=ys.length:=by omega
  have:xs≠ys:=fun h=>hl (by rw[h])
  simp -implicitDefEqProofs [hl',this]
abbrev ATU:Prop:=∀(x:EG) (l:Int),0<=l->l<=4194304->Kh x->R [arg (DT x),I l] [] (I (szl (Gm x) l)) []
theorem AU9 (hszIntS:AQx (D 16)):ATU (Body D ARr):=by
 intro x l hl1 hl2 hln
 simp only[Kh]at hln
 simp -implicitDefEqProofs
 refine Aa (hszIntS x.drops (l) (by omega) (by omega) hln.1) ?_
 by_cases g0:l<((x.drops.length:Nat):Int)
 ·have gg:l<((Gm x:Nat):Int):=by simp only[Gm];omega
  have e1:szl (x.drops.length) (l)= -1:=by unfold szl;rw[if_pos g0]
  have e2:szl (Gm x) l= -1:=by unfold szl;rw[if_pos gg]
  simp -implicitDefEqProofs [e1,e2]
 have e3:szl (x.drops.length) (l)=l-((x.drops.length:Nat):Int):=by unfold szl;rw[if_neg g0]
 have p0:¬l-((x.drops.length:Nat):Int)<0:=by omega
 simp -implicitDefEqProofs [e3,p0]
 refine Aa (hszIntS x.strips (l-((x.drops.length:Nat):Int)) (by omega) (by omega) hln.2) ?_
 by_cases g1:l-((x.drops.length:Nat):Int)<((x.strips.length:Nat):Int)
 ·have gg:l<((Gm x:Nat):Int):=by simp only[Gm];omega
  have e1:szl (x.strips.length) (l-((x.drops.length:Nat):Int))= -1:=by unfold szl;rw[if_pos g1]
  have e2:szl (Gm x) l= -1:=by unfold szl;rw[if_pos gg]
  simp -implicitDefEqProofs [e1,e2]
 have e4:szl (x.strips.length) (l-((x.drops.length:Nat):Int))=l-((x.drops.length:Nat):Int)-((x.strips.length:Nat):Int):=by unfold szl;rw[if_neg g1]
 have p1:¬l-((x.drops.length:Nat):Int)-((x.strips.length:Nat):Int)<0:=by omega
 simp -implicitDefEqProofs [e4,p1]
 have gg:¬l<((Gm x:Nat):Int):=by simp only[Gm];omega
 unfold szl;rw[if_neg gg];simp only[Gm]<;>omega
abbrev ATY:Prop:=∀x:EG,Gm x<=4194304->R [arg (DT x)] [] (.agg (DT x)) []
theorem AVd (htoIntS:AQu (D 31)):ATY (Body D ARp):=by
 intro x h
 simp only[Gm]at h
 simp -implicitDefEqProofs
 refine Aa (htoIntS x.drops (by omega)) ?_
 simp -implicitDefEqProofs
 refine Aa (htoIntS x.strips (by omega)) ?_
 simp -implicitDefEqProofs
abbrev AT2:Prop:=∀x y:EG,Gm x<=2 ^ 40->Gm y<=2 ^ 40->R [arg (DT x),arg (DT y)] [] (B (decide (x=y))) []
theorem AVa (heqIntS:Uu (D 47)):AT2 (Body D ARt):=by
 intro x y h1 h2
 simp only[Gm]at h1 h2
 by_cases g_limit:x.limit=y.limit
 rotate_left
 ·have hne:x≠y:=fun h=>g_limit (by rw[h])
  simp -implicitDefEqProofs [g_limit,hne]
 simp -implicitDefEqProofs [g_limit]
 refine Aa (heqIntS x.drops y.drops (by unfold maxLen;omega) (by unfold maxLen;omega)) ?_
 by_cases g_drops:x.drops=y.drops
 rotate_left
 ·have hne:x≠y:=fun h=>g_drops (by rw[h])
  simp -implicitDefEqProofs [g_drops,hne]
 simp -implicitDefEqProofs [g_drops]
 refine Aa (heqIntS x.strips y.strips (by unfold maxLen;omega) (by unfold maxLen;omega)) ?_
 by_cases g_strips:x.strips=y.strips
 rotate_left
 ·have hne:x≠y:=fun h=>g_strips (by rw[h])
  simp -implicitDefEqProofs [g_strips,hne]
 simp -implicitDefEqProofs [g_strips]
 by_cases g_lists:x.lists=y.lists
 rotate_left
 ·have hne:x≠y:=fun h=>g_lists (by rw[h])
  simp -implicitDefEqProofs [g_lists,hne]
 simp -implicitDefEqProofs [g_lists]
 have hxy:x=y:=by cases x;cases y;simp_all
 simp -implicitDefEqProofs [hxy]
abbrev ASS:Prop:=∀xs ys:List EG,Cr Gm xs<=2 ^ 40->Cr Gm ys<=2 ^ 40->R [.sl 1 4 xs.length (xs.flatMap DT),.sl 1 4 ys.length (ys.flatMap DT)] [] (B (decide (xs=ys))) []
theorem AUR (heq:AT2 (D 249)):ASS (Body D AQ0):=by
 intro xs ys h1 h2
 have hlen:=J9 (f:=Gm) (xs:=xs)
 by_cases hl:xs.length=ys.length
 ·have hl':(xs.length:Int)=ys.length:=by omega
  simp -implicitDefEqProofs [hl']
  refine Ag (fun k s=>∃j,j+k=xs.length/\xs.take j=ys.take j/\s=⟨[.sl 1 4 xs.length (xs.flatMap DT),.sl 1 4 ys.length (ys.flatMap DT),.undef,.sc (.int .i64 j),.undef,.undef,.undef],[]⟩) ?_ xs.length _ ⟨0,by simp,by simp,by simp⟩
  intro k s ⟨j,hj,hp,hs⟩
  subst hs
  by_cases hjn:j<xs.length
  ·have hw:=Cv (j:=j) (by omega)
   have hy:j<ys.length:=by omega
   have hsx:=size_at (f:=Gm) hjn
   have hsy:=size_at (f:=Gm) hy
   simp -implicitDefEqProofs [hjn,hy]
   refine Aa (heq xs[j] ys[j] (by omega) (by omega)) ?_
   by_cases he:xs[j]=ys[j]
   ·simp -implicitDefEqProofs [he]
    exact⟨k-1,by omega,j+1,by omega,Adh hjn hy hp he,by simp[hw]⟩
   ·have hne:xs≠ys:=fun h=>he (by simp[h])
    simp -implicitDefEqProofs [he,hne]
  ·obtain rfl:xs=ys:=Agx (by omega) hl hp
   simp -implicitDefEqProofs [hjn]
 ·have hl':¬(xs.length:Int)=ys.length:=by omega
  have:xs≠ys:=fun h=>hl (by rw[h])
  simp -implicitDefEqProofs [hl',this]
abbrev AQM:Prop:=∀x y:Ai,Am x<=2 ^ 40->Am y<=2 ^ 40->R [arg (Ah x),arg (Ah y)] [] (B (decide (x=y))) []
theorem ATQ (heqIntS:Uu (D 47)) (heqBoxS:ASS (D 204)):AQM (Body D AP9):=by
 intro x y h1 h2
 simp only[Am]at h1 h2
 simp -implicitDefEqProofs
 refine Aa (heqIntS x.versions y.versions (by unfold maxLen;omega) (by unfold maxLen;omega)) ?_
 by_cases g_versions:x.versions=y.versions
 rotate_left
 ·have hne:x≠y:=fun h=>g_versions (by rw[h])
  simp -implicitDefEqProofs [g_versions,hne]
 simp -implicitDefEqProofs [g_versions]
 refine Aa (heqIntS x.tags y.tags (by unfold maxLen;omega) (by unfold maxLen;omega)) ?_
 by_cases g_tags:x.tags=y.tags
 rotate_left
 ·have hne:x≠y:=fun h=>g_tags (by rw[h])
  simp -implicitDefEqProofs [g_tags,hne]
 simp -implicitDefEqProofs [g_tags]
 refine Aa (heqBoxS x.path y.path (by omega) (by omega)) ?_
 by_cases g_path:x.path=y.path
 rotate_left
 ·have hne:x≠y:=fun h=>g_path (by rw[h])
  simp -implicitDefEqProofs [g_path,hne]
 simp -implicitDefEqProofs [g_path]
 by_cases g_cls:x.cls=y.cls
 rotate_left
 ·have hne:x≠y:=fun h=>g_cls (by rw[h])
  simp -implicitDefEqProofs [g_cls,hne]
 simp -implicitDefEqProofs [g_cls]
 have hxy:x=y:=by cases x;cases y;simp_all
 simp -implicitDefEqProofs [hxy]
abbrev AQq:Prop:=∀xs ys:List Ai,Cr Am xs<=2 ^ 40->Cr Am ys<=2 ^ 40->R [.sl 1 4 xs.length (xs.flatMap Ah),.sl 1 4 ys.length (ys.flatMap Ah)] [] (B (decide (xs=ys))) []
theorem ATC (heq:AQM (D 134)):AQq (Body D APW):=by
 intro xs ys h1 h2
 have hlen:=J9 (f:=Am) (xs:=xs)
 by_cases hl:xs.length=ys.length
 ·have hl':(xs.length:Int)=ys.length:=by omega
  simp -implicitDefEqProofs [hl']
  refine Ag (fun k s=>∃j,j+k=xs.length/\xs.take j=ys.take j/\s=⟨[.sl 1 4 xs.length (xs.flatMap Ah),.sl 1 4 ys.length (ys.flatMap Ah),.undef,.sc (.int .i64 j),.undef,.undef,.undef],[]⟩) ?_ xs.length _ ⟨0,by simp,by simp,by simp⟩
  intro k s ⟨j,hj,hp,hs⟩
  subst hs
  by_cases hjn:j<xs.length
  ·have hw:=Cv (j:=j) (by omega)
   have hy:j<ys.length:=by omega
   have hsx:=size_at (f:=Am) hjn
   have hsy:=size_at (f:=Am) hy
   simp -implicitDefEqProofs [hjn,hy]
   refine Aa (heq xs[j] ys[j] (by omega) (by omega)) ?_
   by_cases he:xs[j]=ys[j]
   ·simp -implicitDefEqProofs [he]
    exact⟨k-1,by omega,j+1,by omega,Adh hjn hy hp he,by simp[hw]⟩
   ·have hne:xs≠ys:=fun h=>he (by simp[h])
    simp -implicitDefEqProofs [he,hne]
  ·obtain rfl:xs=ys:=Agx (by omega) hl hp
   simp -implicitDefEqProofs [hjn]
 ·have hl':¬(xs.length:Int)=ys.length:=by omega
  have:xs≠ys:=fun h=>hl (by rw[h])
  simp -implicitDefEqProofs [hl',this]
def nums:Nat->Int->List Int
 | 0,_=> []
 | n+1,k=>k::nums n (k+1)
@[simp] theorem AnC:∀(n:Nat) (k:Int),(nums n k).length=n
 | 0,_=>rfl
 | n+1,k=>by simp[nums,AnC n]
theorem AT8:∀(n:Nat) (k:Int) (j:Nat) (h:j<(nums n k).length),(nums n k)[j]=k+j
 | 0,k,j,h=>by simp[nums]at h
 | n+1,k,0,h=>by simp[nums]
 | n+1,k,j+1,h=>by
  simp only[nums,List.getElem_cons_succ]
  rw[AT8 n (k+1) j (by simpa[nums]using h)]
  simp;omega
def mkL {α:Type} (mc:α->Nat) (mk:α->Int->α):List α->Int->List α
 | [],_=> []
 | x::r,k=>mk x k::mkL mc mk r (k+mc x)
def mcL {α:Type} (mc:α->Nat) (xs:List α):Nat:=(xs.map mc).sum
section
variable {α:Type} {mc:α->Nat} {mk:α->Int->α}
@[simp] theorem Ao6:∀(xs:List α) (k:Int),(mkL mc mk xs k).length=xs.length
 | [],_=>rfl
 | x::r,k=>by simp[mkL,Ao6 r]
theorem ASh:∀(xs:List α) (k:Int) (j:Nat) (h:j<xs.length),(mkL mc mk xs k)[j]'(by simpa using h)=mk xs[j] (k+(mcL mc (xs.take j):Nat))
 | [],k,j,h=>by simp at h
 | x::r,k,0,h=>by simp[mkL,mcL]
 | x::r,k,j+1,h=>by
  simp only[mkL,List.getElem_cons_succ]
  rw[ASh r (k+mc x) j (by simpa using h)]
  simp[mcL];congr 1;omega
theorem ATg (ys:List α):∀(xs:List α) (k:Int),mkL mc mk (xs++ys) k=mkL mc mk xs k++mkL mc mk ys (k+(mcL mc xs:Nat))
 | [],k=>by simp[mkL,mcL]
 | x::r,k=>by
  simp only[List.cons_append,mkL,ATg ys r]
  simp[mcL];congr 1;omega
def mkJ (mc:α->Nat) (mk:α->Int->α) (xs:List α) (k:Int) (j:Nat):List α:=mkL mc mk (xs.take j) k++xs.drop j
theorem ASf {xs:List α} {k:Int}:mkJ mc mk xs k 0=xs:=by simp[mkJ,mkL]
theorem ASN {xs:List α} {k:Int} {j:Nat} (h:xs.length<=j):mkJ mc mk xs k j=mkL mc mk xs k:=by simp[mkJ,List.take_of_length_le h,List.drop_eq_nil_of_le h]
@[simp] theorem Asj {xs:List α} {k:Int} {j:Nat} (h:j<=xs.length):(mkJ mc mk xs k j).length=xs.length:=by simp[mkJ];omega
theorem APl {xs:List α} {k:Int} {j:Nat} (h:j<xs.length):(mkJ mc mk xs k j)[j]'(by rw[Asj (by omega)];exact h)=xs[j]:=by
 unfold mkJ
 have hl:(mkL mc mk (xs.take j) k).length=j:=by simp;omega
 rw[List.getElem_append_right (by omega)]
 simp[hl]
theorem ASP {xs:List α} {k:Int} {j:Nat} (h:j<xs.length):(mkJ mc mk xs k j).set j (mk xs[j] (k+(mcL mc (xs.take j):Nat)))=mkJ mc mk xs k (j+1):=by
 unfold mkJ
 have hl:(mkL mc mk (xs.take j) k).length=j:=by simp;omega
 have ht:xs.take (j+1)=xs.take j++ [xs[j]]:=by simp
 rw[List.set_append_right _ _ (by omega),hl,Nat.sub_self,ht,ATg,List.drop_eq_getElem_cons h,List.set_cons_zero,List.append_assoc]
 rfl
theorem AQb {xs:List α} {j:Nat} (h:j<xs.length):mcL mc (xs.take (j+1))=mcL mc (xs.take j)+mc xs[j]:=AlZ h
theorem ARo {xs:List α} {j:Nat}:mcL mc (xs.take j)<=mcL mc xs:=AfV
theorem AQN {xs:List α} {j:Nat} (h:xs.length<=j):mcL mc (xs.take j)=mcL mc xs:=AR8 h
theorem ARn (h:∀x,1<=mc x) (xs:List α):xs.length<=mcL mc xs:=by
 induction xs with
 | nil=>simp
 | cons x r ih=>
  have:=h x
  simp[mcL]at *
  omega
end
theorem BA {α:Type} {f:α->List V} {e:Nat} (hf:∀x,(f x).length=e) {o:Nat} (ho:o<e) {v:V} {y:α}:∀ {xs:List α} {j:Nat} (h:j<xs.length),f y=(f xs[j]).set o v->(xs.flatMap f).set (j*e+o) v=(xs.set j y).flatMap f
 | [],j,h,_=>by simp at h
 | x::xs,0,_,hy=>by
  simp only[List.flatMap_cons,List.set_cons_zero,Nat.zero_mul,Nat.zero_add]
  rw[List.set_append_left _ _ (by rw[hf];exact ho),hy]
  rfl
 | x::xs,j+1,h,hy=>by
  simp only[List.flatMap_cons,List.set_cons_succ]
  have e1:(j+1)*e+o=(f x).length+(j*e+o):=by rw[hf,Nat.add_mul];omega
  rw[e1,List.set_append_right _ _ (by omega),Nat.add_sub_cancel_left,BA hf ho (by simpa using h) (by simpa using hy)]
@[simp high] theorem Ase {xs:List EG} {j:Nat} (h:j<xs.length) (a:Int):(xs.flatMap DT).set (j*4) (.sc (.int .i64 a))=(xs.set j ⟨a,xs[j].drops,xs[j].strips,xs[j].lists⟩).flatMap DT:=BA (o:=0) Gp (by omega) h rfl
@[simp high] theorem Asd {xs:List EG} {j:Nat} (h:j<xs.length) {n:Nat} (a:List Int) (hn:n=a.length):(xs.flatMap DT).set (j*4+1) (.sl 0 1 n (ints a))=(xs.set j ⟨xs[j].limit,a,xs[j].strips,xs[j].lists⟩).flatMap DT:=by subst hn;exact BA (o:=1) Gp (by omega) h rfl
@[simp high] theorem ArW {xs:List EG} {j:Nat} (h:j<xs.length) {n:Nat} (a:List Int) (hn:n=a.length):(xs.flatMap DT).set (j*4+2) (.sl 0 1 n (ints a))=(xs.set j ⟨xs[j].limit,xs[j].drops,a,xs[j].lists⟩).flatMap DT:=by subst hn;exact BA (o:=2) Gp (by omega) h rfl
@[simp high] theorem Asg {xs:List EG} {j:Nat} (h:j<xs.length) (a:Bool):(xs.flatMap DT).set (j*4+3) (.sc (.bool a))=(xs.set j ⟨xs[j].limit,xs[j].drops,xs[j].strips,a⟩).flatMap DT:=BA (o:=3) Gp (by omega) h rfl
@[simp high] theorem Aqi {xs:List BP} {j:Nat} (h:j<xs.length) (a:Bool):(xs.flatMap AB).set (j*5) (.sc (.bool a))=(xs.set j ⟨⟨a,xs[j].deal.version,xs[j].deal.tags⟩,xs[j].tries,xs[j].up⟩).flatMap AB:=BA (o:=0) C9 (by omega) h rfl
@[simp high] theorem ApS {xs:List BP} {j:Nat} (h:j<xs.length) (a:Int):(xs.flatMap AB).set (j*5+1) (.sc (.int .i64 a))=(xs.set j ⟨⟨xs[j].deal.ok,a,xs[j].deal.tags⟩,xs[j].tries,xs[j].up⟩).flatMap AB:=BA (o:=1) C9 (by omega) h rfl
@[simp high] theorem AqI {xs:List BP} {j:Nat} (h:j<xs.length) {n:Nat} (a:List Int) (hn:n=a.length):(xs.flatMap AB).set (j*5+2) (.sl 0 1 n (ints a))=(xs.set j ⟨⟨xs[j].deal.ok,xs[j].deal.version,a⟩,xs[j].tries,xs[j].up⟩).flatMap AB:=by subst hn;exact BA (o:=2) C9 (by omega) h rfl
@[simp high] theorem ApO {xs:List BP} {j:Nat} (h:j<xs.length) (a:Int):(xs.flatMap AB).set (j*5+3) (.sc (.int .i64 a))=(xs.set j ⟨⟨xs[j].deal.ok,xs[j].deal.version,xs[j].deal.tags⟩,a,xs[j].up⟩).flatMap AB:=BA (o:=3) C9 (by omega) h rfl
@[simp high] theorem Aqh {xs:List BP} {j:Nat} (h:j<xs.length) {n:Nat} (a:List Int) (hn:n=a.length):(xs.flatMap AB).set (j*5+4) (.sl 0 1 n (ints a))=(xs.set j ⟨⟨xs[j].deal.ok,xs[j].deal.version,xs[j].deal.tags⟩,xs[j].tries,a⟩).flatMap AB:=by subst hn;exact BA (o:=4) C9 (by omega) h rfl
@[simp high] theorem Aof {xs:List Ai} {j:Nat} (h:j<xs.length) {n:Nat} (a:List Int) (hn:n=a.length):(xs.flatMap Ah).set (j*4) (.sl 0 1 n (ints a))=(xs.set j ⟨a,xs[j].tags,xs[j].path,xs[j].cls⟩).flatMap Ah:=by subst hn;exact BA (o:=0) Dh (by omega) h rfl
@[simp high] theorem Apf {xs:List Ai} {j:Nat} (h:j<xs.length) {n:Nat} (a:List Int) (hn:n=a.length):(xs.flatMap Ah).set (j*4+1) (.sl 0 1 n (ints a))=(xs.set j ⟨xs[j].versions,a,xs[j].path,xs[j].cls⟩).flatMap Ah:=by subst hn;exact BA (o:=1) Dh (by omega) h rfl
@[simp high] theorem VN {xs:List Ai} {j:Nat} (h:j<xs.length) {n:Nat} (a:List EG) (hn:n=a.length):(xs.flatMap Ah).set (j*4+2) (.sl 0 4 n (a.flatMap DT))=(xs.set j ⟨xs[j].versions,xs[j].tags,a,xs[j].cls⟩).flatMap Ah:=by subst hn;exact BA (o:=2) Dh (by omega) h rfl
@[simp high] theorem Aos {xs:List Ai} {j:Nat} (h:j<xs.length) (a:Int):(xs.flatMap Ah).set (j*4+3) (.sc (.int .i64 a))=(xs.set j ⟨xs[j].versions,xs[j].tags,xs[j].path,a⟩).flatMap Ah:=BA (o:=3) Dh (by omega) h rfl
@[simp high] theorem Aqp {xs:List Eo} {j:Nat} (h:j<xs.length) (a:Int):(xs.flatMap Az).set (j*8) (.sc (.int .i64 a))=(xs.set j ⟨a,xs[j].tick,xs[j].on,⟨⟨xs[j].dialed.deal.ok,xs[j].dialed.deal.version,xs[j].dialed.deal.tags⟩,xs[j].dialed.tries,xs[j].dialed.up⟩⟩).flatMap Az:=BA (o:=0) Bh (by omega) h rfl
@[simp high] theorem AqG {xs:List Eo} {j:Nat} (h:j<xs.length) (a:Int):(xs.flatMap Az).set (j*8+1) (.sc (.int .i64 a))=(xs.set j ⟨xs[j].fin,a,xs[j].on,⟨⟨xs[j].dialed.deal.ok,xs[j].dialed.deal.version,xs[j].dialed.deal.tags⟩,xs[j].dialed.tries,xs[j].dialed.up⟩⟩).flatMap Az:=BA (o:=1) Bh (by omega) h rfl
@[simp high] theorem ApL {xs:List Eo} {j:Nat} (h:j<xs.length) (a:Bool):(xs.flatMap Az).set (j*8+2) (.sc (.bool a))=(xs.set j ⟨xs[j].fin,xs[j].tick,a,⟨⟨xs[j].dialed.deal.ok,xs[j].dialed.deal.version,xs[j].dialed.deal.tags⟩,xs[j].dialed.tries,xs[j].dialed.up⟩⟩).flatMap Az:=BA (o:=2) Bh (by omega) h rfl
@[simp high] theorem ApK {xs:List Eo} {j:Nat} (h:j<xs.length) (a:Bool):(xs.flatMap Az).set (j*8+3) (.sc (.bool a))=(xs.set j ⟨xs[j].fin,xs[j].tick,xs[j].on,⟨⟨a,xs[j].dialed.deal.version,xs[j].dialed.deal.tags⟩,xs[j].dialed.tries,xs[j].dialed.up⟩⟩).flatMap Az:=BA (o:=3) Bh (by omega) h rfl
@[simp high] theorem AqR {xs:List Eo} {j:Nat} (h:j<xs.length) (a:Int):(xs.flatMap Az).set (j*8+4) (.sc (.int .i64 a))=(xs.set j ⟨xs[j].fin,xs[j].tick,xs[j].on,⟨⟨xs[j].dialed.deal.ok,a,xs[j].dialed.deal.tags⟩,xs[j].dialed.tries,xs[j].dialed.up⟩⟩).flatMap Az:=BA (o:=4) Bh (by omega) h rfl
@[simp high] theorem Ap8 {xs:List Eo} {j:Nat} (h:j<xs.length) {n:Nat} (a:List Int) (hn:n=a.length):(xs.flatMap Az).set (j*8+5) (.sl 0 1 n (ints a))=(xs.set j ⟨xs[j].fin,xs[j].tick,xs[j].on,⟨⟨xs[j].dialed.deal.ok,xs[j].dialed.deal.version,a⟩,xs[j].dialed.tries,xs[j].dialed.up⟩⟩).flatMap Az:=by subst hn;exact BA (o:=5) Bh (by omega) h rfl
@[simp high] theorem ApU {xs:List Eo} {j:Nat} (h:j<xs.length) (a:Int):(xs.flatMap Az).set (j*8+6) (.sc (.int .i64 a))=(xs.set j ⟨xs[j].fin,xs[j].tick,xs[j].on,⟨⟨xs[j].dialed.deal.ok,xs[j].dialed.deal.version,xs[j].dialed.deal.tags⟩,a,xs[j].dialed.up⟩⟩).flatMap Az:=BA (o:=6) Bh (by omega) h rfl
@[simp high] theorem Aqy {xs:List Eo} {j:Nat} (h:j<xs.length) {n:Nat} (a:List Int) (hn:n=a.length):(xs.flatMap Az).set (j*8+7) (.sl 0 1 n (ints a))=(xs.set j ⟨xs[j].fin,xs[j].tick,xs[j].on,⟨⟨xs[j].dialed.deal.ok,xs[j].dialed.deal.version,xs[j].dialed.deal.tags⟩,xs[j].dialed.tries,a⟩⟩).flatMap Az:=by subst hn;exact BA (o:=7) Bh (by omega) h rfl
@[simp high] theorem AqV {xs:List Event} {j:Nat} (h:j<xs.length) (a:Int):(xs.flatMap BJ).set (j*6) (.sc (.int .i64 a))=(xs.set j ⟨a,xs[j].n,⟨xs[j].box.limit,xs[j].box.drops,xs[j].box.strips,xs[j].box.lists⟩⟩).flatMap BJ:=BA (o:=0) CS (by omega) h rfl
@[simp high] theorem Arl {xs:List Event} {j:Nat} (h:j<xs.length) (a:Int):(xs.flatMap BJ).set (j*6+1) (.sc (.int .i64 a))=(xs.set j ⟨xs[j].kind,a,⟨xs[j].box.limit,xs[j].box.drops,xs[j].box.strips,xs[j].box.lists⟩⟩).flatMap BJ:=BA (o:=1) CS (by omega) h rfl
@[simp high] theorem Arp {xs:List Event} {j:Nat} (h:j<xs.length) (a:Int):(xs.flatMap BJ).set (j*6+2) (.sc (.int .i64 a))=(xs.set j ⟨xs[j].kind,xs[j].n,⟨a,xs[j].box.drops,xs[j].box.strips,xs[j].box.lists⟩⟩).flatMap BJ:=BA (o:=2) CS (by omega) h rfl
@[simp high] theorem Arm {xs:List Event} {j:Nat} (h:j<xs.length) {n:Nat} (a:List Int) (hn:n=a.length):(xs.flatMap BJ).set (j*6+3) (.sl 0 1 n (ints a))=(xs.set j ⟨xs[j].kind,xs[j].n,⟨xs[j].box.limit,a,xs[j].box.strips,xs[j].box.lists⟩⟩).flatMap BJ:=by subst hn;exact BA (o:=3) CS (by omega) h rfl
@[simp high] theorem Aq1 {xs:List Event} {j:Nat} (h:j<xs.length) {n:Nat} (a:List Int) (hn:n=a.length):(xs.flatMap BJ).set (j*6+4) (.sl 0 1 n (ints a))=(xs.set j ⟨xs[j].kind,xs[j].n,⟨xs[j].box.limit,xs[j].box.drops,a,xs[j].box.lists⟩⟩).flatMap BJ:=by subst hn;exact BA (o:=4) CS (by omega) h rfl
@[simp high] theorem Arj {xs:List Event} {j:Nat} (h:j<xs.length) (a:Bool):(xs.flatMap BJ).set (j*6+5) (.sc (.bool a))=(xs.set j ⟨xs[j].kind,xs[j].n,⟨xs[j].box.limit,xs[j].box.drops,xs[j].box.strips,a⟩⟩).flatMap BJ:=BA (o:=5) CS (by omega) h rfl
def APA (x:Aaf):Nat:=x.tags.length
def ARQ (x:Aaf) (k:Int):Aaf:=⟨x.ok,x.version,nums x.tags.length (k)⟩
def AOw (x:EG):Nat:=1+x.drops.length+x.strips.length+1
def ARu (x:EG) (k:Int):EG:=⟨k,nums x.drops.length (k+1),nums x.strips.length (k+1+((x.drops.length:Nat):Int)),((k+1+((x.drops.length:Nat):Int)+((x.strips.length:Nat):Int)).tmod 3==0)⟩
def AMr (x:BP):Nat:=1+1+x.deal.tags.length+1+x.up.length
def APh (x:BP) (k:Int):BP:=⟨⟨((k).tmod 3==0),k+1,nums x.deal.tags.length (k+1+1)⟩,k+1+1+((x.deal.tags.length:Nat):Int),nums x.up.length (k+1+1+((x.deal.tags.length:Nat):Int)+1)⟩
def AMp (x:Ai):Nat:=x.versions.length+x.tags.length+mcL AOw x.path+1
def AOA (x:Ai) (k:Int):Ai:=⟨nums x.versions.length (k),nums x.tags.length (k+((x.versions.length:Nat):Int)),mkL AOw ARu x.path (k+((x.versions.length:Nat):Int)+((x.tags.length:Nat):Int)),k+((x.versions.length:Nat):Int)+((x.tags.length:Nat):Int)+((mcL AOw x.path:Nat):Int)⟩
def ANW (x:Eo):Nat:=1+1+1+1+1+x.dialed.deal.tags.length+1+x.dialed.up.length
def APc (x:Eo) (k:Int):Eo:=⟨k,k+1,((k+1+1).tmod 3==0),⟨⟨((k+1+1+1).tmod 3==0),k+1+1+1+1,nums x.dialed.deal.tags.length (k+1+1+1+1+1)⟩,k+1+1+1+1+1+((x.dialed.deal.tags.length:Nat):Int),nums x.dialed.up.length (k+1+1+1+1+1+((x.dialed.deal.tags.length:Nat):Int)+1)⟩⟩
def AOc (x:AX):Nat:=x.stages.length
def AOf (x:AX) (k:Int):AX:=⟨x.version,nums x.stages.length (k),x.pos,x.off⟩
def APp (x:World):Nat:=x.server.length+x.tags.length+mcL AMp x.ends+x.rollout.stages.length+mcL AMr x.stage+mcL ANW x.log
def AOh (x:World) (k:Int):World:=⟨nums x.server.length (k),nums x.tags.length (k+((x.server.length:Nat):Int)),x.key,mkL AMp AOA x.ends (k+((x.server.length:Nat):Int)+((x.tags.length:Nat):Int)),⟨x.rollout.version,nums x.rollout.stages.length (k+((x.server.length:Nat):Int)+((x.tags.length:Nat):Int)+((mcL AMp x.ends:Nat):Int)),x.rollout.pos,x.rollout.off⟩,x.least,x.percent,mkL AMr APh x.stage (k+((x.server.length:Nat):Int)+((x.tags.length:Nat):Int)+((mcL AMp x.ends:Nat):Int)+((x.rollout.stages.length:Nat):Int)),mkL ANW APc x.log (k+((x.server.length:Nat):Int)+((x.tags.length:Nat):Int)+((mcL AMp x.ends:Nat):Int)+((x.rollout.stages.length:Nat):Int)+((mcL AMr x.stage:Nat):Int)),x.now,x.hurt,x.reached⟩
def AB5 (i:Nat):Ai:=⟨[1,2],[1,40],if i=1 then [⟨2,[],[],false⟩]else if i=2 then [⟨0,[],[],true⟩]else [],(i:Int).tmod 6⟩
def AqH (n:Int):List Ai:=if 1<=n/\n<=6 then(List.range n.toNat).map AB5 else []
theorem AGx (j:Nat):(List.range j).map AB5++ [AB5 j]=(List.range (j+1)).map AB5:=by rw[List.range_succ,List.map_append];rfl
abbrev Aud:Prop:=∀n:Int,R [I n] [] (.sl 0 4 (AqH n).length ((AqH n).flatMap Ah)) []
theorem ANN:Aud (Body D AIJ):=by
 intro n
 obtain⟨N,hN,hN2,hE⟩:∃N:Nat,(∀j:Nat,((j:Int)<n/\n<=6)↔j<N)/\N<=6/\AqH n=(List.range N).map AB5:=by
  by_cases h:1<=n/\n<=6
  ·exact⟨n.toNat,fun j=>by omega,by omega,by unfold AqH;rw[if_pos h]⟩
  ·exact⟨0,fun j=>by omega,by omega,by unfold AqH;rw[if_neg h];rfl⟩
 rw[hE]
 simp -implicitDefEqProofs
 refine Ag (fun k s=>∃j o1 o2 o3 o4 o5 o6 o7 o8,j+k=N/\s=⟨[.sc (.int .i64 n),.undef,.arr 9,.sc (.int .i64 j),.undef,.undef,.undef,.undef,.undef],[.free,o1,o2,o3,o4,o5,o6,o7,o8,.arr 4 0 j (((List.range j).map AB5).flatMap Ah)]⟩) ?_ N _ ⟨0,.free,.free,.free,.free,.free,.free,.free,.free,by simp,by simp⟩
 intro k s ⟨j,o1,o2,o3,o4,o5,o6,o7,o8,hj,hs⟩
 subst hs
 by_cases hjn:j<N
 ·have hw:=Cv (j:=j) (by omega)
  obtain⟨h1,h2⟩:=(hN j).2 hjn
  have hb:(j+1)*80<=1099511627776:=by omega
  have hst:=AGx j
  by_cases j1:j=1
  ·subst j1
   have h1':1<n:=by simpa using h1
   simp -implicitDefEqProofs [h1',h2,hb]
   exact⟨k-1,by omega,2,by omega,Ad (by omega) (by omega),rfl,rfl⟩
  ·by_cases j2:j=2
   ·subst j2
    have h1':2<n:=by simpa using h1
    simp -implicitDefEqProofs [h1',h2,hb]
    exact⟨k-1,by omega,3,by omega,Ad (by omega) (by omega),rfl,rfl⟩
   ·have e1:¬(j:Int)=1:=by omega
    have e2:¬(j:Int)=2:=by omega
    have hx:Ah (AB5 j)=[.sl 0 1 2 [I 1,I 2],.sl 0 1 2 [I 1,I 40],.sl 0 4 0 [],I ((j:Int).tmod 6)]:=by unfold AB5;rw[if_neg j1,if_neg j2];rfl
    simp -implicitDefEqProofs [h1,h2,hb,e1,e2]
    exact⟨k-1,by omega,j+1,by omega,by simp[hw],rfl,by rw[<-hst,List.flatMap_append,List.flatMap_cons,List.flatMap_nil,List.append_nil,hx]⟩
 ·have h:¬((j:Int)<n/\n<=6):=fun h=>hjn ((hN j).1 h)
  obtain rfl:j=N:=by omega
  by_cases h1:(j:Int)<n
  ·have h2:¬n<=6:=fun h'=>h ⟨h1,h'⟩
   simp -implicitDefEqProofs [h1,h2]
  ·simp -implicitDefEqProofs [h1]
theorem AD0 (hI:Vf (D 114)):Aud (Body D Auk):=by
 intro n
 simp -implicitDefEqProofs
 refine Aa (hI _ _ _) ?_
 by_cases h:1<=n/\n<=6
 rotate_left
 ·have he:AqH n=[]:=by unfold AqH;rw[if_neg h]
  simp -implicitDefEqProofs [h,he]
 obtain⟨N,rfl⟩:∃N:Nat,n=N:=⟨n.toNat,by omega⟩
 have hE:AqH N=(List.range N).map AB5:=by unfold AqH;rw[if_pos h];simp
 rw[hE]
 simp -implicitDefEqProofs [h]
 refine Ag (fun k s=>∃j o1 o2 o3 o4 o5 o6 o7 o8,j+k=N/\s=⟨[.undef,.undef,.arr 9,.undef,.undef,.undef,.sc (.int .i64 N),.sc (.int .i64 j),.undef,.undef,.undef,.undef],[.free,o1,o2,o3,o4,o5,o6,o7,o8,.arr 4 0 j (((List.range j).map AB5).flatMap Ah)]⟩) ?_ N _ ⟨0,.free,.free,.free,.free,.free,.free,.free,.free,by simp,by simp⟩
 intro k s ⟨j,o1,o2,o3,o4,o5,o6,o7,o8,hj,hs⟩
 subst hs
 by_cases hjn:j<N
 ·have hw:=Cv (j:=j) (by omega)
  have hb:(j+1)*80<=1099511627776:=by omega
  have hst:=AGx j
  by_cases j1:j=1
  ·subst j1
   have h1':(1:Int)<(N:Int):=by omega
   simp -implicitDefEqProofs [hjn,h1',hb]
   exact⟨k-1,by omega,2,by omega,Ad (by omega) (by omega),rfl,rfl⟩
  ·by_cases j2:j=2
   ·subst j2
    have h1':(2:Int)<(N:Int):=by omega
    simp -implicitDefEqProofs [hjn,h1',hb]
    exact⟨k-1,by omega,3,by omega,Ad (by omega) (by omega),rfl,rfl⟩
   ·have e1:¬(j:Int)=1:=by omega
    have e2:¬(j:Int)=2:=by omega
    have hx:Ah (AB5 j)=[.sl 0 1 2 [I 1,I 2],.sl 0 1 2 [I 1,I 40],.sl 0 4 0 [],I ((j:Int).tmod 6)]:=by unfold AB5;rw[if_neg j1,if_neg j2];rfl
    simp -implicitDefEqProofs [hjn,hb,e1,e2]
    exact⟨k-1,by omega,j+1,by omega,by simp[hw],rfl,by rw[<-hst,List.flatMap_append,List.flatMap_cons,List.flatMap_nil,List.append_nil,hx]⟩
 ·obtain rfl:j=N:=by omega
  simp -implicitDefEqProofs [hjn]
abbrev ASW:Prop:=∀xs:List EG,Cr Gm xs<=4194304->R [.sl 1 4 xs.length (xs.flatMap DT)] [] (.sl 0 4 xs.length (xs.flatMap DT)) []
theorem AUY (hto:ATY (D 226)):ASW (Body D AQY):=by
 intro xs h
 have hlen:=J9 (f:=Gm) (xs:=xs)
 have h1:((xs.length:Nat):Int)*64<=1099511627776:=by omega
 simp -implicitDefEqProofs [h1]
 refine Ag (fun k s=>∃j o1 o2,j+k=xs.length/\s=⟨[.sl 1 4 xs.length (xs.flatMap DT),.undef,.arr 0,.sc (.int .i64 j),.undef],[.arr 4 0 xs.length ((mix (⟨0,[],[],false⟩:EG) xs j).flatMap DT),o1,o2]⟩) ?_ xs.length _ ⟨0,.free,.free,by simp,by simp[ARv];exact AR2 (f:=DT) (⟨0,[],[],false⟩:EG) _⟩
 intro k s ⟨j,o1,o2,hj,hs⟩
 subst hs
 by_cases hjn:j<xs.length
 ·have hw:=Cv (j:=j) (by omega)
  have hsz:=size_at (f:=Gm) hjn
  have hfit:j*4+4<=xs.length*4:=by omega
  have hjl:j<=xs.length:=by omega
  simp -implicitDefEqProofs [hjn]
  refine Aa (hto xs[j] (by omega)) ?_
  simp -implicitDefEqProofs [hjn,hfit,hjl]
  exact⟨k-1,by omega,j+1,by omega,by simp[hw],by rw[<-AR5 hjn]⟩
 ·have hje:mix (⟨0,[],[],false⟩:EG) xs j=xs:=ARZ (by omega)
  simp -implicitDefEqProofs [hjn,hje]
abbrev ASX:Prop:=∀(xs:List EG) (l:Int),0<=l->l<=4194304->lnS Kh xs->R [.sl 1 4 xs.length (xs.flatMap DT),I l] [] (I (szl (Cr Gm xs) l)) []
theorem AUU (hsz:ATU (D 206)):ASX (Body D ARc):=by
 intro xs l h1 h2 hln
 have h3:=hln.1
 unfold maxLen at h3
 have hw:IntKind.i64.wrap (l-(xs.length:Int))=l-xs.length:=Ad (by omega) (by omega)
 by_cases h:l<(xs.length:Int)
 ·have h':l-(xs.length:Int)<0:=by omega
  have e2:szl (Cr Gm xs) l= -1:=by unfold szl Cr;rw[if_pos (by omega)]
  simp -implicitDefEqProofs [hw,h',e2]
 ·have h':¬l-(xs.length:Int)<0:=by omega
  simp -implicitDefEqProofs [hw,h']
  refine Ag (fun k s=>∃j,j+k=xs.length/\((xs.take j).map Gm).sum+xs.length<=l/\s=⟨[.sl 1 4 xs.length (xs.flatMap DT),.sc (.int .i64 (l-xs.length-((((xs.take j).map Gm).sum:Nat):Int))),.undef,.sc (.int .i64 j),.undef,.undef,.undef],[]⟩) ?_ xs.length _ ⟨0,by simp,by simp;omega,by simp⟩
  intro k s ⟨j,hj,hp,hs⟩
  subst hs
  by_cases hjn:j<xs.length
  ·have hw:=Cv (j:=j) (by omega)
   have ht:=AlZ (f:=Gm) hjn
   have htl:=AfV (f:=Gm) (xs:=xs) (j:=j+1)
   simp -implicitDefEqProofs [hjn, -List.map_take]
   refine Aa (hsz xs[j] _ (by omega) (by omega) (hln.2 j hjn)) ?_
   by_cases he:l-xs.length-((((xs.take j).map Gm).sum:Nat):Int)<Gm xs[j]
   ·have e1:szl (Gm xs[j]) (l-xs.length-((((xs.take j).map Gm).sum:Nat):Int))= -1:=by unfold szl;rw[if_pos he]
    have e2:szl (Cr Gm xs) l= -1:=by unfold szl Cr;rw[if_pos (by omega)]
    simp -implicitDefEqProofs [e1,e2, -List.map_take]
   ·have e1:szl (Gm xs[j]) (l-xs.length-((((xs.take j).map Gm).sum:Nat):Int))=l-xs.length-((((xs.take j).map Gm).sum:Nat):Int)-Gm xs[j]:=by unfold szl;rw[if_neg he]
    have e3:¬l-xs.length-((((xs.take j).map Gm).sum:Nat):Int)-Gm xs[j]<0:=by omega
    simp -implicitDefEqProofs [e1,e3, -List.map_take]
    refine⟨k-1,by omega,j+1,by omega,by omega,?_,by simp[hw]⟩
    rw[ht];omega
  ·have hsm:=AR8 (f:=Gm) (xs:=xs) (j:=j) (by omega)
   have e2:szl (Cr Gm xs) l=l-xs.length-((((xs.take j).map Gm).sum:Nat):Int):=by unfold szl Cr;rw[if_neg (by omega)];omega
   simp -implicitDefEqProofs [hjn,e2, -List.map_take]
abbrev AQP:Prop:=∀(x:Ai) (l:Int),0<=l->l<=4194304->AbY x->R [arg (Ah x),I l] [] (I (szl (Am x) l)) []
theorem ATW (hszIntS:AQx (D 16)) (hszBoxS:ASX (D 139)):AQP (Body D AP8):=by
 intro x l hl1 hl2 hln
 simp only[AbY]at hln
 simp -implicitDefEqProofs
 refine Aa (hszIntS x.versions (l) (by omega) (by omega) hln.1) ?_
 by_cases g0:l<((x.versions.length:Nat):Int)
 ·have gg:l<((Am x:Nat):Int):=by simp only[Am];omega
  have e1:szl (x.versions.length) (l)= -1:=by unfold szl;rw[if_pos g0]
  have e2:szl (Am x) l= -1:=by unfold szl;rw[if_pos gg]
  simp -implicitDefEqProofs [e1,e2]
 have e3:szl (x.versions.length) (l)=l-((x.versions.length:Nat):Int):=by unfold szl;rw[if_neg g0]
 have p0:¬l-((x.versions.length:Nat):Int)<0:=by omega
 simp -implicitDefEqProofs [e3,p0]
 refine Aa (hszIntS x.tags (l-((x.versions.length:Nat):Int)) (by omega) (by omega) hln.2.1) ?_
 by_cases g1:l-((x.versions.length:Nat):Int)<((x.tags.length:Nat):Int)
 ·have gg:l<((Am x:Nat):Int):=by simp only[Am];omega
  have e1:szl (x.tags.length) (l-((x.versions.length:Nat):Int))= -1:=by unfold szl;rw[if_pos g1]
  have e2:szl (Am x) l= -1:=by unfold szl;rw[if_pos gg]
  simp -implicitDefEqProofs [e1,e2]
 have e4:szl (x.tags.length) (l-((x.versions.length:Nat):Int))=l-((x.versions.length:Nat):Int)-((x.tags.length:Nat):Int):=by unfold szl;rw[if_neg g1]
 have p1:¬l-((x.versions.length:Nat):Int)-((x.tags.length:Nat):Int)<0:=by omega
 simp -implicitDefEqProofs [e4,p1]
 refine Aa (hszBoxS x.path (l-((x.versions.length:Nat):Int)-((x.tags.length:Nat):Int)) (by omega) (by omega) hln.2.2) ?_
 by_cases g2:l-((x.versions.length:Nat):Int)-((x.tags.length:Nat):Int)<((Cr Gm x.path:Nat):Int)
 ·have gg:l<((Am x:Nat):Int):=by simp only[Am];omega
  have e1:szl (Cr Gm x.path) (l-((x.versions.length:Nat):Int)-((x.tags.length:Nat):Int))= -1:=by unfold szl;rw[if_pos g2]
  have e2:szl (Am x) l= -1:=by unfold szl;rw[if_pos gg]
  simp -implicitDefEqProofs [e1,e2]
 have e5:szl (Cr Gm x.path) (l-((x.versions.length:Nat):Int)-((x.tags.length:Nat):Int))=l-((x.versions.length:Nat):Int)-((x.tags.length:Nat):Int)-((Cr Gm x.path:Nat):Int):=by unfold szl;rw[if_neg g2]
 have p2:¬l-((x.versions.length:Nat):Int)-((x.tags.length:Nat):Int)-((Cr Gm x.path:Nat):Int)<0:=by omega
 simp -implicitDefEqProofs [e5,p2]
 have gg:¬l<((Am x:Nat):Int):=by simp only[Am];omega
 unfold szl;rw[if_neg gg];simp only[Am]<;>omega
abbrev AQO:Prop:=∀x:Ai,Am x<=4194304->R [arg (Ah x)] [] (.agg (Ah x)) []
theorem ATS (htoIntS:AQu (D 31)) (htoBoxS:ASW (D 170)):AQO (Body D AQa):=by
 intro x h
 simp only[Am]at h
 simp -implicitDefEqProofs
 refine Aa (htoIntS x.versions (by omega)) ?_
 simp -implicitDefEqProofs
 refine Aa (htoIntS x.tags (by omega)) ?_
 simp -implicitDefEqProofs
 refine Aa (htoBoxS x.path (by omega)) ?_
 simp -implicitDefEqProofs
abbrev AQr:Prop:=∀(xs:List Ai) (l:Int),0<=l->l<=4194304->lnS AbY xs->R [.sl 1 4 xs.length (xs.flatMap Ah),I l] [] (I (szl (Cr Am xs) l)) []
theorem ATA (hsz:AQP (D 62)):AQr (Body D APZ):=by
 intro xs l h1 h2 hln
 have h3:=hln.1
 unfold maxLen at h3
 have hw:IntKind.i64.wrap (l-(xs.length:Int))=l-xs.length:=Ad (by omega) (by omega)
 by_cases h:l<(xs.length:Int)
 ·have h':l-(xs.length:Int)<0:=by omega
  have e2:szl (Cr Am xs) l= -1:=by unfold szl Cr;rw[if_pos (by omega)]
  simp -implicitDefEqProofs [hw,h',e2]
 ·have h':¬l-(xs.length:Int)<0:=by omega
  simp -implicitDefEqProofs [hw,h']
  refine Ag (fun k s=>∃j,j+k=xs.length/\((xs.take j).map Am).sum+xs.length<=l/\s=⟨[.sl 1 4 xs.length (xs.flatMap Ah),.sc (.int .i64 (l-xs.length-((((xs.take j).map Am).sum:Nat):Int))),.undef,.sc (.int .i64 j),.undef,.undef,.undef],[]⟩) ?_ xs.length _ ⟨0,by simp,by simp;omega,by simp⟩
  intro k s ⟨j,hj,hp,hs⟩
  subst hs
  by_cases hjn:j<xs.length
  ·have hw:=Cv (j:=j) (by omega)
   have ht:=AlZ (f:=Am) hjn
   have htl:=AfV (f:=Am) (xs:=xs) (j:=j+1)
   simp -implicitDefEqProofs [hjn, -List.map_take]
   refine Aa (hsz xs[j] _ (by omega) (by omega) (hln.2 j hjn)) ?_
   by_cases he:l-xs.length-((((xs.take j).map Am).sum:Nat):Int)<Am xs[j]
   ·have e1:szl (Am xs[j]) (l-xs.length-((((xs.take j).map Am).sum:Nat):Int))= -1:=by unfold szl;rw[if_pos he]
    have e2:szl (Cr Am xs) l= -1:=by unfold szl Cr;rw[if_pos (by omega)]
    simp -implicitDefEqProofs [e1,e2, -List.map_take]
   ·have e1:szl (Am xs[j]) (l-xs.length-((((xs.take j).map Am).sum:Nat):Int))=l-xs.length-((((xs.take j).map Am).sum:Nat):Int)-Am xs[j]:=by unfold szl;rw[if_neg he]
    have e3:¬l-xs.length-((((xs.take j).map Am).sum:Nat):Int)-Am xs[j]<0:=by omega
    simp -implicitDefEqProofs [e1,e3, -List.map_take]
    refine⟨k-1,by omega,j+1,by omega,by omega,?_,by simp[hw]⟩
    rw[ht];omega
  ·have hsm:=AR8 (f:=Am) (xs:=xs) (j:=j) (by omega)
   have e2:szl (Cr Am xs) l=l-xs.length-((((xs.take j).map Am).sum:Nat):Int):=by unfold szl Cr;rw[if_neg (by omega)];omega
   simp -implicitDefEqProofs [hjn,e2, -List.map_take]
abbrev AQp:Prop:=∀xs:List Ai,Cr Am xs<=4194304->R [.sl 1 4 xs.length (xs.flatMap Ah)] [] (.sl 0 4 xs.length (xs.flatMap Ah)) []
theorem ATF (hto:AQO (D 98)):AQp (Body D AP0):=by
 intro xs h
 have hlen:=J9 (f:=Am) (xs:=xs)
 have h1:((xs.length:Nat):Int)*80<=1099511627776:=by omega
 simp -implicitDefEqProofs [h1]
 refine Ag (fun k s=>∃j o1 o2 o3,j+k=xs.length/\s=⟨[.sl 1 4 xs.length (xs.flatMap Ah),.undef,.arr 0,.sc (.int .i64 j),.undef],[.arr 4 0 xs.length ((mix (⟨[],[],[],0⟩:Ai) xs j).flatMap Ah),o1,o2,o3]⟩) ?_ xs.length _ ⟨0,.free,.free,.free,by simp,by simp[ARv];exact AR2 (f:=Ah) (⟨[],[],[],0⟩:Ai) _⟩
 intro k s ⟨j,o1,o2,o3,hj,hs⟩
 subst hs
 by_cases hjn:j<xs.length
 ·have hw:=Cv (j:=j) (by omega)
  have hsz:=size_at (f:=Am) hjn
  have hfit:j*4+4<=xs.length*4:=by omega
  have hjl:j<=xs.length:=by omega
  simp -implicitDefEqProofs [hjn]
  refine Aa (hto xs[j] (by omega)) ?_
  simp -implicitDefEqProofs [hjn,hfit,hjl]
  exact⟨k-1,by omega,j+1,by omega,by simp[hw],by rw[<-AR5 hjn]⟩
 ·have hje:mix (⟨[],[],[],0⟩:Ai) xs j=xs:=ARZ (by omega)
  simp -implicitDefEqProofs [hjn,hje]
abbrev AQ8:Prop:=∀(x:AX) (l:Int),0<=l->l<=4194304->ABu x->R [arg (Dj x),I l] [] (I (szl (Db x) l)) []
theorem AUo (hszIntS:AQx (D 16)):AQ8 (Body D AQd):=by
 intro x l hl1 hl2 hln
 simp only[ABu]at hln
 simp -implicitDefEqProofs
 refine Aa (hszIntS x.stages (l) (by omega) (by omega) hln) ?_
 by_cases g0:l<((x.stages.length:Nat):Int)
 ·have gg:l<((Db x:Nat):Int):=by simp only[Db];omega
  have e1:szl (x.stages.length) (l)= -1:=by unfold szl;rw[if_pos g0]
  have e2:szl (Db x) l= -1:=by unfold szl;rw[if_pos gg]
  simp -implicitDefEqProofs [e1,e2]
 have e3:szl (x.stages.length) (l)=l-((x.stages.length:Nat):Int):=by unfold szl;rw[if_neg g0]
 have p0:¬l-((x.stages.length:Nat):Int)<0:=by omega
 simp -implicitDefEqProofs [e3,p0]
 have gg:¬l<((Db x:Nat):Int):=by simp only[Db];omega
 unfold szl;rw[if_neg gg];simp only[Db]<;>omega
abbrev ARh:Prop:=∀x:AX,Db x<=4194304->R [arg (Dj x)] [] (.agg (Dj x)) []
theorem AUb (htoIntS:AQu (D 31)):ARh (Body D AQe):=by
 intro x h
 simp only[Db]at h
 simp -implicitDefEqProofs
 refine Aa (htoIntS x.stages (by omega)) ?_
 simp -implicitDefEqProofs
abbrev AQZ:Prop:=∀x y:AX,Db x<=2 ^ 40->Db y<=2 ^ 40->R [arg (Dj x),arg (Dj y)] [] (B (decide (x=y))) []
theorem AUk (heqIntS:Uu (D 47)):AQZ (Body D AQf):=by
 intro x y h1 h2
 simp only[Db]at h1 h2
 by_cases g_version:x.version=y.version
 rotate_left
 ·have hne:x≠y:=fun h=>g_version (by rw[h])
  simp -implicitDefEqProofs [g_version,hne]
 simp -implicitDefEqProofs [g_version]
 refine Aa (heqIntS x.stages y.stages (by unfold maxLen;omega) (by unfold maxLen;omega)) ?_
 by_cases g_stages:x.stages=y.stages
 rotate_left
 ·have hne:x≠y:=fun h=>g_stages (by rw[h])
  simp -implicitDefEqProofs [g_stages,hne]
 simp -implicitDefEqProofs [g_stages]
 by_cases g_pos:x.pos=y.pos
 rotate_left
 ·have hne:x≠y:=fun h=>g_pos (by rw[h])
  simp -implicitDefEqProofs [g_pos,hne]
 simp -implicitDefEqProofs [g_pos]
 by_cases g_off:x.off=y.off
 rotate_left
 ·have hne:x≠y:=fun h=>g_off (by rw[h])
  simp -implicitDefEqProofs [g_off,hne]
 simp -implicitDefEqProofs [g_off]
 have hxy:x=y:=by cases x;cases y;simp_all
 simp -implicitDefEqProofs [hxy]
abbrev ASU:Prop:=∀(x:Aaf) (l:Int),0<=l->l<=4194304->AIl x->R [arg (AfJ x),I l] [] (I (szl (ND x) l)) []
theorem AU2 (hszIntS:AQx (D 16)):ASU (Body D AQ3):=by
 intro x l hl1 hl2 hln
 simp only[AIl]at hln
 simp -implicitDefEqProofs
 refine Aa (hszIntS x.tags (l) (by omega) (by omega) hln) ?_
 by_cases g0:l<((x.tags.length:Nat):Int)
 ·have gg:l<((ND x:Nat):Int):=by simp only[ND];omega
  have e1:szl (x.tags.length) (l)= -1:=by unfold szl;rw[if_pos g0]
  have e2:szl (ND x) l= -1:=by unfold szl;rw[if_pos gg]
  simp -implicitDefEqProofs [e1,e2]
 have e3:szl (x.tags.length) (l)=l-((x.tags.length:Nat):Int):=by unfold szl;rw[if_neg g0]
 have p0:¬l-((x.tags.length:Nat):Int)<0:=by omega
 simp -implicitDefEqProofs [e3,p0]
 have gg:¬l<((ND x:Nat):Int):=by simp only[ND];omega
 unfold szl;rw[if_neg gg];simp only[ND]<;>omega
abbrev ASO:Prop:=∀x:Aaf,ND x<=4194304->R [arg (AfJ x)] [] (.agg (AfJ x)) []
theorem AUW (htoIntS:AQu (D 31)):ASO (Body D ARe):=by
 intro x h
 simp only[ND]at h
 simp -implicitDefEqProofs
 refine Aa (htoIntS x.tags (by omega)) ?_
 simp -implicitDefEqProofs
abbrev ASV:Prop:=∀x y:Aaf,ND x<=2 ^ 40->ND y<=2 ^ 40->R [arg (AfJ x),arg (AfJ y)] [] (B (decide (x=y))) []
theorem AUZ (heqIntS:Uu (D 47)):ASV (Body D AQ9):=by
 intro x y h1 h2
 simp only[ND]at h1 h2
 by_cases g_ok:x.ok=y.ok
 rotate_left
 ·have hne:x≠y:=fun h=>g_ok (by rw[h])
  simp -implicitDefEqProofs [g_ok,hne]
 simp -implicitDefEqProofs [g_ok]
 by_cases g_version:x.version=y.version
 rotate_left
 ·have hne:x≠y:=fun h=>g_version (by rw[h])
  simp -implicitDefEqProofs [g_version,hne]
 simp -implicitDefEqProofs [g_version]
 refine Aa (heqIntS x.tags y.tags (by unfold maxLen;omega) (by unfold maxLen;omega)) ?_
 by_cases g_tags:x.tags=y.tags
 rotate_left
 ·have hne:x≠y:=fun h=>g_tags (by rw[h])
  simp -implicitDefEqProofs [g_tags,hne]
 simp -implicitDefEqProofs [g_tags]
 have hxy:x=y:=by cases x;cases y;simp_all
 simp -implicitDefEqProofs [hxy]
abbrev AQV:Prop:=∀(x:BP) (l:Int),0<=l->l<=4194304->Ayh x->R [arg (AB x),I l] [] (I (szl (Cb x) l)) []
theorem AUD (hszDeal:ASU (D 140)) (hszIntS:AQx (D 16)):AQV (Body D AQI):=by
 intro x l hl1 hl2 hln
 simp only[Ayh]at hln
 simp -implicitDefEqProofs
 refine Aa (hszDeal x.deal (l) (by omega) (by omega) hln.1) ?_
 by_cases g0:l<((ND x.deal:Nat):Int)
 ·have gg:l<((Cb x:Nat):Int):=by simp only[Cb];omega
  have e1:szl (ND x.deal) (l)= -1:=by unfold szl;rw[if_pos g0]
  have e2:szl (Cb x) l= -1:=by unfold szl;rw[if_pos gg]
  simp -implicitDefEqProofs [e1,e2]
 have e3:szl (ND x.deal) (l)=l-((ND x.deal:Nat):Int):=by unfold szl;rw[if_neg g0]
 have p0:¬l-((ND x.deal:Nat):Int)<0:=by omega
 simp -implicitDefEqProofs [e3,p0]
 refine Aa (hszIntS x.up (l-((ND x.deal:Nat):Int)) (by omega) (by omega) hln.2) ?_
 by_cases g1:l-((ND x.deal:Nat):Int)<((x.up.length:Nat):Int)
 ·have gg:l<((Cb x:Nat):Int):=by simp only[Cb];omega
  have e1:szl (x.up.length) (l-((ND x.deal:Nat):Int))= -1:=by unfold szl;rw[if_pos g1]
  have e2:szl (Cb x) l= -1:=by unfold szl;rw[if_pos gg]
  simp -implicitDefEqProofs [e1,e2]
 have e4:szl (x.up.length) (l-((ND x.deal:Nat):Int))=l-((ND x.deal:Nat):Int)-((x.up.length:Nat):Int):=by unfold szl;rw[if_neg g1]
 have p1:¬l-((ND x.deal:Nat):Int)-((x.up.length:Nat):Int)<0:=by omega
 simp -implicitDefEqProofs [e4,p1]
 have gg:¬l<((Cb x:Nat):Int):=by simp only[Cb];omega
 unfold szl;rw[if_neg gg];simp only[Cb]<;>omega
abbrev AQT:Prop:=∀x:BP,Cb x<=4194304->R [arg (AB x)] [] (.agg (AB x)) []
theorem AUw (htoDeal:ASO (D 171)) (htoIntS:AQu (D 31)):AQT (Body D AQK):=by
 intro x h
 simp only[Cb]at h
 simp -implicitDefEqProofs
 refine Aa (htoDeal x.deal (by omega)) ?_
 simp -implicitDefEqProofs
 refine Aa (htoIntS x.up (by omega)) ?_
 simp -implicitDefEqProofs
abbrev AQU:Prop:=∀x y:BP,Cb x<=2 ^ 40->Cb y<=2 ^ 40->R [arg (AB x),arg (AB y)] [] (B (decide (x=y))) []
theorem AUB (heqDeal:ASV (D 205)) (heqIntS:Uu (D 47)):AQU (Body D AQE):=by
 intro x y h1 h2
 simp only[Cb]at h1 h2
 simp -implicitDefEqProofs
 refine Aa (heqDeal x.deal y.deal (by omega) (by omega)) ?_
 by_cases g_deal:x.deal=y.deal
 rotate_left
 ·have hne:x≠y:=fun h=>g_deal (by rw[h])
  simp -implicitDefEqProofs [g_deal,hne]
 simp -implicitDefEqProofs [g_deal]
 by_cases g_tries:x.tries=y.tries
 rotate_left
 ·have hne:x≠y:=fun h=>g_tries (by rw[h])
  simp -implicitDefEqProofs [g_tries,hne]
 simp -implicitDefEqProofs [g_tries]
 refine Aa (heqIntS x.up y.up (by unfold maxLen;omega) (by unfold maxLen;omega)) ?_
 by_cases g_up:x.up=y.up
 rotate_left
 ·have hne:x≠y:=fun h=>g_up (by rw[h])
  simp -implicitDefEqProofs [g_up,hne]
 simp -implicitDefEqProofs [g_up]
 have hxy:x=y:=by cases x;cases y;simp_all
 simp -implicitDefEqProofs [hxy]
abbrev ARf:Prop:=∀(xs:List BP) (l:Int),0<=l->l<=4194304->lnS Ayh xs->R [.sl 1 5 xs.length (xs.flatMap AB),I l] [] (I (szl (Cr Cb xs) l)) []
theorem AUd (hsz:AQV (D 63)):ARf (Body D AQk):=by
 intro xs l h1 h2 hln
 have h3:=hln.1
 unfold maxLen at h3
 have hw:IntKind.i64.wrap (l-(xs.length:Int))=l-xs.length:=Ad (by omega) (by omega)
 by_cases h:l<(xs.length:Int)
 ·have h':l-(xs.length:Int)<0:=by omega
  have e2:szl (Cr Cb xs) l= -1:=by unfold szl Cr;rw[if_pos (by omega)]
  simp -implicitDefEqProofs [hw,h',e2]
 ·have h':¬l-(xs.length:Int)<0:=by omega
  simp -implicitDefEqProofs [hw,h']
  refine Ag (fun k s=>∃j,j+k=xs.length/\((xs.take j).map Cb).sum+xs.length<=l/\s=⟨[.sl 1 5 xs.length (xs.flatMap AB),.sc (.int .i64 (l-xs.length-((((xs.take j).map Cb).sum:Nat):Int))),.undef,.sc (.int .i64 j),.undef,.undef,.undef],[]⟩) ?_ xs.length _ ⟨0,by simp,by simp;omega,by simp⟩
  intro k s ⟨j,hj,hp,hs⟩
  subst hs
  by_cases hjn:j<xs.length
  ·have hw:=Cv (j:=j) (by omega)
   have ht:=AlZ (f:=Cb) hjn
   have htl:=AfV (f:=Cb) (xs:=xs) (j:=j+1)
   simp -implicitDefEqProofs [hjn, -List.map_take]
   refine Aa (hsz xs[j] _ (by omega) (by omega) (hln.2 j hjn)) ?_
   by_cases he:l-xs.length-((((xs.take j).map Cb).sum:Nat):Int)<Cb xs[j]
   ·have e1:szl (Cb xs[j]) (l-xs.length-((((xs.take j).map Cb).sum:Nat):Int))= -1:=by unfold szl;rw[if_pos he]
    have e2:szl (Cr Cb xs) l= -1:=by unfold szl Cr;rw[if_pos (by omega)]
    simp -implicitDefEqProofs [e1,e2, -List.map_take]
   ·have e1:szl (Cb xs[j]) (l-xs.length-((((xs.take j).map Cb).sum:Nat):Int))=l-xs.length-((((xs.take j).map Cb).sum:Nat):Int)-Cb xs[j]:=by unfold szl;rw[if_neg he]
    have e3:¬l-xs.length-((((xs.take j).map Cb).sum:Nat):Int)-Cb xs[j]<0:=by omega
    simp -implicitDefEqProofs [e1,e3, -List.map_take]
    refine⟨k-1,by omega,j+1,by omega,by omega,?_,by simp[hw]⟩
    rw[ht];omega
  ·have hsm:=AR8 (f:=Cb) (xs:=xs) (j:=j) (by omega)
   have e2:szl (Cr Cb xs) l=l-xs.length-((((xs.take j).map Cb).sum:Nat):Int):=by unfold szl Cr;rw[if_neg (by omega)];omega
   simp -implicitDefEqProofs [hjn,e2, -List.map_take]
abbrev AQX:Prop:=∀xs:List BP,Cr Cb xs<=4194304->R [.sl 1 5 xs.length (xs.flatMap AB)] [] (.sl 0 5 xs.length (xs.flatMap AB)) []
theorem AUj (hto:AQT (D 99)):AQX (Body D AQg):=by
 intro xs h
 have hlen:=J9 (f:=Cb) (xs:=xs)
 have h1:((xs.length:Nat):Int)*72<=1099511627776:=by omega
 simp -implicitDefEqProofs [h1]
 refine Ag (fun k s=>∃j o1 o2,j+k=xs.length/\s=⟨[.sl 1 5 xs.length (xs.flatMap AB),.undef,.arr 0,.sc (.int .i64 j),.undef],[.arr 5 0 xs.length ((mix (⟨⟨false,0,[]⟩,0,[]⟩:BP) xs j).flatMap AB),o1,o2]⟩) ?_ xs.length _ ⟨0,.free,.free,by simp,by simp[ARv];exact AR2 (f:=AB) (⟨⟨false,0,[]⟩,0,[]⟩:BP) _⟩
 intro k s ⟨j,o1,o2,hj,hs⟩
 subst hs
 by_cases hjn:j<xs.length
 ·have hw:=Cv (j:=j) (by omega)
  have hsz:=size_at (f:=Cb) hjn
  have hfit:j*5+5<=xs.length*5:=by omega
  have hjl:j<=xs.length:=by omega
  simp -implicitDefEqProofs [hjn]
  refine Aa (hto xs[j] (by omega)) ?_
  simp -implicitDefEqProofs [hjn,hfit,hjl]
  exact⟨k-1,by omega,j+1,by omega,by simp[hw],by rw[<-AR5 hjn]⟩
 ·have hje:mix (⟨⟨false,0,[]⟩,0,[]⟩:BP) xs j=xs:=ARZ (by omega)
  simp -implicitDefEqProofs [hjn,hje]
abbrev ARa:Prop:=∀xs ys:List BP,Cr Cb xs<=2 ^ 40->Cr Cb ys<=2 ^ 40->R [.sl 1 5 xs.length (xs.flatMap AB),.sl 1 5 ys.length (ys.flatMap AB)] [] (B (decide (xs=ys))) []
theorem AT7 (heq:AQU (D 135)):ARa (Body D AQm):=by
 intro xs ys h1 h2
 have hlen:=J9 (f:=Cb) (xs:=xs)
 by_cases hl:xs.length=ys.length
 ·have hl':(xs.length:Int)=ys.length:=by omega
  simp -implicitDefEqProofs [hl']
  refine Ag (fun k s=>∃j,j+k=xs.length/\xs.take j=ys.take j/\s=⟨[.sl 1 5 xs.length (xs.flatMap AB),.sl 1 5 ys.length (ys.flatMap AB),.undef,.sc (.int .i64 j),.undef,.undef,.undef],[]⟩) ?_ xs.length _ ⟨0,by simp,by simp,by simp⟩
  intro k s ⟨j,hj,hp,hs⟩
  subst hs
  by_cases hjn:j<xs.length
  ·have hw:=Cv (j:=j) (by omega)
   have hy:j<ys.length:=by omega
   have hsx:=size_at (f:=Cb) hjn
   have hsy:=size_at (f:=Cb) hy
   simp -implicitDefEqProofs [hjn,hy]
   refine Aa (heq xs[j] ys[j] (by omega) (by omega)) ?_
   by_cases he:xs[j]=ys[j]
   ·simp -implicitDefEqProofs [he]
    exact⟨k-1,by omega,j+1,by omega,Adh hjn hy hp he,by simp[hw]⟩
   ·have hne:xs≠ys:=fun h=>he (by simp[h])
    simp -implicitDefEqProofs [he,hne]
  ·obtain rfl:xs=ys:=Agx (by omega) hl hp
   simp -implicitDefEqProofs [hjn]
 ·have hl':¬(xs.length:Int)=ys.length:=by omega
  have:xs≠ys:=fun h=>hl (by rw[h])
  simp -implicitDefEqProofs [hl',this]
abbrev ARw:Prop:=∀(x:Eo) (l:Int),0<=l->l<=4194304->ADx x->R [arg (Az x),I l] [] (I (szl (Ip x) l)) []
theorem AUr (hszDialed:AQV (D 63)):ARw (Body D AQD):=by
 intro x l hl1 hl2 hln
 simp only[ADx]at hln
 simp -implicitDefEqProofs
 refine Aa (hszDialed x.dialed (l) (by omega) (by omega) hln) ?_
 by_cases g0:l<((Cb x.dialed:Nat):Int)
 ·have gg:l<((Ip x:Nat):Int):=by simp only[Ip];omega
  have e1:szl (Cb x.dialed) (l)= -1:=by unfold szl;rw[if_pos g0]
  have e2:szl (Ip x) l= -1:=by unfold szl;rw[if_pos gg]
  simp -implicitDefEqProofs [e1,e2]
 have e3:szl (Cb x.dialed) (l)=l-((Cb x.dialed:Nat):Int):=by unfold szl;rw[if_neg g0]
 have p0:¬l-((Cb x.dialed:Nat):Int)<0:=by omega
 simp -implicitDefEqProofs [e3,p0]
 have gg:¬l<((Ip x:Nat):Int):=by simp only[Ip];omega
 unfold szl;rw[if_neg gg];simp only[Ip]<;>omega
abbrev ARz:Prop:=∀x:Eo,Ip x<=4194304->R [arg (Az x)] [] (.agg (Az x)) []
theorem AUF (htoDialed:AQT (D 99)):ARz (Body D AQC):=by
 intro x h
 simp only[Ip]at h
 simp -implicitDefEqProofs
 refine Aa (htoDialed x.dialed (by omega)) ?_
 simp -implicitDefEqProofs
abbrev ARx:Prop:=∀x y:Eo,Ip x<=2 ^ 40->Ip y<=2 ^ 40->R [arg (Az x),arg (Az y)] [] (B (decide (x=y))) []
theorem AUx (heqDialed:AQU (D 135)):ARx (Body D AQH):=by
 intro x y h1 h2
 simp only[Ip]at h1 h2
 by_cases g_fin:x.fin=y.fin
 rotate_left
 ·have hne:x≠y:=fun h=>g_fin (by rw[h])
  simp -implicitDefEqProofs [g_fin,hne]
 simp -implicitDefEqProofs [g_fin]
 by_cases g_tick:x.tick=y.tick
 rotate_left
 ·have hne:x≠y:=fun h=>g_tick (by rw[h])
  simp -implicitDefEqProofs [g_tick,hne]
 simp -implicitDefEqProofs [g_tick]
 by_cases g_on:x.on=y.on
 rotate_left
 ·have hne:x≠y:=fun h=>g_on (by rw[h])
  simp -implicitDefEqProofs [g_on,hne]
 simp -implicitDefEqProofs [g_on]
 refine Aa (heqDialed x.dialed y.dialed (by omega) (by omega)) ?_
 by_cases g_dialed:x.dialed=y.dialed
 rotate_left
 ·have hne:x≠y:=fun h=>g_dialed (by rw[h])
  simp -implicitDefEqProofs [g_dialed,hne]
 simp -implicitDefEqProofs [g_dialed]
 have hxy:x=y:=by cases x;cases y;simp_all
 simp -implicitDefEqProofs [hxy]
abbrev AQ1:Prop:=∀(xs:List Eo) (l:Int),0<=l->l<=4194304->lnS ADx xs->R [.sl 1 8 xs.length (xs.flatMap Az),I l] [] (I (szl (Cr Ip xs) l)) []
theorem AUi (hsz:ARw (D 64)):AQ1 (Body D AQl):=by
 intro xs l h1 h2 hln
 have h3:=hln.1
 unfold maxLen at h3
 have hw:IntKind.i64.wrap (l-(xs.length:Int))=l-xs.length:=Ad (by omega) (by omega)
 by_cases h:l<(xs.length:Int)
 ·have h':l-(xs.length:Int)<0:=by omega
  have e2:szl (Cr Ip xs) l= -1:=by unfold szl Cr;rw[if_pos (by omega)]
  simp -implicitDefEqProofs [hw,h',e2]
 ·have h':¬l-(xs.length:Int)<0:=by omega
  simp -implicitDefEqProofs [hw,h']
  refine Ag (fun k s=>∃j,j+k=xs.length/\((xs.take j).map Ip).sum+xs.length<=l/\s=⟨[.sl 1 8 xs.length (xs.flatMap Az),.sc (.int .i64 (l-xs.length-((((xs.take j).map Ip).sum:Nat):Int))),.undef,.sc (.int .i64 j),.undef,.undef,.undef],[]⟩) ?_ xs.length _ ⟨0,by simp,by simp;omega,by simp⟩
  intro k s ⟨j,hj,hp,hs⟩
  subst hs
  by_cases hjn:j<xs.length
  ·have hw:=Cv (j:=j) (by omega)
   have ht:=AlZ (f:=Ip) hjn
   have htl:=AfV (f:=Ip) (xs:=xs) (j:=j+1)
   simp -implicitDefEqProofs [hjn, -List.map_take]
   refine Aa (hsz xs[j] _ (by omega) (by omega) (hln.2 j hjn)) ?_
   by_cases he:l-xs.length-((((xs.take j).map Ip).sum:Nat):Int)<Ip xs[j]
   ·have e1:szl (Ip xs[j]) (l-xs.length-((((xs.take j).map Ip).sum:Nat):Int))= -1:=by unfold szl;rw[if_pos he]
    have e2:szl (Cr Ip xs) l= -1:=by unfold szl Cr;rw[if_pos (by omega)]
    simp -implicitDefEqProofs [e1,e2, -List.map_take]
   ·have e1:szl (Ip xs[j]) (l-xs.length-((((xs.take j).map Ip).sum:Nat):Int))=l-xs.length-((((xs.take j).map Ip).sum:Nat):Int)-Ip xs[j]:=by unfold szl;rw[if_neg he]
    have e3:¬l-xs.length-((((xs.take j).map Ip).sum:Nat):Int)-Ip xs[j]<0:=by omega
    simp -implicitDefEqProofs [e1,e3, -List.map_take]
    refine⟨k-1,by omega,j+1,by omega,by omega,?_,by simp[hw]⟩
    rw[ht];omega
  ·have hsm:=AR8 (f:=Ip) (xs:=xs) (j:=j) (by omega)
   have e2:szl (Cr Ip xs) l=l-xs.length-((((xs.take j).map Ip).sum:Nat):Int):=by unfold szl Cr;rw[if_neg (by omega)];omega
   simp -implicitDefEqProofs [hjn,e2, -List.map_take]
abbrev AQ2:Prop:=∀xs:List Eo,Cr Ip xs<=4194304->R [.sl 1 8 xs.length (xs.flatMap Az)] [] (.sl 0 8 xs.length (xs.flatMap Az)) []
theorem AUc (hto:ARz (D 100)):AQ2 (Body D AQi):=by
 intro xs h
 have hlen:=J9 (f:=Ip) (xs:=xs)
 have h1:((xs.length:Nat):Int)*96<=1099511627776:=by omega
 simp -implicitDefEqProofs [h1]
 refine Ag (fun k s=>∃j o1 o2,j+k=xs.length/\s=⟨[.sl 1 8 xs.length (xs.flatMap Az),.undef,.arr 0,.sc (.int .i64 j),.undef],[.arr 8 0 xs.length ((mix (⟨0,0,false,⟨⟨false,0,[]⟩,0,[]⟩⟩:Eo) xs j).flatMap Az),o1,o2]⟩) ?_ xs.length _ ⟨0,.free,.free,by simp,by simp[ARv];exact AR2 (f:=Az) (⟨0,0,false,⟨⟨false,0,[]⟩,0,[]⟩⟩:Eo) _⟩
 intro k s ⟨j,o1,o2,hj,hs⟩
 subst hs
 by_cases hjn:j<xs.length
 ·have hw:=Cv (j:=j) (by omega)
  have hsz:=size_at (f:=Ip) hjn
  have hfit:j*8+8<=xs.length*8:=by omega
  have hjl:j<=xs.length:=by omega
  simp -implicitDefEqProofs [hjn]
  refine Aa (hto xs[j] (by omega)) ?_
  simp -implicitDefEqProofs [hjn,hfit,hjl]
  exact⟨k-1,by omega,j+1,by omega,by simp[hw],by rw[<-AR5 hjn]⟩
 ·have hje:mix (⟨0,0,false,⟨⟨false,0,[]⟩,0,[]⟩⟩:Eo) xs j=xs:=ARZ (by omega)
  simp -implicitDefEqProofs [hjn,hje]
abbrev AQ7:Prop:=∀xs ys:List Eo,Cr Ip xs<=2 ^ 40->Cr Ip ys<=2 ^ 40->R [.sl 1 8 xs.length (xs.flatMap Az),.sl 1 8 ys.length (ys.flatMap Az)] [] (B (decide (xs=ys))) []
theorem AT9 (heq:ARx (D 136)):AQ7 (Body D AQj):=by
 intro xs ys h1 h2
 have hlen:=J9 (f:=Ip) (xs:=xs)
 by_cases hl:xs.length=ys.length
 ·have hl':(xs.length:Int)=ys.length:=by omega
  simp -implicitDefEqProofs [hl']
  refine Ag (fun k s=>∃j,j+k=xs.length/\xs.take j=ys.take j/\s=⟨[.sl 1 8 xs.length (xs.flatMap Az),.sl 1 8 ys.length (ys.flatMap Az),.undef,.sc (.int .i64 j),.undef,.undef,.undef],[]⟩) ?_ xs.length _ ⟨0,by simp,by simp,by simp⟩
  intro k s ⟨j,hj,hp,hs⟩
  subst hs
  by_cases hjn:j<xs.length
  ·have hw:=Cv (j:=j) (by omega)
   have hy:j<ys.length:=by omega
   have hsx:=size_at (f:=Ip) hjn
   have hsy:=size_at (f:=Ip) hy
   simp -implicitDefEqProofs [hjn,hy]
   refine Aa (heq xs[j] ys[j] (by omega) (by omega)) ?_
   by_cases he:xs[j]=ys[j]
   ·simp -implicitDefEqProofs [he]
    exact⟨k-1,by omega,j+1,by omega,Adh hjn hy hp he,by simp[hw]⟩
   ·have hne:xs≠ys:=fun h=>he (by simp[h])
    simp -implicitDefEqProofs [he,hne]
  ·obtain rfl:xs=ys:=Agx (by omega) hl hp
   simp -implicitDefEqProofs [hjn]
 ·have hl':¬(xs.length:Int)=ys.length:=by omega
  have:xs≠ys:=fun h=>hl (by rw[h])
  simp -implicitDefEqProofs [hl',this]
end Go.Eng.T
