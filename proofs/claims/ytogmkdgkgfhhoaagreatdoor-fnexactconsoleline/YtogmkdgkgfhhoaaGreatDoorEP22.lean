/- Own work: part 22 of the proof of FnExactConsoleLine. -/
import Derived.Test.YtogmkdgkgfhhoaaGreatDoorEP13
import Derived.Test.YtogmkdgkgfhhoaaGreatDoorEP15
import Derived.Test.YtogmkdgkgfhhoaaGreatDoorEP16
import Derived.Test.YtogmkdgkgfhhoaaGreatDoorEP18
import Derived.Test.YtogmkdgkgfhhoaaGreatDoorEP20
import Derived.Test.YtogmkdgkgfhhoaaGreatDoorEP21
import Derived.Lib.Slices
import Derived.Lib.RowBridge
import Derived.Shelf.Strings.OnBuilder
import Derived.Shelf.Small.Bits
import Derived.Shelf.Small.Wraps
import Derived.Shelf.Utf8.RuneCount
import Derived.Shelf.Strconv.Atoi
import Derived.Shelf.Strconv.Itoa0
import Derived.Shelf.Strconv.Itoa1
import Derived.Shelf.LaysM
import Derived.Shelf.Strconv.Itoa2
import Derived.Shelf.Strconv.Itoa3
import Derived.Shelf.Strconv.AtoiErrFast
import Derived.Shelf.Strconv.ParseIntEmpty
import Derived.Shelf.Strconv.AtoiFail
import Derived.Shelf.Strconv.Clone
import Derived.Shelf.Strconv.SyntaxError
import Derived.Shelf.LaysC
import Derived.Shelf.Strconv.ToError
import Derived.Shelf.Strconv.Lower
import Derived.Shelf.Strconv.ParseUint10
import Derived.Shelf.Strconv.ParseUint10Empty
import Derived.Shelf.Strconv.ParseUint10Any
import Derived.Shelf.Strconv.ParseInt10
import Derived.Shelf.Strconv.AtoiLong
import Derived.Shelf.Strconv.AtoiInnerAll
import Derived.Shelf.Strconv.RangeError
import Derived.Shelf.Strconv.ToErrorRange
import Derived.Shelf.Strconv.AtoiAll
import Derived.Shelf.Strconv.ParseUintEmpty
import Derived.Shelf.Strconv.ParseUint10b64
import Derived.Shelf.Strconv.ParseUint10b32
import Derived.Shelf.Strconv.ParseUint10b16
import Derived.Shelf.Strconv.ParseUint10b8
import Derived.Shelf.Strconv.ParseUint10At
import Derived.Shelf.Strings.Search1
import Derived.Shelf.Strings.Search2
import Derived.Shelf.Strings.Search3
import Derived.Shelf.Strings.Count
import Derived.Shelf.Strings.Shaped
import Derived.Shelf.Sort.Plain
import Derived.Shelf.Strings.Split
import Derived.Shelf.Strings.SplitShaped
import Derived.Shelf.Unicode.Decode
import Derived.Shelf.Strings.RuneCount
import Derived.Shelf.Strings.Explode
import Derived.Shelf.Bits.Mul64
import Derived.Shelf.Unicode.DecodeSlow
import Derived.Shelf.Unicode.DecodeAny
import Derived.Shelf.Slices.Turned
import Derived.Shelf.Slices.Reverse
import Derived.Shelf.Slices.Equal
import Derived.Ground.Names2Prog
import Derived.Shelf.Slices.Clone
import Derived.Shelf.Slices.CompactI
import Derived.Shelf.Slices.SearchI
import Derived.Shelf.Slices.Cells
import Derived.Shelf.Slices.In.SortNone
import Derived.Shelf.Slices.Empties2
import Derived.Ground.SlgnProg
import Derived.Shelf.SlicesE.Reverse
import Derived.Shelf.SlicesE.Equal
import Derived.Shelf.SlicesE.Compact
import Derived.Shelf.SlicesE.Clone
import Derived.Ground.SlgfProg
import Derived.Shelf.SlicesE.IndexFunc
import Derived.Shelf.SlicesE.DeleteFunc
import Derived.Shelf.Spec.SlicesInsertGrow
import Derived.Test.YtogmkdgkgfhhoaaGreatDoorProg
import Derived.WalkKit
import Derived.BigCall
import Derived.BigGuard
import Derived.KernelRfl
set_option linter.unusedSimpArgs false
set_option linter.unusedVariables false
namespace Go.Eng.T
set_option maxRecDepth 20000
set_option maxHeartbeats 2000000
variable (R:Rel)
abbrev AJZ:Prop:=∀n:Nat,n<=16777216->R [.sc (.slice none 0 0),I n] [] (.sl 0 1 0 []) []
def Axk (ls:List (List Int)):List Int:=ls.flatten
abbrev ABa:Prop:=∀ls:List (List Int),GR ls<=8388608->R [KZ ls] [] (.sl 0 1 (Axk ls).length (ints (Axk ls))) []
theorem AE9 {ls:List (List Int)} {j:Nat} (h:j<ls.length):Axk (ls.take (j+1))=Axk (ls.take j)++ls[j]:=by
 have e:ls.take (j+1)=ls.take j++ [ls[j]]:=by simp
 unfold Axk
 rw[e,List.flatten_append];simp
theorem AGk (ls:List (List Int)) (j:Nat):(Axk (ls.take j)).length<=GR ls:=by
 unfold Axk
 have h1:(ls.take j).flatten.length<=ls.flatten.length:=by
  conv=>rhs;rw[<-List.take_append_drop j ls,List.flatten_append,List.length_append]
  omega
 have h2:ls.flatten.length<=GR ls:=by
  unfold GR Cr
  rw[List.length_flatten]
  omega
 omega
variable (D:Dn)
theorem AJR (hG:AJZ (D 419)):ABa (Body D AsF):=by
 intro ls hl
 have hll:=Ms (xs:=ls)
 simp -implicitDefEqProofs
 refine Ag (fun k s=>∃j,j+k=ls.length/\s=⟨[KZ ls,.undef,I ((Axk (ls.take j)).length:Nat),.undef,.undef,.undef,KZ ls,I ls.length,I j,.undef,.undef,.undef,.undef,.undef,.undef],[.free,.free,.free]⟩) ?_ (ls.length) _ ⟨0,by simp,by simp[Axk]⟩
 intro k s ⟨j,hj,hs⟩
 subst hs
 by_cases hjn:j<ls.length
 ·have hw:=Cv (j:=j) (by omega)
  have hst:=congrArg List.length (AE9 hjn)
  rw[List.length_append]at hst
  have hle:=AGk ls (j+1)
  obtain⟨n2,hn2⟩:∃n2,n2=(Axk (ls.take (j+1))).length:=⟨_,rfl⟩
  obtain⟨n1,hn1⟩:∃n1,n1=(Axk (ls.take j)).length:=⟨_,rfl⟩
  rw[<-hn2]at hst hle
  rw[<-hn1]at hst⊢
  have hw2:IntKind.i64.wrap ((n1:Int)+(ls[j].length:Nat))=(n2:Int):=by rw[hst,Ad (by omega) (by omega)];omega
  have hneg:¬(n2:Int)<0:=by omega
  simp -implicitDefEqProofs [hjn,hw2,hneg]
  exact⟨k-1,by omega,j+1,by omega,by simp[hw,hn2]⟩
 ·have e:ls.take j=ls:=List.take_of_length_le (by omega)
  have hle:=AGk ls j
  simp -implicitDefEqProofs [hjn,e]
  rw[e]at hle
  refine Aa (hG (Axk ls).length (by omega)) ?_
  simp -implicitDefEqProofs
  refine Ag (fun k s=>∃j o1,j+k=ls.length/\s=⟨[.undef,.undef,.undef,.undef,.arr 2,.undef,.undef,.undef,.undef,.undef,.undef,KZ ls,I ls.length,I j,.undef],[.free,o1,.arr 1 0 (Axk (ls.take j)).length (ints (Axk (ls.take j)))]⟩) ?_ (ls.length) _ ⟨0,.free,by simp,by simp[Axk]⟩
  intro k s ⟨j,o1,hj,hs⟩
  subst hs
  clear hjn e
  by_cases hjn:j<ls.length
  ·have hw:=Cv (j:=j) (by omega)
   have hst:=AE9 hjn
   have hle2:=AGk ls (j+1)
   have hsl:=congrArg List.length hst
   rw[List.length_append]at hsl
   generalize(Axk (ls.take j))=r1 at *
   have hb1:(r1.length+ls[j].length)*8<=1099511627776:=by omega
   simp -implicitDefEqProofs [hjn,hb1]
   exact⟨k-1,by omega,j+1,by omega,by simp[hw],by rw[hst];simp[ints]⟩
  ·have e:ls.take j=ls:=List.take_of_length_le (by omega)
   simp -implicitDefEqProofs [hjn,e]
theorem AJO (hC:ABa (D 368)) (hH:AdJ (D 353)):AeA (Body D Avl):=by
 intro k xs hl
 simp -implicitDefEqProofs
 have hc:=hC [[k],xs,[k]] (by simp[GR,Cr];omega)
 simp -implicitDefEqProofs [KZ,I8,ints]at hc
 simp -implicitDefEqProofs [ints]
 refine Aa (hc) ?_
 have ek:Axk [[k],xs,[k]]=k::xs++ [k]:=by simp[Axk]
 rw[ek]
 have hlen:(k::xs++ [k]).length=xs.length+1+1:=by simp
 have hh:=hH (k::xs++ [k]) (by unfold maxLen;omega)
 rw[hlen]at hh
 simp -implicitDefEqProofs [ints]at hh
 simp -implicitDefEqProofs [ints]
 refine Aa (hh) ?_
 simp -implicitDefEqProofs [keyed]
theorem AE0 (hI:Gr (D 292)) (hE:Kg (D 367)) (hC:ABa (D 368)):MV (Body D AuP):=by
 intro h hh
 have hv:=hh.1
 simp -implicitDefEqProofs
 refine Aa (hI h hh) ?_
 by_cases h1:Dt h=true
 rotate_left
 ·simp -implicitDefEqProofs [h1,Du]
 have hl:=MW h.exts
 have e:Du h=((h.versions.length:Int)::h.versions)++(FV h.exts).1:=by unfold Du;rw[if_pos h1]
 rw[e]
 simp -implicitDefEqProofs [h1]
 refine Aa (hE h.exts hh.2) ?_
 generalize(FV h.exts).1=r at hl
 simp -implicitDefEqProofs [ints]
 have hc:=hC [[(h.versions.length:Int)],h.versions,r] (by simp[GR,Cr];omega)
 simp -implicitDefEqProofs [KZ,I8,ints]at hc
 refine Aa (hc) ?_
 have ek:Axk [[(h.versions.length:Int)],h.versions,r]=((h.versions.length:Int)::h.versions)++r:=by simp[Axk]
 rw[ek]
 simp -implicitDefEqProofs [ints]
abbrev AFL:Prop:=∀(v:Int) (n:Nat),n<=2->R [.sl 1 1 1 (ints [v]),I n] [] (.sl 0 1 n (ints (List.replicate n v))) []
abbrev AFY:Prop:=∀(l:List Ext) (i:Nat) (x:Ext),l.length<=4194304->i<=l.length->
 R [.arr 0,I i,.arr 1] [.arr 2 0 l.length (l.flatMap Cc),.arr 2 0 1 (Cc x)] (.sl 0 2 (l.length+1) ((l.take i++x::l.drop i).flatMap Cc)) [.dead,.dead]
theorem AFy (hC:U5 (D 318)) (hG:O4 (D 319)) (hA:JX (D 320)) (hX:Rj (D 321)) (hP:Ahf (D 322))
 (hR:AFL (D 323)) (hI:AFY (D 324)):O8 (Body D AuV):=by
 intro l seed hl
 have hll:=hl.1
 simp -implicitDefEqProofs
 refine Aa (hC l hl) ?_
 simp -implicitDefEqProofs
 refine Aa (hG seed) ?_
 obtain⟨t,ht⟩:∃t,t=Oh seed:=⟨_,rfl⟩
 rw[<-ht]
 simp -implicitDefEqProofs
 refine Aa (hA l hl) ?_
 by_cases h1:Ej l=true
 rotate_left
 ·simp -implicitDefEqProofs [h1,Ew]
 have h6:l.length<=6:=Adr h1
 by_cases h2:l.length=6
 ·have h2':((l.length:Nat):Int)=6:=by omega
  simp -implicitDefEqProofs [h1,h2',Ew,h2]
 have h2':¬((l.length:Nat):Int)=6:=by omega
 have h2l:l.length<6:=by omega
 simp -implicitDefEqProofs [h1,h2',h2]
 refine Aa (hX l t (by unfold maxLen;omega)) ?_
 by_cases h3:t∈Ba l
 ·have h3':0<=K7 l t:=by
   by_cases h:K7 l t<0
   ·rw[LA]at h;exact absurd h3 h
   ·omega
  simp -implicitDefEqProofs [h1,h2l,h2',h2,h3',h3,Ew,<-ht]
 have h3':¬0<=K7 l t:=by
  have:K7 l t<0:=by rw[LA];exact h3
  omega
 have e:Ew l seed=l.take (AiL l seed)++⟨t,Ag6 seed⟩::l.drop (AiL l seed):=by
  unfold Ew
  rw[if_pos]
  ·rw[ht]
  ·simp[h1,h2l,<-ht,h3]
 have hgp:=AoS l seed h6
 rw[e]
 simp -implicitDefEqProofs [h3',h2',h2]
 refine Aa (hP seed 3 256) ?_
 simp -implicitDefEqProofs
 refine Aa (hP seed 2 3) ?_
 have hp2:=UK seed 2 (n:=3) ⟨by omega,by omega⟩
 have eb:Ag6 seed=List.replicate (pick seed 2 3).toNat (pick seed 3 256):=rfl
 obtain⟨n,hn⟩:∃n:Nat,pick seed 2 3=n:=⟨(pick seed 2 3).toNat,by omega⟩
 rw[hn]at eb hp2⊢
 rw[Int.toNat_natCast]at eb
 rw[eb]
 generalize pick seed 3 256=v at *
 simp -implicitDefEqProofs [ints]
 have hr:=hR v n (by omega)
 simp -implicitDefEqProofs [ints]at hr
 refine Aa (hr) ?_
 have hwl:IntKind.i64.wrap ((l.length:Int)+1)=(l.length:Int)+1:=Ad (by omega) (by omega)
 simp -implicitDefEqProofs [hwl]
 refine Aa (hP seed 1 (l.length+1)) ?_
 have hp1:=UK seed 1 (n:=(l.length:Int)+1) ⟨by omega,by omega⟩
 have eg:AiL l seed=(pick seed 1 (l.length+1)).toNat:=rfl
 generalize pick seed 1 (l.length+1)=k1 at hp1 eg
 obtain⟨kk,rfl⟩:∃kk:Nat,k1=kk:=⟨k1.toNat,by omega⟩
 rw[Int.toNat_natCast]at eg
 rw[eg]at hgp⊢
 simp -implicitDefEqProofs
 have hi:=hI l kk ⟨t,List.replicate n v⟩ (by omega) hgp
 simp -implicitDefEqProofs [Cc,ints]at hi
 refine Aa (hi) ?_
 have hlen:(l.take kk++(⟨t,List.replicate n v⟩:Ext)::l.drop kk).length=l.length+1:=by simp;omega
 simp -implicitDefEqProofs [hlen,Cc,ints]
 omega
open Go.Lib Go.RowKit
theorem AFR {Ae:Nat->Option FuncId} {w:Go.World} {P:Nat->Prop} {l:List Int} {x:Value} (h:Rd Ae w P (.sl 1 1 l.length (ints l)) x):
 ∃a cap,x= .slice a l.length cap/\l.length<=cap/\(l=[]∨∃b o,a=some ⟨b,o,none⟩/\P b/\∀j,j<l.length->w.cell? ⟨b,o+j,none⟩=some (.int .i64 (l.getD j 0))):=by
 cases h with
 | @sl _ _ _ _ a cap vs hle hwd hvl hm hcs=>
  refine⟨a,cap,rfl,hle,?_⟩
  rcases hm with hm | ⟨b,o,rfl,hbk,hr⟩
  ·left
   cases l with
   | nil=>rfl
   | cons x r=>simp[ints]at hm
  ·right
   have hvlen:vs.length=l.length:=by rw[hvl];simp
   refine⟨b,o,rfl,hbk,fun j hj=> ?_⟩
   rw[hr.2 j (by omega)]
   have hv:vs[j]? =some vs[j]:=by simp
   rw[hv]
   have hrd:=hcs j (.sc (.int .i64 l[j])) vs[j] (by simp[ints,hj]) hv
   generalize vs[j]=y at hrd⊢
   cases hrd with
   | sc _=>simp[hj]
theorem AKU {P:Program} {Ae:Nat->Option FuncId} {G:Gl} {g k:Nat} (hid:Ae g=some k)
 (hc:∀(b off n c:Nat) (zs:List Int) (w:Go.World),0<n->n<=zs.length->n<=9223372036854775807->(∀j,j<zs.length->w.cell? ⟨b,off+j,none⟩=some (.int .i64 (zs.getD j 0)))->
  Calls P k #[.slice (some ⟨b,off,none⟩) n c] w fun e w'=>e= .returned (.int .i64 (Lib.maxOf (zs.take n)))/\w' =w):AK8 (Den P Ae G g):=by
 intro xs h1 h2
 refine AgE (v:= .int .i64 (AKX xs)) rfl (fun a ha=> ?_) ?_
 ·simp only[List.mem_singleton]at ha;subst ha;trivial
 intro id hi w hw ys hx
 rw[hid]at hi
 cases hi
 cases hx with
 | sl h3 h4=>
  cases h4
  obtain⟨a,cap,rfl,hle,hm⟩:=AFR h3
  rcases hm with rfl | ⟨b,o,rfl,hb,hcell⟩
  ·simp at h1
  ·refine(hc b o xs.length cap xs w h1 (Nat.le_refl _) (by omega) hcell).mono fun e w' ⟨he,hw'⟩=>⟨?_,by rw[hw'];exact Below.refl _ _⟩
   rw[he,List.take_length];rfl
theorem AIg {w:Go.World} {base:Nat} {t:TypeId} {v:Value} {l:List Int} (h:w.ownsRow base t 1 v l.length (iv l)):
 ∃a cap,v= .slice a l.length cap/\(l.length<=cap/\cap<=9223372036854775807)/\(cap=0∨∃b o,a=some ⟨b,o,none⟩/\Has w b o (iv l) cap/\base<=b):=by
 obtain⟨_,h | ⟨g,cap,cur,rfl,h1,h2,h3,h4,h5,h6⟩⟩:=h
 ·obtain⟨rfl,h⟩:=h
  exact⟨none,0,by rw[h],⟨by omega,by omega⟩,.inl rfl⟩
 ·refine⟨_,cap,rfl,⟨h3,by unfold maxLen at h4;omega⟩,.inr ⟨g,0,rfl,⟨AsZ l,cur,t,h2,by omega,by simpa using h3,fun i hi=> ?_⟩,h1⟩⟩
  rw[Nat.zero_add,<-h6,Nat.mul_one]
  simp only[AD3]at hi
  rw[List.getElem?_take,if_pos hi,Array.getElem?_toList]
theorem AHG {F:Fr} {w':Go.World} (h:Below F.w0.heap.size F.w0 w'):Kept F w':=⟨h.size,h.os,h.tape,h.output,fun b hb _=>h.block b hb⟩
theorem AJp {P:Program} {Ae:Nat->Option FuncId} {G:Gl} {g k:Nat} {t:TypeId} (hid:Ae g=some k)
 (hn:∀(n c:Nat) (w:Go.World),Calls P k #[.slice none n c] w fun e w'=>e= .returned (.slice none 0 0)/\w' =w)
 (hz:∀(a:Addr) (c:Nat) (w:Go.World),Calls P k #[.slice (some a) 0 c] w fun e w'=>∃v',e= .returned v'/\w'.ownsRow w.heap.size t 1 v' 0 []/\v'≠ .slice none 0 0/\Below w.heap.size w w')
 (hc:∀(b off n c:Nat) (zs:List Int) (w:Go.World),n<=zs.length->n*8<=140737488355328->(∀j,j<zs.length->w.cell? ⟨b,off+j,none⟩=some (.int .i64 (zs.getD j 0)))->
  Calls P k #[.slice (some ⟨b,off,none⟩) n c] w fun e w'=>∃v',e= .returned v'/\w'.ownsRow w.heap.size t 1 v' n ((zs.take n).map (Value.int .i64))/\v'≠ .slice none 0 0/\Below w.heap.size w w'):AIh (Den P Ae G g):=by
 intro l hl
 refine Axj (given:=[]) (l':=l) fun id hi F hF inv xs hx=> ?_
 rw[hid]at hi
 cases hi
 have hr:=Adt (F:=F) rfl (fun a ha=>by simp only[List.mem_singleton]at ha;subst ha;trivial) hx
 cases hr with
 | sl h3 h4=>
  cases h4
  obtain⟨a,cap,rfl,hle,hm⟩:=AFR h3
  have fin:∀ {v':Value} {w':Go.World},w'.ownsRow F.w0.heap.size t 1 v' l.length (iv l)->Below F.w0.heap.size F.w0 w'->
   ∃a cap,Ending.returned v' = .returned (.slice a l.length cap)/\(l.length<=cap/\cap<=9223372036854775807)/\(cap=0∨∃b o,a=some ⟨b,o,none⟩/\Has w' b o (iv l) cap/\(b<F.w0.heap.size->F.own0 b≠none))/\Kept F w':=by
   intro v' w' ho hb
   obtain⟨a,cap,rfl,h5,h6⟩:=AIg ho
   refine⟨a,cap,rfl,h5,?_,AHG hb⟩
   rcases h6 with h6 | ⟨b,o,h7,h8,h9⟩
   ·exact .inl h6
   ·exact .inr ⟨b,o,h7,h8,fun h=>absurd h (by omega)⟩
  rcases hm with rfl | ⟨b,o,rfl,hb,hcell⟩
  ·cases a with
   | none=>exact(hn _ _ _).mono fun e w' ⟨he,hw⟩=>⟨none,0,he,⟨by simp,by omega⟩,.inl rfl,by rw[hw];exact Kept.refl F⟩
   | some a=>exact(hz a cap F.w0).mono fun e w' ⟨v',he,hown,_,hbel⟩=>by subst he;exact fin hown hbel
  ·exact(hc b o l.length cap l F.w0 (Nat.le_refl _) (by omega) hcell).mono fun e w' ⟨v',he,hown,_,hbel⟩=>by
    subst he
    rw[List.take_length]at hown
    exact fin hown hbel
end Go.Eng.T
namespace Go.Eng
open Go.Lib Go.RowKit Go.Sort
def Atj:Nat->List Value->Array Value->Array Value
 | _,[],c=>c
 | o,v::r,c=>Atj (o+1) r (c.setIfInBounds o v)
theorem AkS:∀(vs:List Value) (o:Nat) (c:Array Value),(Atj o vs c).size=c.size
 | [],_,_=>rfl
 | v::r,o,c=>by rw[Atj,AkS r];simp
theorem Arq:∀(vs:List Value) (o k:Nat) (c:Array Value),k<o∨o+vs.length<=k->(Atj o vs c)[k]? =c[k]?
 | [],_,_,_,_=>rfl
 | v::r,o,k,c,h=>by
  simp only[List.length_cons]at h
  rw[Atj,Arq r (o+1) k _ (by omega),Array.getElem?_setIfInBounds,if_neg (by omega)]
theorem Aus:∀(vs:List Value) (o i:Nat) (c:Array Value),i<vs.length->o+vs.length<=c.size->(Atj o vs c)[o+i]? =vs[i]?
 | v::r,o,0,c,_,hc=>by
  simp only[List.length_cons]at hc
  rw[Atj,Arq r (o+1) (o+0) _ (by omega),Array.getElem?_setIfInBounds,if_pos (by omega),if_pos (by omega)]
  rfl
 | v::r,o,i+1,c,hi,hc=>by
  simp only[List.length_cons]at hc hi
  rw[Atj,show o+(i+1)=o+1+i by omega,Aus r (o+1) i _ (by omega) (by simp;omega)]
  simp
theorem AhJ (b:Nat):∀(vs:List Value) (o:Nat) (w:World),w.setCells b o vs=mapBlock w b (Atj o vs)
 | [],o,w=>(mapBlock_id w b _ fun _ _ _ _=>rfl).symm
 | v::r,o,w=>by
  rw[World.setCells,AhJ b r,setCell_eq,mapBlock_mapBlock]
  rfl
def ADS (l:List Int) (i:Nat) (v:Int):List Int:=l.take i++v::l.drop i
theorem AJ9 {l:List Int} {i:Nat} {v:Int} (hi:i<=l.length):(ADS l i v).length=l.length+1:=by simp[ADS];omega
theorem AJY {l:List Int} {i j:Nat} {v:Int} (hi:i<=l.length):(ADS l i v)[j]? =if j<i then l[j]? else if j=i then some v else l[j-1]? :=by
 unfold ADS
 have hm:min i l.length=i:=by omega
 rw[List.getElem?_append]
 simp only[List.length_take,hm]
 split
 ·rename_i h;rw[List.getElem?_take,if_pos h]
 ·split
  ·rename_i h1 h2;subst h2;simp
  ·rename_i h1 h2
   obtain⟨d,rfl⟩:∃d,j=i+(d+1):=⟨j-i-1,by omega⟩
   rw[show i+(d+1)-i=d+1 by omega,List.getElem?_cons_succ,List.getElem?_drop]
   congr 1
theorem AIq {l:List Int} {j:Nat}:(iv l)[j]? =(l[j]?).map (Value.int .i64):=by simp[iv]
theorem AJ6 {l:List Int} {i j:Nat} {v:Int} (hi:i<=l.length):(iv (ADS l i v))[j]? =if j<i then(iv l)[j]? else if j=i then some (.int .i64 v)else(iv l)[j-1]? :=by
 rw[AIq,AJY hi]
 split
 ·rw[AIq]
 ·split
  ·rfl
  ·rw[AIq]
theorem AA7 {w:World} {b o n:Nat} {vs:List Value} (h:Has w b o vs n) {j:Nat} {v:Value} (hj:vs[j]? =some v):w.cell? ⟨b,o+j,none⟩=some v:=by
 have hl:=(List.getElem?_eq_some_iff.1 hj).1
 rw[(DF h).2 j hl,hj]
theorem AAn {w:World} {b o n:Nat} {vs:List Value} (h:Has w b o vs n) {j:Nat} (hj:j<n):(w.cell? ⟨b,o+j,none⟩).isSome=true:=by
 obtain⟨_,c,et,hb,h2,_,_⟩:=h
 unfold World.cell?
 simp only[hb]
 have:o+j<c.size:=by omega
 simp[this]
theorem Au9 {w:World} {b o n:Nat} {vs:List Value} (h:Has w b o vs n) (x:Nat):w.frozen? ⟨b,x,none⟩=false:=by
 obtain⟨_,c,et,hb,_⟩:=h
 unfold World.frozen?
 simp only[hb]
 simp
theorem AyR {w:World} {b o n:Nat} {vs:List Value} (h:Has w b o vs n):∃t k,w.shape? b=some (t,k)/\o+n<=k:=by
 obtain⟨_,c,et,hb,h2,_⟩:=h
 exact⟨et,c.size,by unfold World.shape?;simp only[hb],h2⟩
theorem alloc_at (w:World) (o:Obj):(w.alloc o).heap[w.heap.size]? =some o:=by
 show(w.heap.push o)[w.heap.size]? =some o
 rw[Array.getElem?_push,if_pos rfl]
theorem AuW (w:World) (o:Obj) {k:Nat} (h:k<w.heap.size):(w.alloc o).heap[k]? =w.heap[k]? :=by
 show(w.heap.push o)[k]? =w.heap[k]?
 rw[Array.getElem?_push,if_neg (by omega)]
theorem Atm (w:World) (o:Obj):(w.alloc o).heap.size=w.heap.size+1:=Array.size_push _
theorem AAa (n:Nat):(Builtin.zeroCells (Value.int .i64 0).cells n).size=n:=by simp[Builtin.zeroCells,Value.cells]
theorem Aw6 {l:List Int} {off i n:Nat} {v:Int} (hi:i<=l.length) (hn:l.length+1<=n) (c:Array Value) (hc:off+n<=c.size) (hl:∀j,j<i->c[off+j]? =(iv l)[j]?) (j:Nat) (hj:j<l.length+1):
 (Atj (off+i) (iv [v]) (Atj (off+(i+1)) ((iv l).drop i) c))[off+j]? =(iv (ADS l i v))[j]? :=by
 rw[AJ6 hi]
 by_cases h1:j<i
 ·rw[if_pos h1,Arq _ _ _ _ (.inl (by omega)),Arq _ _ _ _ (.inl (by omega)),hl j h1]
 ·rw[if_neg h1]
  by_cases h2:j=i
  ·subst h2
   rw[if_pos rfl]
   have:=Aus (iv [v]) (off+j) 0 (Atj (off+(j+1)) ((iv l).drop j) c) (by simp) (by rw[AkS];simp;omega)
   simp only[Nat.add_zero]at this
   rw[this];rfl
  ·rw[if_neg h2,Arq _ _ _ _ (.inr (by simp;omega))]
   have:=Aus ((iv l).drop i) (off+(i+1)) (j-(i+1)) c (by simp;omega) (by simp;omega)
   rw[show off+(i+1)+(j-(i+1))=off+j by omega]at this
   rw[this,List.getElem?_drop]
   congr 1;omega
theorem AGJ {F:Fr} {b:Nat} {f:Array Value->Array Value} {w:World} (hh:w.heap=F.w0.heap) (ho:w.os=F.w0.os) (ht:w.tape=F.w0.tape) (hu:w.output=F.w0.output) (hb:F.own0 b≠none):Kept F (mapBlock w b f):=by
 refine⟨by rw[AsE,hh];exact Nat.le_refl _,ho,ht,hu,fun b' h1 h2=> ?_⟩
 have hne:b'≠b:=by intro e;rw[e]at h2;exact hb h2
 rw[Auh _ _ hne,hh]
theorem AH0 {P:Program} {Ae:Nat->Option FuncId} {G:Gl} {g k:Nat} {t3:TypeId} (hid:Ae g=some k)
 (hShift:∀(b off n c i vb voff m vc:Nat) (cs vs:List Value) (w:World),i<n->0<m->n+m<=c->c<=9223372036854775807->vb≠b->cs.length=n->vs.length=m->
  (∀j v,cs[j]? =some v->w.cell? ⟨b,off+j,none⟩=some v)->(∀j,j<n+m->(w.cell? ⟨b,off+j,none⟩).isSome=true)->(∀j,j<n+m->w.frozen? ⟨b,off+j,none⟩=false)->
  (∀j v,vs[j]? =some v->w.cell? ⟨vb,voff+j,none⟩=some v)->(∀v∈cs,v.oneCell' =true)->(∀v∈vs,v.oneCell' =true)->
  ∀(tA tB:TypeId) (kA kB:Nat),w.shape? vb=some (tA,kA)->w.shape? b=some (tB,kB)->kB≠0->w.frozen? ⟨vb,voff,none⟩=false->w.frozen? ⟨vb,kA,none⟩=false->
  Calls P k #[.slice (some ⟨b,off,none⟩) n c,.int .i64 i,.slice (some ⟨vb,voff,none⟩) m vc] w fun e w'=>
   e= .returned (.slice (some ⟨b,off,none⟩) (n+m) c)/\w' =(w.drew.setCells b (off+(i+m)) (cs.drop i)).setCells b (off+i) vs)
 (hEndRoom:∀(b off n c vb voff m vc:Nat) (vs:List Value) (w:World),0<m->n+m<=c->c<=9223372036854775807->vs.length=m->
  (∀j,j<m->(w.cell? ⟨b,off+n+j,none⟩).isSome=true)->(∀j,j<m->w.frozen? ⟨b,off+n+j,none⟩=false)->
  (∀j v,vs[j]? =some v->w.cell? ⟨vb,voff+j,none⟩=some v)->(∀v∈vs,v.oneCell' =true)->
  Calls P k #[.slice (some ⟨b,off,none⟩) n c,.int .i64 n,.slice (some ⟨vb,voff,none⟩) m vc] w fun e w'=>
   e= .returned (.slice (some ⟨b,off,none⟩) (n+m) c)/\w' =w.setCells b (off+n) vs)
 (hEndGrow:∀(base:Option Addr) (n c vb voff m vc:Nat) (cs vs:List Value) (w:World),0<m->n<=c->c<n+m->(n+m)*8<=140737488355328->cs.length=n->vs.length=m->(base=none->n=0)->
  (∀a,base=some a->∀j v,cs[j]? =some v->w.cell? (a.add j)=some v)->(∀j v,vs[j]? =some v->w.cell? ⟨vb,voff+j,none⟩=some v)->(∀v∈vs,v.oneCell' =true)->
  Calls P k #[.slice base n c,.int .i64 n,.slice (some ⟨vb,voff,none⟩) m vc] w fun e w'=>
   e= .returned (.slice (some ⟨w.heap.size,0,none⟩) (n+m) (grownCap w (n+m) c t3))/\
   w' =w.drew.alloc (.cells ((cs++vs).toArray++Builtin.zeroCells (Value.int .i64 0).cells (grownCap w (n+m) c t3-(n+m))) t3))
 (hGrow:∀(b off n c i vb voff m vc:Nat) (cs vs:List Value) (w:World),i<n->0<m->n<=c->c<n+m->(n+m)*8<=140737488355328->cs.length=n->vs.length=m->
  (∀j v,cs[j]? =some v->w.cell? ⟨b,off+j,none⟩=some v)->(∀j v,vs[j]? =some v->w.cell? ⟨vb,voff+j,none⟩=some v)->(∀v∈cs,v.oneCell' =true)->(∀v∈vs,v.oneCell' =true)->
  Calls P k #[.slice (some ⟨b,off,none⟩) n c,.int .i64 i,.slice (some ⟨vb,voff,none⟩) m vc] w fun e w'=>
   e= .returned (.slice (some ⟨w.heap.size,0,none⟩) (n+m) (grownCap w (n+m) c t3))/\
   w' =(((w.alloc (.cells ((cs.take i).toArray++Builtin.zeroCells (Value.int .i64 0).cells (n+m-i)++Builtin.zeroCells (Value.int .i64 0).cells (grownCap w (n+m) c t3-(n+m))) t3)).drew.setCells w.heap.size i vs).drew).setCells w.heap.size (i+m) (cs.drop i))
 (l:List Int) (i:Nat) (v:Int) (hl:l.length<=4194304) (hi:i<=l.length):
 Den P Ae G g [.arr 0,.sc (.int .i64 i),.arr 1] [.arr 1 0 l.length (T.ints l),.arr 1 0 1 (T.ints [v])] (.sl 0 1 (ADS l i v).length (T.ints (ADS l i v))) [.dead,.dead]:=by
 refine Axj (given:=[.arr 1 0 l.length (T.ints l),.arr 1 0 1 (T.ints [v])]) fun id hid' F hF inv xs hx=> ?_
 rw[hid]at hid'
 cases hid'
 obtain⟨x0,r0,rfl,h1,h2⟩:=hx.Nf
 obtain⟨x1,r1,rfl,h3,h4⟩:=h2.Nf
 obtain⟨x2,r2,rfl,h5,h6⟩:=h4.Nf
 obtain rfl:=h6.N8
 obtain⟨a,cap,rfl,hcap,_,_,hm⟩:=AAS (k:=0) inv rfl h1
 obtain⟨a2,cap2,rfl,hcap2,_,_,hm2⟩:=AAS (k:=1) (l:=[v]) inv rfl h5
 cases h3
 have hlen:=AJ9 (v:=v) hi
 rw[hlen]
 obtain⟨vb,vo,rfl,hvown,hvhas⟩:∃vb vo,a2=some ⟨vb,vo,none⟩/\F.own0 vb=some (1,[])/\Has F.w0 vb vo (iv [v]) cap2:=by
  rcases hm2 with h | h
  ·simp at hcap2;omega
  ·exact h
 have hvs:∀j x,(iv [v])[j]? =some x->F.w0.cell? ⟨vb,vo+j,none⟩=some x:=fun j x hj=>AA7 hvhas hj
 have hgc:=AfX F.w0 (l.length+1) cap t3
 have hgb:=AeI F.w0 (l.length+1) cap t3 (by omega)
 have hvne:F.own0 vb≠none:=by rw[hvown];simp
 have new:∀ {w':World} {o:Obj},(∀b,b<F.w0.heap.size->w'.heap[b]? =F.w0.heap[b]?)->F.w0.heap.size<=w'.heap.size->w'.os=F.w0.os->w'.tape=F.w0.tape->w'.output=F.w0.output->Kept F w':=
  fun h1 h2 h3 h4 h5=>⟨h2,h3,h4,h5,fun b hb _=>h1 b hb⟩
 have endGrow:cap<l.length+1->i=l.length->(∀a0,a=some a0->∀j x,(iv l)[j]? =some x->F.w0.cell? (a0.add j)=some x)->(a=none->l.length=0)->_:=fun hc hin hcells hnil=>
  (hEndGrow a l.length cap vb vo 1 cap2 (iv l) (iv [v]) F.w0 (by omega) hcap.1 hc (by omega) (by simp) rfl hnil hcells hvs (AsZ [v])).mono
   (R':=fun e w'=>∃a cap,e= .returned (.slice a (l.length+1) cap)/\(l.length+1<=cap/\cap<=9223372036854775807)/\(cap=0∨∃b o,a=some ⟨b,o,none⟩/\Has w' b o (iv (ADS l i v)) cap/\(b<F.w0.heap.size->F.own0 b≠none))/\Kept F w')
   fun e w' ⟨he,hw⟩=>by
    subst hw
    refine⟨_,_,he,⟨hgc,hgb⟩,.inr ⟨_,_,rfl,?_,fun h=>absurd h (by omega)⟩,?_⟩
    ·have e2:iv (ADS l i v)=iv l++iv [v]:=by subst hin;simp[ADS,iv]
     rw[e2]
     refine⟨by rw[<-e2];exact AsZ _,_,t3,alloc_at F.w0.drew _,?_,by simp;exact hgc,fun j hj=> ?_⟩
     ·simp[AAa];omega
     ·simp only[List.length_append,AD3]at hj
      rw[Nat.zero_add,Array.getElem?_append,if_pos (by simp;simp at hj;omega)]
      simp
    ·refine⟨by rw[Atm];simp,rfl,rfl,rfl,fun b hb _=>AuW F.w0.drew _ hb⟩
 rcases hm with hm | ⟨b,o,rfl,hown,hhas⟩
 ·subst hm
  have hl0:l=[]:=List.eq_nil_of_length_eq_zero (by omega)
  subst hl0
  obtain rfl:i=0:=by simpa using hi
  exact endGrow (by simp) rfl (fun a0 _ j x hj=>by simp[iv]at hj) (fun _=>rfl)
 ·have hbne:vb≠b:=by intro e;rw[e,hown]at hvown;cases hvown
  have hcs:∀j x,(iv l)[j]? =some x->F.w0.cell? ⟨b,o+j,none⟩=some x:=fun j x hj=>AA7 hhas hj
  have hob:F.own0 b≠none:=by rw[hown];simp
  by_cases hroom:l.length+1<=cap
  ·by_cases hin:i=l.length
   ·subst hin
    refine(hEndRoom b o l.length cap vb vo 1 cap2 (iv [v]) F.w0 (by omega) hroom hcap.2 rfl (fun j hj=> ?_) (fun j _=>Au9 hhas _) hvs (AsZ [v])).mono fun e w' ⟨he,hw⟩=> ?_
    ·have:=AAn hhas (j:=l.length+j) (by omega)
     rwa [<-Nat.add_assoc]at this
    ·rw[AhJ]at hw
     subst hw
     refine⟨_,_,he,⟨hroom,hcap.2⟩,.inr ⟨_,_,rfl,?_,fun _=>hob⟩,AGJ rfl rfl rfl rfl hob⟩
     refine AxA hhas (Auo _ _ _) (AkS _ _) (fun c h1 h2 j hj=> ?_) (AsZ _) (by simp[hlen];exact hroom)
     have:=Aw6 (v:=v) (Nat.le_refl l.length) hroom c h1 (fun j hj=>h2 j (by simpa using hj)) j (by simpa[hlen]using hj)
     rw[List.drop_eq_nil_of_le (by simp)]at this
     exact this
   ·obtain⟨tA,kA,hsa,_⟩:=AyR hvhas
    obtain⟨tB,kB,hsb,hkB⟩:=AyR hhas
    refine(hShift b o l.length cap i vb vo 1 cap2 (iv l) (iv [v]) F.w0 (by omega) (by omega) hroom hcap.2 hbne (by simp) rfl hcs (fun j hj=>AAn hhas (by omega)) (fun j _=>Au9 hhas _) hvs (AsZ l) (AsZ [v]) tA tB kA kB hsa hsb (by omega) (Au9 hvhas _) (Au9 hvhas _)).mono fun e w' ⟨he,hw⟩=> ?_
    rw[AhJ,AhJ,mapBlock_mapBlock]at hw
    subst hw
    refine⟨_,_,he,⟨hroom,hcap.2⟩,.inr ⟨_,_,rfl,?_,fun _=>hob⟩,AGJ rfl rfl rfl rfl hob⟩
    refine AxA hhas (Auo _ _ _) (fun c=>by rw[AkS,AkS]) (fun c h1 h2 j hj=> ?_) (AsZ _) (by simp[hlen];exact hroom)
    exact Aw6 (v:=v) hi hroom c h1 (fun j hj=>h2 j (by simp;omega)) j (by simpa[hlen]using hj)
  ·by_cases hin:i=l.length
   ·rw[hin]
    rw[hin]at endGrow
    refine endGrow (by omega) rfl (fun a0 ha j x hj=> ?_) (fun h=>by cases h)
    cases ha
    rw[Addr.add_lit]
    exact hcs j x hj
   ·refine(hGrow b o l.length cap i vb vo 1 cap2 (iv l) (iv [v]) F.w0 (by omega) (by omega) hcap.1 (by omega) (by omega) (by simp) rfl hcs hvs (AsZ l) (AsZ [v])).mono fun e w' ⟨he,hw⟩=> ?_
    rw[AhJ,AhJ]at hw
    have hsz:w'.heap.size=F.w0.heap.size+1:=by
     rw[hw,AsE];simp only[World.drew];rw[AsE,Atm]
    have hoff:∀b',b' <F.w0.heap.size->w'.heap[b']? =F.w0.heap[b']? :=by
     intro b' hb'
     rw[hw,Auh _ _ (by omega)]
     simp only[World.drew]
     rw[Auh _ _ (by omega)]
     exact AuW F.w0 _ hb'
    refine⟨_,_,he,⟨hgc,hgb⟩,.inr ⟨_,_,rfl,?_,fun h=>absurd h (by omega)⟩,⟨by omega,by rw[hw];rfl,by rw[hw];rfl,by rw[hw];rfl,fun b' hb' _=>hoff b' hb'⟩⟩
    have hat:w'.heap[F.w0.heap.size]? =some (.cells (Atj (i+1) ((iv l).drop i) (Atj i (iv [v]) (((iv l).take i).toArray++Builtin.zeroCells (Value.int .i64 0).cells (l.length+1-i)++Builtin.zeroCells (Value.int .i64 0).cells (grownCap F.w0 (l.length+1) cap t3-(l.length+1))))) t3 (0,0)):=by
     rw[hw,Auo]
     simp only[World.drew]
     rw[Auo]
     simp only[]
     rw[alloc_at]
     rfl
    refine⟨AsZ _,_,t3,hat,?_,by simp[hlen];exact hgc,fun j hj=> ?_⟩
    ·rw[AkS,AkS]
     simp[AAa];omega
    ·simp only[AD3,hlen]at hj
     rw[AJ6 hi,Nat.zero_add]
     by_cases q1:j<i
     ·rw[if_pos q1,Arq _ _ _ _ (.inl (by omega)),Arq _ _ _ _ (.inl q1),Array.getElem?_append,if_pos (by simp[AAa];omega),Array.getElem?_append,if_pos (by simp;omega)]
      simp[q1]
     ·rw[if_neg q1]
      by_cases q2:j=i
      ·subst q2
       rw[if_pos rfl,Arq _ _ _ _ (.inl (by omega))]
       have:=Aus (iv [v]) j 0 (((iv l).take j).toArray++Builtin.zeroCells (Value.int .i64 0).cells (l.length+1-j)++Builtin.zeroCells (Value.int .i64 0).cells (grownCap F.w0 (l.length+1) cap t3-(l.length+1))) (by simp) (by simp[AAa];omega)
       simp only[Nat.add_zero]at this
       rw[this];rfl
      ·rw[if_neg q2]
       have:=Aus ((iv l).drop i) (i+1) (j-(i+1)) (Atj i (iv [v]) (((iv l).take i).toArray++Builtin.zeroCells (Value.int .i64 0).cells (l.length+1-i)++Builtin.zeroCells (Value.int .i64 0).cells (grownCap F.w0 (l.length+1) cap t3-(l.length+1)))) (by simp;omega) (by rw[AkS];simp[AAa];omega)
       rw[show i+1+(j-(i+1))=j by omega]at this
       rw[this,List.getElem?_drop]
       congr 1;omega
end Go.Eng
namespace Go.Eng.T
open Go.Lib Go.RowKit Go.Sort
theorem AJe {P:Program} {Ae:Nat->Option FuncId} {G:Gl} {g k:Nat} (hid:Ae g=some k)
 (h0:∀(p:Option Addr) (cap:Nat) (w:Go.World),Calls P k #[.slice p 0 cap] w fun e w'=>e= .returned (.tuple #[])/\w' =w)
 (hc:∀(blk off cap:Nat) (zs:List Int) (w:Go.World),Holds (Value.int .i64) w blk off zs.toArray->blk<w.heap.size->zs.length<4611686018427387904->
  Calls P k #[.slice (some ⟨blk,off,none⟩) zs.length cap] w fun e w'=>e= .returned (.tuple #[])/\∃n os,w' =grow (putRow (Value.int .i64) (Sort.ahead w n) blk off (zs.mergeSort fun x y=>decide (x<=y)).toArray) os):
 AIN (Den P Ae G g):=fun l hl=>AJ0 hid h0 hc l hl
theorem AF9 {P:Program} {Ae:Nat->Option FuncId} {G:Gl} {g k:Nat} (hid:Ae g=some k)
 (h0:∀(p:Option Addr) (cap:Nat) (w:Go.World),Calls P k #[.slice p 0 cap] w fun e w'=>e= .returned (.slice p 0 cap)/\w' =w)
 (hc:∀(blk off cap:Nat) (zs:List Int) (w:Go.World),Holds (Value.int .i64) w blk off zs.toArray->zs.length<=9223372036854775807->zs.length<=cap->
  Calls P k #[.slice (some ⟨blk,off,none⟩) zs.length cap] w fun e w'=>e= .returned (.slice (some ⟨blk,off,none⟩) (compact zs).length cap)/\∃q,w' =putRow (Value.int .i64) (Sort.ahead w q) blk off (compact zs++List.replicate (zs.length-(compact zs).length) 0).toArray):
 CompactS (Den P Ae G g):=fun l hl=>AHm hid h0 hc l hl (compact_length_le l)
end Go.Eng.T
namespace Go.Eng
open Go.Lib Go.RowKit Go.Sort
theorem AIH {F:Fr} {given:List O} {k e len:Nat} {cs:List V} {x:Value} (inv:Inv F F.β0 F.own0 (hp given) F.w0) (hk:hp given k= .arr e 0 len cs) (h:VR F F.β0 F.own0 (hp given) F.w0 (.arr k) x):
 ∃a cap vs,x= .slice a len cap/\(len<=cap/\cap<=9223372036854775807)/\vs.length=cs.length/\cs.length=len*e/\
  (cap*e=0∨∃b o,a=some ⟨b,o,none⟩/\F.own0 b=some (k,[])/\Has F.w0 b o vs (cap*e))/\
  ∀(i:Nat) (v:V) (x:Value),cs[i]? =some v->vs[i]? =some x->Ow F.Ae F.w0 F.own0 (F.S F.w0 F.own0) 0 k [i] v x:=by
 have ho:=inv.objs k
 rw[hk]at ho
 obtain⟨vs,h1,h2,h3,h4,h5⟩:=ho
 cases h with
 | @arr _ e' t len' cs' he=>
  rw[hk]at he
  simp only[Ac,Option.some.injEq,Prod.mk.injEq]at he
  obtain⟨rfl,rfl,rfl,rfl⟩:=he
  exact⟨_,_,vs,rfl,h3,h1,h2,h4,h5⟩
 | goneA hd=>rw[hk]at hd;cases hd
def AK7 (P:Program) (k:Nat):Prop:=∀(a:Option Addr) (n cap i vb vo vc:Nat) (vs ds:List Value) (w:World),i<=n->n<=4194304->(n<=cap/\cap<=9223372036854775807)->vs.length=n*2->ds.length=2->
 (cap=0∨∃b o,a=some ⟨b,o,none⟩/\Has w b o vs (cap*2)/\b≠vb)->Has w vb vo ds (vc*2)->1<=vc->
 Calls P k #[.slice a n cap,.int .i64 i,.slice (some ⟨vb,vo,none⟩) 1 vc] w fun e w'=>∃b' o' cap',e= .returned (.slice (some ⟨b',o',none⟩) (n+1) cap')/\(n+1<=cap'/\cap'<=9223372036854775807)/\
  Has w' b' o' (vs.take (i*2)++ds++vs.drop (i*2)) (cap'*2)/\(w.heap.size<=b'∨∃o,a=some ⟨b',o,none⟩/\cap≠0)/\
  w.heap.size<=w'.heap.size/\w'.os=w.os/\w'.tape=w.tape/\w'.output=w.output/\∀b,b<w.heap.size->b≠b'->w'.heap[b]? =w.heap[b]?
def Ayo (own:Nat->Option (Nat×List Nat)) (b' i:Nat):Nat->Option (Nat×List Nat):=fun b=>
 if b=b' then some (2,[])else match own b with
 | some (0,j::q)=>some (2,(if j<i*2 then j else j+2)::q)
 | some (1,j::q)=>some (2,(i*2+j)::q)
 | _=>none
theorem AKe {P:Program} {Ae:Nat->Option FuncId} {G:Gl} {g k:Nat} (hid:Ae g=some k) (hC:AK7 P k) {cs ds:List V} {n i:Nat} (hn:n<=4194304) (hi:i<=n) (hcs:cs.length=n*2) (hds:ds.length=2):
 Den P Ae G g [.arr 0,.sc (.int .i64 i),.arr 1] [.arr 2 0 n cs,.arr 2 0 1 ds] (.sl 0 2 (n+1) (cs.take (i*2)++ds++cs.drop (i*2))) [.dead,.dead]:=by
 intro id hid' F hF hG hb ht hgn inv xs hx
 rw[hid]at hid'
 cases hid'
 obtain⟨x0,r0,rfl,h1,h2⟩:=hx.Nf
 obtain⟨x1,r1,rfl,h3,h4⟩:=h2.Nf
 obtain⟨x2,r2,rfl,h5,h6⟩:=h4.Nf
 obtain rfl:=h6.N8
 obtain⟨a,cap,vs,rfl,hcap,hv1,_,hm,hel⟩:=AIH (k:=0) inv rfl h1
 obtain⟨a2,cap2,ws,rfl,hcap2,hw1,_,hm2,hel2⟩:=AIH (k:=1) inv rfl h5
 cases h3
 obtain⟨vb,vo,rfl,hvown,hvhas⟩:∃vb vo,a2=some ⟨vb,vo,none⟩/\F.own0 vb=some (1,[])/\Has F.w0 vb vo ws (cap2*2):=by
  rcases hm2 with h | h
  ·omega
  ·exact h
 have hm':cap=0∨∃b o,a=some ⟨b,o,none⟩/\Has F.w0 b o vs (cap*2)/\b≠vb:=by
  rcases hm with h | ⟨b,o,e1,e2,e3⟩
  ·exact .inl (by omega)
  ·exact .inr ⟨b,o,e1,e3,fun e=>by rw[e,hvown]at e2;cases e2⟩
 refine(hC a n cap i vb vo cap2 vs ws F.w0 hi hn hcap (by omega) (by omega) hm' hvhas hcap2.1).mono fun e w' ⟨b',o',cap',he,hcap',hhas,hpl,hsz,hos,htp,hou,hkeep⟩=> ?_
 subst he
 have hb':b' <F.w0.heap.size->F.own0 b' =some (0,[]):=by
  intro hlt
  rcases hpl with h | ⟨o,e1,e0⟩
  ·omega
  ·rcases hm with h | ⟨b,o2,e2,e3,_⟩
   ·omega
   ·rw[e2]at e1;cases e1;exact e3
 have hne:∀b k j q,F.own0 b=some (k,j::q)->b≠b'/\b<F.w0.heap.size:=by
  intro b k j q h
  have hlt:=(inv.ownb b _ h).1
  refine⟨fun e=> ?_,hlt⟩
  subst e
  rw[hb' hlt]at h
  cases h
 refine⟨Ayo F.own0 b' i,⟨hsz,hos,htp,hou,fun b h1 h2=> ?_,fun b p h=> ?_,?_,by rw[hgn];rfl,fun j o hj=> ?_⟩⟩
 ·refine hkeep b h1 (fun e=> ?_)
  subst e
  rw[hb' h1]at h2;cases h2
 ·unfold Ayo at h
  split at h
  ·rename_i e;subst e
   exact⟨TT hhas,fun hlt=>by rw[hb' hlt];simp⟩
  ·split at h
   ·rename_i j q e;exact⟨Nat.lt_of_lt_of_le (inv.ownb b _ e).1 hsz,fun _=>by rw[e];simp⟩
   ·rename_i j q e;exact⟨Nat.lt_of_lt_of_le (inv.ownb b _ e).1 hsz,fun _=>by rw[e];simp⟩
   ·cases h
 ·have hng:F.ngiven=2:=by rw[hgn];rfl
  rw[hng]
  refine .own hcap' ?_ ?_ (.inr ⟨b',o',rfl,by unfold Ayo;rw[if_pos rfl],hhas⟩) ?_
  ·simp[hcs,hds];omega
  ·simp[hcs,hds,hv1,hw1]
  ·intro j v x hv hx
   simp only[List.nil_append]
   have mv:∀(k j0:Nat),Ow F.Ae F.w0 F.own0 (F.S F.w0 F.own0) 0 k [j0] v x->(∀b q,F.own0 b=some (k,j0::q)->Ayo F.own0 b' i b=some (2,j::q))->
    Ow F.Ae w' (Ayo F.own0 b' i) (fun _ b=>F.G b) 0 2 [j] v x:=by
    intro k j0 h hl
    refine h.move (Nat.le_refl 0) (fun fl b h1 h2 h3=> ?_) (fun fl b h1 h2 h3=> ?_) (fun b q hb=> ?_)
    ·have:fl=3:=by
      match fl,h1,h2 with
      | 1,_,h2=>simp[lv]at h2
      | 2,_,h2=>simp[lv]at h2
      | 3,_,_=>rfl
      | m+4,_,h2=>simp[lv]at h2
     subst this
     exact h3
    ·have:fl=3:=by
      match fl,h1,h2 with
      | 1,_,h2=>simp[lv]at h2
      | 2,_,h2=>simp[lv]at h2
      | 3,_,_=>rfl
      | m+4,_,h2=>simp[lv]at h2
     subst this
     have hg:=inv.glob b h3
     refine hkeep b hg.1 (fun e=> ?_)
     subst e
     rw[hb' hg.1]at hg;cases hg.2.1
    ·have hb2:F.own0 b=some (k,j0::q):=hb
     have hn:=hne b k j0 q hb2
     exact⟨hl b q hb2,hkeep b hn.2 hn.1⟩
   have hlen1:(cs.take (i*2)).length=i*2:=by simp[hcs];omega
   have hlen2:(vs.take (i*2)).length=i*2:=by simp[hv1,hcs];omega
   by_cases g1:j<i*2
   ·rw[List.append_assoc,List.getElem?_append_left (by omega),List.getElem?_take,if_pos g1]at hv hx
    refine mv 0 j (hel j v x hv hx) (fun b q hb=> ?_)
    unfold Ayo
    rw[if_neg (hne b _ _ q hb).1,hb]
    simp[g1]
   ·by_cases g2:j<i*2+2
    ·rw[List.append_assoc,List.getElem?_append_right (by omega),List.getElem?_append_left (by omega)]at hv hx
     rw[hlen1]at hv
     rw[hlen2]at hx
     refine mv 1 (j-i*2) (hel2 _ v x hv hx) (fun b q hb=> ?_)
     unfold Ayo
     rw[if_neg (hne b _ _ q hb).1,hb]
     simp;omega
    ·rw[List.append_assoc,List.getElem?_append_right (by omega),List.getElem?_append_right (by omega),List.getElem?_drop]at hv hx
     rw[hlen1,hds]at hv
     rw[hlen2,hw1,hds]at hx
     have e:i*2+(j-i*2-2)=j-2:=by omega
     rw[e]at hv hx
     refine mv 0 (j-2) (hel _ v x hv hx) (fun b q hb=> ?_)
     unfold Ayo
     rw[if_neg (hne b _ _ q hb).1,hb]
     have:¬j-2<i*2:=by omega
     simp[this];omega
 ·match j,hj with
  | 0,hj=>simp only[List.getElem?_cons_zero,Option.some.injEq]at hj;subst hj;trivial
  | 1,hj=>simp only[List.getElem?_cons_succ,List.getElem?_cons_zero,Option.some.injEq]at hj;subst hj;trivial
  | j+2,hj=>simp at hj
end Go.Eng
namespace Go.Eng.T
open Go.Lib Go.RowKit Go.Sort
theorem AHx {P:Program} {Ae:Nat->Option FuncId} {G:Gl} {g k:Nat} (hid:Ae g=some k) (hC:AK7 P k):AFY (Den P Ae G g):=by
 intro l i x hl hi
 have h:=AKe (G:=G) (g:=g) hid hC (cs:=l.flatMap Cc) (ds:=Cc x) (n:=l.length) (i:=i) hl hi (LF l) rfl
 have e1:l.flatMap Cc=(l.take i).flatMap Cc++(l.drop i).flatMap Cc:=by rw[<-List.flatMap_append,List.take_append_drop]
 have h1:((l.take i).flatMap Cc).length=i*2:=by rw[LF];simp;omega
 have e2:(l.flatMap Cc).take (i*2)=(l.take i).flatMap Cc:=by rw[e1,List.take_left' h1]
 have e3:(l.flatMap Cc).drop (i*2)=(l.drop i).flatMap Cc:=by rw[e1,List.drop_left' h1]
 rw[e2,e3]at h
 have e4:(l.take i++x::l.drop i).flatMap Cc=(l.take i).flatMap Cc++Cc x++(l.drop i).flatMap Cc:=by simp
 rw[e4]
 exact h
theorem AJn {P:Program} {Ae:Nat->Option FuncId} {G:Gl} {g k:Nat} {t:TypeId} (hid:Ae g=some k)
 (h0:∀w,Calls P k #[.slice none 0 0,.int .i64 0] w fun e w'=>e= .returned (.slice none 0 0)/\w' =w)
 (h1:∀(n:Nat) (w:Go.World),0<n->n<=16777216->Calls P k #[.slice none 0 0,.int .i64 n] w fun e w'=>e= .returned (.slice (some ⟨w.heap.size,0,none⟩) 0 (grownCap w n 0 t))/\
  w' =w.drew.alloc (.cells (([]:List Value).toArray++Builtin.zeroCells #[.int .i64 0] n++Builtin.zeroCells #[.int .i64 0] (grownCap w n 0 t-n)) t)):AJZ (Den P Ae G g):=by
 intro n hn
 refine Axj (given:=[]) (l':=[]) fun id hi F hF inv xs hx=> ?_
 rw[hid]at hi
 cases hi
 obtain⟨x0,r0,rfl,g1,g2⟩:=hx.Nf
 obtain⟨x1,r1,rfl,g3,g4⟩:=g2.Nf
 obtain rfl:=g4.N8
 cases g1
 cases g3
 by_cases hz:n=0
 ·subst hz
  refine(h0 F.w0).mono fun e w' ⟨he,hw⟩=>⟨none,0,he,⟨by simp,by omega⟩,.inl rfl,?_⟩
  rw[hw];exact Kept.refl F
 ·refine(h1 n F.w0 (by omega) hn).mono fun e w' ⟨he,hw⟩=> ?_
  have hgc:=AfX F.w0 n 0 t
  have hgb:=AeI F.w0 n 0 t (by omega)
  subst hw
  refine⟨_,_,he,⟨by simp,hgb⟩,.inr ⟨_,_,rfl,⟨AsZ [],_,t,alloc_at F.w0.drew _,?_,by simp,fun i hi=>by simp at hi⟩,fun h=>absurd h (by omega)⟩,?_⟩
  ·simp[Builtin.zeroCells];omega
  ·exact⟨by rw[Atm];simp,rfl,rfl,rfl,fun b hb _=>AuW F.w0.drew _ hb⟩
theorem ADY {F:Fr} {w':Go.World} (h1:w'.heap.size=F.w0.heap.size+1) (h2:w'.os=F.w0.os) (h3:w'.tape=F.w0.tape) (h4:w'.output=F.w0.output) (h5:∀b,b<F.w0.heap.size->w'.heap[b]? =F.w0.heap[b]?):Kept F w':=
 ⟨by omega,h2,h3,h4,fun b hb _=>h5 b hb⟩
theorem AHz {P:Program} {Ae:Nat->Option FuncId} {G:Gl} {g k:Nat} {t:TypeId} (hid:Ae g=some k)
 (h0:∀(b o cap:Nat) (w:Go.World),Calls P k #[.slice (some ⟨b,o,none⟩) 1 cap,.int .i64 0] w fun e w'=>e= .returned (.slice (some ⟨w.heap.size,0,none⟩) 0 0)/\w' =w.alloc (.cells #[] t))
 (h1:∀(b o cap:Nat) (v:Int) (w:Go.World),w.cell? ⟨b,o,none⟩=some (.int .i64 v)->Calls P k #[.slice (some ⟨b,o,none⟩) 1 cap,.int .i64 1] w fun e w'=>e= .returned (.slice (some ⟨w.heap.size,0,none⟩) 1 1)/\w' =(w.alloc (.cells #[.int .i64 0] t)).setCells w.heap.size 0 [.int .i64 v])
 (h2:∀(b o cap:Nat) (v:Int) (w:Go.World),w.cell? ⟨b,o,none⟩=some (.int .i64 v)->Calls P k #[.slice (some ⟨b,o,none⟩) 1 cap,.int .i64 2] w fun e w'=>e= .returned (.slice (some ⟨w.heap.size,0,none⟩) 2 2)/\
  w' =(((w.alloc (.cells #[.int .i64 0,.int .i64 0] t)).setCells w.heap.size 0 [.int .i64 v]).drew).setCells w.heap.size 1 [.int .i64 v]):AFL (Den P Ae G g):=by
 intro v n hn
 have hll:(List.replicate n v).length=n:=List.length_replicate
 have key:Den P Ae G g [.sl 1 1 1 (ints [v]),I n] [] (.sl 0 1 (List.replicate n v).length (ints (List.replicate n v))) []:=by
  refine Axj (given:=[]) (l':=List.replicate n v) fun id hi F hF inv xs hx=> ?_
  rw[hid]at hi
  cases hi
  obtain⟨x0,r0,rfl,g1,g2⟩:=hx.Nf
  obtain⟨x1,r1,rfl,g3,g4⟩:=g2.Nf
  obtain rfl:=g4.N8
  cases g3
  cases g1 with
  | rd _ g1=>
  obtain⟨a,cap,rfl,hle,hm⟩:=AFR (l:=[v]) g1
  rcases hm with hm | ⟨b,o,rfl,hb,hcell⟩
  ·cases hm
  have hc:=hcell 0 (by simp)
  simp only[Nat.add_zero,List.getD_cons_zero]at hc
  have off:∀(f:Array Value->Array Value) (W:Go.World) (ob:Obj),W.heap=(F.w0.alloc ob).heap->∀b,b<F.w0.heap.size->(mapBlock W F.w0.heap.size f).heap[b]? =F.w0.heap[b]? :=fun f W ob hW b hb=>by rw[Auh _ _ (by omega),hW];exact AuW F.w0 ob hb
  match n,hn with
  | 0,_=>
   refine(h0 b o cap F.w0).mono fun e w' ⟨he,hw⟩=>⟨_,0,he,⟨by simp,by omega⟩,.inl rfl,?_⟩
   rw[hw]
   exact ADY (Atm _ _) rfl rfl rfl (fun b hb=>AuW _ _ hb)
  | 1,_=>
   refine(h1 b o cap v F.w0 hc).mono fun e w' ⟨he,hw⟩=>⟨_,1,he,⟨by simp,by omega⟩,.inr ⟨_,_,rfl,?_,fun h=>absurd h (by omega)⟩,?_⟩
   ·rw[hw,AhJ]
    refine⟨AsZ _,Atj 0 [Value.int .i64 v] #[Value.int .i64 0],t,?_,?_,by simp,fun i hi=> ?_⟩
    ·rw[Auo,alloc_at];rfl
    ·rw[AkS];simp
    ·simp at hi;subst hi;rfl
   ·rw[hw,AhJ]
    exact ADY (by rw[AsE,Atm]) rfl rfl rfl (fun b hb=>off _ _ _ rfl b hb)
  | 2,_=>
   refine(h2 b o cap v F.w0 hc).mono fun e w' ⟨he,hw⟩=>⟨_,2,he,⟨by simp,by omega⟩,.inr ⟨_,_,rfl,?_,fun h=>absurd h (by omega)⟩,?_⟩
   ·rw[hw,AhJ,AhJ]
    refine⟨AsZ _,Atj 1 [Value.int .i64 v] (Atj 0 [Value.int .i64 v] #[Value.int .i64 0,Value.int .i64 0]),t,?_,?_,by simp,fun i hi=> ?_⟩
    ·rw[Auo]
     simp only[World.drew]
     rw[Auo,alloc_at];rfl
    ·rw[AkS,AkS];simp
    ·simp at hi
     match i,hi with
     | 0,_=>rfl
     | 1,_=>rfl
   ·rw[hw,AhJ,AhJ]
    refine ADY ?_ rfl rfl rfl (fun b hb=> ?_)
    ·rw[AsE];simp only[World.drew];rw[AsE,Atm]
    ·rw[Auh _ _ (by omega)]
     simp only[World.drew]
     exact off _ _ _ rfl b hb
 rw[hll]at key
 exact key
end Go.Eng.T
namespace Go.Eng.T
open Go.Lib Go.RowKit
theorem AmX {P:Program} {Ae:Nat->Option FuncId} {G:Gl} {g k b:Nat} {W:Go.World} (hid:Ae g=some k) (hg:P.globalNamed "internal/strconv.uint64pow10"=some b) (hb:G b) (hW:G.is b=W.heap[b]?)
 (ht:TabIs P W "internal/strconv.uint64pow10" .u64 pow10Tab)
 (hc:∀n:Int, -9223372036854775808<=n->n<=9223372036854775807->∀w:Go.World,TabIs P w "internal/strconv.uint64pow10" .u64 pow10Tab->Calls P k #[.int .i64 n] w fun e w'=>e= .returned (.string ⟨(itoa n).toArray⟩)/\∃j os,w' =Sort.grow (w.drewN j) os):
 EB (Den P Ae G g):=by
 intro n hn
 refine AgE (v:= .string (Ww (itoa n))) rfl (fun a ha=> ?_) ?_
 ·simp only[List.mem_singleton]at ha;subst ha;trivial
 intro id hi w hw xs hx
 rw[hid]at hi
 cases hi
 cases hx with
 | sc h=>
  cases h
  refine(hc n hn.1 hn.2 w (AnP hg ht ?_)).mono fun e w' ⟨he,j,os,hw'⟩=>⟨he,?_⟩
  ·rw[(hw b hb).2,hW]
  ·rw[hw'];exact below_grow
theorem AnU {P:Program} {Ae:Nat->Option FuncId} {G:Gl} {g k:Nat} (hid:Ae g=some k)
 (h0:∀(a:Option Addr) (c:Nat) (sep:ByteArray) (w:Go.World),Calls P k #[.slice a 0 c,.string sep] w fun e w'=>e= .returned (.string ⟨#[]⟩)/\w' =w)
 (hc:∀(bk o c:Nat) (xs:List ByteArray) (sep:ByteArray) (w:Go.World),(∀(j:Nat) x,xs[j]? =some x->w.cell? ⟨bk,o+j,none⟩=some (.string x))->bk<w.heap.size->xs.length<=140737488355328->xs.length<=c->(join (xs.map (·.data.toList)) sep.data.toList).length<=140737488355328->
  Calls P k #[.slice (some ⟨bk,o,none⟩) xs.length c,.string sep] w fun e w'=>e= .returned (.string ⟨(join (xs.map (·.data.toList)) sep.data.toList).toArray⟩)/\Below w.heap.size w w'):
 Ane (Den P Ae G g):=by
 intro ls sep hl hj
 refine AgE (v:= .string (Ww (join ls sep))) rfl (fun a ha=> ?_) ?_
 ·simp only[List.mem_cons,List.not_mem_nil,or_false]at ha
  rcases ha with rfl | rfl<;>trivial
 intro id hi w hw xs hx
 rw[hid]at hi
 cases hi
 cases hx with
 | sl h1 h2=>
  cases h2 with
  | sc h3=>
   cases h3
   cases h1 with
   | @sl _ _ _ _ a cap vs hle hwd hvl hm hcs=>
    have eb:∀l:List UInt8,(Ww l).data.toList=l:=fun l=>rfl
    have em:(ls.map Ww).map (·.data.toList)=ls:=by rw[List.map_map];exact(List.map_congr_left fun l _=>eb l).trans (List.map_id ls)
    have es:(Ww sep).data.toList=sep:=eb sep
    rcases hm with hm | ⟨b,o,rfl,hbk,hr⟩
    ·have:ls=[]:=by
      cases ls with
      | nil=>rfl
      | cons x r=>simp[strs]at hm
     subst this
     refine(h0 a cap (Ww sep) w).mono fun e w' ⟨he,hw'⟩=>⟨?_,by rw[hw'];exact Below.refl _ _⟩
     rw[he,join_nil];rfl
    ·have hvlen:vs.length=ls.length:=by rw[hvl];simp
     have:=hc b o cap (ls.map Ww) (Ww sep) w (fun j x hx=> ?_) hbk (by simp;omega) (by simpa using hle) (by rw[em,es];exact hj)
     ·rw[em,es]at this
      simp only[List.length_map]at this
      exact this
     ·simp only[List.getElem?_map,Option.map_eq_some_iff]at hx
      obtain⟨l,hl',rfl⟩:=hx
      have hj':j<ls.length:=by
       by_cases h:j<ls.length
       ·exact h
       ·rw[List.getElem?_eq_none (by omega)]at hl';cases hl'
      rw[hr.2 j (by omega)]
      have hv:vs[j]? =some vs[j]:=by simp
      rw[hv]
      have hrd:=hcs j (Sb l) vs[j] (by simp[strs,hl']) hv
      generalize vs[j]=y at hrd⊢
      cases hrd with
      | sc _=>rfl
end Go.Eng.T
namespace Go.Eng
open Go.Lib Go.RowKit
theorem AJu {P:Program} {Ae:Nat->Option FuncId} {G:Gl} {g:Nat} {args:List V} {v1 v2:Value} (hv1:v1.oneCell' =true) (hv2:v2.oneCell' =true) (hp':∀a,a∈args->Ah4 a)
 (h:∀id,Ae g=some id->∀w:World,(∀b,G b->b<w.heap.size/\w.heap[b]? =G.is b)->∀xs,TP Ae w args xs->Calls P id xs.toArray w fun e w'=>e= .returned (.tuple #[v1,v2])/\Below w.heap.size w w'):Den P Ae G g args [] (.tup [.sc v1,.sc v2]) []:=by
 intro id hid F hF hG hb ht hn inv xs hx
 have hr:=Adt (F:=F) rfl hp' hx
 rw[hF]at hr
 refine(h id hid F.w0 (fun b hb=> ?_) xs hr).mono fun e w' ⟨he,hw⟩=> ?_
 ·have:=inv.glob b (by rw[hG];exact hb)
  exact⟨this.1,by rw[<-hG];exact this.2.2⟩
 ·subst he
  refine⟨F.own0,⟨hw.size,hw.os,hw.tape,hw.output,fun b hb _=>hw.block b hb,fun b p hb=>⟨Nat.lt_of_lt_of_le (inv.ownb b p hb).1 hw.size,fun _=> ?_⟩,?_,hn.symm,fun i o hi=> ?_⟩⟩
  ·rw[hb];simp
  ·refine .tup (vs:=[v1,v2]) rfl (fun i v x h1 h2=> ?_)
   match i,h1,h2 with
   | 0,h1,h2=>simp at h1 h2;subst h1 h2;exact .sc hv1
   | 1,h1,h2=>simp at h1 h2;subst h1 h2;exact .sc hv2
   | i+2,h1,_=>simp at h1
  ·simp at hi
theorem AJx {P:Program} {Ae:Nat->Option FuncId} {G:Gl} {g k:Nat} (hid:Ae g=some k)
 (hc:∀(l:List UInt8) (w:World),(∀b,G b->b<w.heap.size/\w.heap[b]? =G.is b)->l.length<=4194304->
  Calls P k #[.string (T.Ww l)] w fun e w'=>e= .returned (.tuple #[.int .i64 (T.Ave l),.bool (T.AsY l)])/\Below w.heap.size w w'):T.ABY (Den P Ae G g):=by
 intro l hl
 refine AJu (v1:= .int .i64 (T.Ave l)) (v2:= .bool (T.AsY l)) rfl rfl (fun a ha=> ?_) ?_
 ·simp only[List.mem_singleton]at ha;subst ha;trivial
 intro id hi w hw xs hx
 rw[hid]at hi
 cases hi
 cases hx with
 | sc h=>cases h;exact hc l w hw hl
theorem AAP {P:Program} {Ae:Nat->Option FuncId} {G:Gl} {g id:Nat} (hid:Ae g=some id) {vs:List Value} {v:Value} (h:Den P Ae G g (vs.map V.sc) [] (.sc v) []) (hv:∀x,x∈vs->x.oneCell' =true)
 (w:World) (hw:∀b,G b->b<w.heap.size/\w.heap[b]? =G.is b):Calls P id vs.toArray w fun e w'=>e= .returned v/\Below w.heap.size w w':=by
 have hpw:Pw (VR (VB Ae G w) (VB Ae G w).β0 (VB Ae G w).own0 (hp []) w) (vs.map V.sc) vs:=by
  have h0:∀l:List Value,(∀x,x∈l->x.oneCell' =true)->Pw (VR (VB Ae G w) (VB Ae G w).β0 (VB Ae G w).own0 (hp []) w) (l.map V.sc) l:=by
   intro l
   induction l with
   | nil=>intro _;exact .nil
   | cons y r ih=>intro hl;exact .cons (.sc (hl y (by simp))) (ih fun x hx=>hl x (by simp[hx]))
  exact h0 vs hv
 refine(h id hid (VB Ae G w) rfl rfl rfl rfl rfl (AoG hw) vs hpw).mono fun e w' hq=> ?_
 cases e with
 | returned x=>
  obtain⟨own',po⟩:=hq
  refine⟨?_,⟨po.os,po.tape,po.output,po.size,fun b hb=>po.keep b hb rfl⟩⟩
  have:=po.res
  cases this with
  | sc _=>rfl
 | panicked _=>exact hq.elim
 | outgrown=>exact hq.elim
theorem AHV {G:Gl} {w w':World} (hw:∀b,G b->b<w.heap.size/\w.heap[b]? =G.is b) (h:Below w.heap.size w w'):∀b,G b->b<w'.heap.size/\w'.heap[b]? =G.is b:=fun b hb=>
 ⟨Nat.lt_of_lt_of_le (hw b hb).1 h.size,by rw[h.block b (hw b hb).1];exact(hw b hb).2⟩
end Go.Eng
namespace Go.Proofs
open Go.Shelf
def Tryz.Yb:Go.Shelf.Ren:=⟨fun | 156=>112 | 165=>209 | 166=>210 | 169=>211 | 240=>302 | 241=>303 | 276=>369 | 277=>370 | n=>n,fun | 31=>53 | 9=>9 | 3=>3 | 4=>4 | 0=>0 | 20=>20 | 72=>207 | 76=>211 | 70=>205 | 37=>22 | 75=>210 | 127=>266 | 164=>307 | 5=>5 | 80=>213 | n=>n,fun | n=>n⟩
theorem Tryz.Ajs:Go.Proofs.Lays.n156 Tryz.prog Tryz.Yb:={
 mixed:=by kernel_rfl
 f156:=Tryz.func112.trans (congrArg some (by kernel_rfl))
 f165:=Tryz.func209.trans (congrArg some (by kernel_rfl))
 f166:=Tryz.func210.trans (congrArg some (by kernel_rfl))
 f169:=Tryz.func211.trans (congrArg some (by kernel_rfl))
 f240:=Tryz.func302.trans (congrArg some (by kernel_rfl))
 f241:=Tryz.func303.trans (congrArg some (by kernel_rfl))
 f276:=Tryz.func369.trans (congrArg some (by kernel_rfl))
 f277:=Tryz.func370.trans (congrArg some (by kernel_rfl))
 t0:=Tryz.underlying0
 a0:=Tryz.isAgg0
 z0:=Tryz.sizeOf0
 v0:=Tryz.zeroValue0
 t3:=Tryz.underlying3
 a3:=Tryz.isAgg3
 z3:=Tryz.sizeOf3
 v3:=Tryz.zeroValue3
 t4:=Tryz.underlying4
 a4:=Tryz.isAgg4
 z4:=Tryz.sizeOf4
 v4:=Tryz.zeroValue4
 t9:=Tryz.underlying9
 a9:=Tryz.isAgg9
 z9:=Tryz.sizeOf9
 v9:=Tryz.zeroValue9
 t20:=Tryz.underlying20
 a20:=Tryz.isAgg20
 z20:=Tryz.sizeOf20
 v20:=Tryz.zeroValue20
 t31:=Tryz.underlying53
 a31:=Tryz.isAgg53
 z31:=Tryz.sizeOf53
 v31:=Tryz.zeroValue53
 t37:=Tryz.underlying22
 a37:=Tryz.isAgg22
 z37:=Tryz.sizeOf22
 v37:=Tryz.zeroValue22
 t70:=Tryz.underlying205
 a70:=Tryz.isAgg205
 z70:=Tryz.sizeOf205
 v70:=Tryz.zeroValue205
 t72:=Tryz.underlying207
 a72:=Tryz.isAgg207
 z72:=Tryz.sizeOf207
 v72:=Tryz.zeroValue207
 t75:=Tryz.underlying210
 a75:=Tryz.isAgg210
 z75:=Tryz.sizeOf210
 v75:=Tryz.zeroValue210
 t76:=Tryz.underlying211
 a76:=Tryz.isAgg211
 z76:=Tryz.sizeOf211
 v76:=Tryz.zeroValue211
 t127:=Tryz.underlying266
 a127:=Tryz.isAgg266
 z127:=Tryz.sizeOf266
 v127:=Tryz.zeroValue266
 t164:=Tryz.underlying307
 a164:=Tryz.isAgg307
 z164:=Tryz.sizeOf307
 v164:=Tryz.zeroValue307}
theorem Tryz.MQ:Builder.Extra Tryz.prog Tryz.Yb:={
 sizeBuilder:=by kernel_rfl
 liesBuilder:=by kernel_rfl
 t5:=Tryz.underlying5
 a5:=Tryz.isAgg5
 z5:=Tryz.sizeOf5
 v5:=Tryz.zeroValue5
 infoByte:=by kernel_rfl
 cellsByte:=by kernel_rfl
 sizeByte:=by kernel_rfl
 neB5:=by decide}
open Go.RowKit in
theorem Tryz.strings_Join_none (a:Option Addr) (c:Nat) (sep:ByteArray) (w:World):
 Calls Tryz.prog 112 #[.slice a 0 c,.string sep] w fun e w'=>e= .returned (.string ⟨#[]⟩)/\w' =w:=Any.strings_Join_none Tryz.Ajs Tryz.MQ a c sep w
open Go.RowKit in
theorem Tryz.strings_Join (bk o c:Nat) (xs:List ByteArray) (sep:ByteArray) (w:World) (hcells:∀(j:Nat) x,xs[j]? =some x->w.cell? ⟨bk,o+j,none⟩=some (.string x)) (hbk:bk<w.heap.size) (hN:xs.length<=140737488355328) (hcap:xs.length<=c) (hlen:(Lib.join (xs.map (·.data.toList)) sep.data.toList).length<=140737488355328):
 Calls Tryz.prog 112 #[.slice (some ⟨bk,o,none⟩) xs.length c,.string sep] w fun e w'=>e= .returned (.string ⟨(Lib.join (xs.map (·.data.toList)) sep.data.toList).toArray⟩)/\Below w.heap.size w w':=Any.strings_Join Tryz.Ajs Tryz.MQ bk o c xs sep w hcells hbk hN hcap hlen
def Tryz.AeU:Go.Shelf.Ren:=⟨fun | 171=>111 | 243=>208 | 246=>301 | 283=>365 | 284=>366 | 285=>367 | 286=>368 | 129=>405 | 317=>420 | 318=>421 | 319=>422 | 320=>423 | 337=>452 | 338=>453 | n=>n,fun | 3=>3 | 9=>9 | 2=>2 | 4=>4 | 171=>301 | 0=>0 | 53=>302 | 37=>22 | 5=>5 | 173=>305 | 212=>338 | 51=>331 | 20=>20 | 213=>339 | 46=>239 | 232=>374 | 233=>375 | n=>n,fun | 17=>1 | 18=>6 | 19=>7 | n=>n⟩
theorem Tryz.AmJ:Go.Proofs.LaysM.n171 Tryz.prog Tryz.AeU:={
 mixed:=by kernel_rfl
 f129:=Tryz.func405.trans (congrArg some (by kernel_rfl))
 f171:=Tryz.func111.trans (congrArg some (by kernel_rfl))
 f243:=Tryz.func208.trans (congrArg some (by kernel_rfl))
 f246:=Tryz.func301.trans (congrArg some (by kernel_rfl))
 f283:=Tryz.func365.trans (congrArg some (by kernel_rfl))
 f284:=Tryz.func366.trans (congrArg some (by kernel_rfl))
 f285:=Tryz.func367.trans (congrArg some (by kernel_rfl))
 f286:=Tryz.func368.trans (congrArg some (by kernel_rfl))
 f317:=Tryz.func420.trans (congrArg some (by kernel_rfl))
 f318:=Tryz.func421.trans (congrArg some (by kernel_rfl))
 f319:=Tryz.func422.trans (congrArg some (by kernel_rfl))
 f320:=Tryz.func423.trans (congrArg some (by kernel_rfl))
 f337:=Tryz.func452.trans (congrArg some (by kernel_rfl))
 f338:=Tryz.func453.trans (congrArg some (by kernel_rfl))
 t0:=Tryz.underlying0
 a0:=Tryz.isAgg0
 z0:=Tryz.sizeOf0
 v0:=Tryz.zeroValue0
 t2:=Tryz.underlying2
 a2:=Tryz.isAgg2
 z2:=Tryz.sizeOf2
 v2:=Tryz.zeroValue2
 t3:=Tryz.underlying3
 a3:=Tryz.isAgg3
 z3:=Tryz.sizeOf3
 v3:=Tryz.zeroValue3
 t4:=Tryz.underlying4
 a4:=Tryz.isAgg4
 z4:=Tryz.sizeOf4
 v4:=Tryz.zeroValue4
 t5:=Tryz.underlying5
 a5:=Tryz.isAgg5
 z5:=Tryz.sizeOf5
 v5:=Tryz.zeroValue5
 t9:=Tryz.underlying9
 a9:=Tryz.isAgg9
 z9:=Tryz.sizeOf9
 v9:=Tryz.zeroValue9
 t20:=Tryz.underlying20
 a20:=Tryz.isAgg20
 z20:=Tryz.sizeOf20
 v20:=Tryz.zeroValue20
 t37:=Tryz.underlying22
 a37:=Tryz.isAgg22
 z37:=Tryz.sizeOf22
 v37:=Tryz.zeroValue22
 t46:=Tryz.underlying239
 a46:=Tryz.isAgg239
 z46:=Tryz.sizeOf239
 v46:=Tryz.zeroValue239
 t51:=Tryz.underlying331
 a51:=Tryz.isAgg331
 z51:=Tryz.sizeOf331
 v51:=Tryz.zeroValue331
 t53:=Tryz.underlying302
 a53:=Tryz.isAgg302
 z53:=Tryz.sizeOf302
 v53:=Tryz.zeroValue302
 t171:=Tryz.underlying301
 a171:=Tryz.isAgg301
 z171:=Tryz.sizeOf301
 v171:=Tryz.zeroValue301
 t173:=Tryz.underlying305
 a173:=Tryz.isAgg305
 z173:=Tryz.sizeOf305
 v173:=Tryz.zeroValue305
 t212:=Tryz.underlying338
 a212:=Tryz.isAgg338
 z212:=Tryz.sizeOf338
 v212:=Tryz.zeroValue338
 t213:=Tryz.underlying339
 a213:=Tryz.isAgg339
 z213:=Tryz.sizeOf339
 t232:=Tryz.underlying374
 a232:=Tryz.isAgg374
 z232:=Tryz.sizeOf374
 v232:=Tryz.zeroValue374
 t233:=Tryz.underlying375
 a233:=Tryz.isAgg375
 z233:=Tryz.sizeOf375
 v233:=Tryz.zeroValue375
 g17:=by kernel_rfl
 g18:=by kernel_rfl
 g19:=by kernel_rfl
 i0:=by kernel_rfl
 i2:=by kernel_rfl
 i3:=by kernel_rfl
 i4:=by kernel_rfl
 i5:=by kernel_rfl
 i9:=by kernel_rfl
 i20:=by kernel_rfl
 i37:=by kernel_rfl
 i46:=by kernel_rfl
 i51:=by kernel_rfl
 i53:=by kernel_rfl
 i171:=by kernel_rfl
 i173:=by kernel_rfl
 i212:=by kernel_rfl
 i232:=by kernel_rfl
 i233:=by kernel_rfl
 m17:=by kernel_rfl
 m18:=by kernel_rfl
 m19:=by kernel_rfl}
open Go.RowKit Go.Sort Go.Lib in
theorem Tryz.strconv_Itoa (n:Int) (h0:-9223372036854775808<=n) (h1:n<=9223372036854775807) (w:World) (htab:Lib.TabIs Tryz.prog w "internal/strconv.uint64pow10" .u64 Lib.pow10Tab):
 Calls Tryz.prog 111 #[.int .i64 n] w fun e w'=>e= .returned (.string ⟨(Lib.itoa n).toArray⟩)/\∃k os,w' =grow (w.drewN k) os:=Any.strconv_Itoa Tryz.AmJ n h0 h1 w htab
def Tryz.AFP:Go.Shelf.Ren:=⟨fun | 172=>222 | 244=>308 | 245=>309 | 247=>376 | 279=>377 | 280=>378 | 281=>379 | 282=>380 | 287=>426 | 316=>427 | 171=>111 | 205=>428 | 321=>454 | 322=>455 | 243=>208 | 246=>301 | 283=>365 | 284=>366 | 285=>367 | 286=>368 | 129=>405 | 317=>420 | 318=>421 | 319=>422 | 320=>423 | 337=>452 | 338=>453 | n=>n,fun | 9=>9 | 3=>3 | 75=>210 | 76=>211 | 4=>4 | 5=>5 | 167=>310 | 37=>22 | 0=>0 | 85=>311 | 2=>2 | 168=>313 | 53=>302 | 175=>346 | 46=>239 | 210=>350 | 127=>266 | 145=>366 | 143=>364 | 21=>21 | 171=>301 | 173=>305 | 212=>338 | 51=>331 | 20=>20 | 213=>339 | 232=>374 | 233=>375 | 80=>213 | n=>n,fun | 15=>4 | 16=>5 | 17=>1 | 18=>6 | 19=>7 | n=>n⟩
theorem Tryz.AD1:Go.Proofs.LaysC.n172 Tryz.prog Tryz.AFP:={
 mixed:=by kernel_rfl
 f129:=Tryz.func405.trans (congrArg some (by kernel_rfl))
 f171:=Tryz.func111.trans (congrArg some (by kernel_rfl))
 f172:=Tryz.func222.trans (congrArg some (by kernel_rfl))
 f205:=Tryz.func428.trans (congrArg some (by kernel_rfl))
 f243:=Tryz.func208.trans (congrArg some (by kernel_rfl))
 f244:=Tryz.func308.trans (congrArg some (by kernel_rfl))
 f245:=Tryz.func309.trans (congrArg some (by kernel_rfl))
 f246:=Tryz.func301.trans (congrArg some (by kernel_rfl))
 f247:=Tryz.func376.trans (congrArg some (by kernel_rfl))
 f279:=Tryz.func377.trans (congrArg some (by kernel_rfl))
 f280:=Tryz.func378.trans (congrArg some (by kernel_rfl))
 f281:=Tryz.func379.trans (congrArg some (by kernel_rfl))
 f282:=Tryz.func380.trans (congrArg some (by kernel_rfl))
 f283:=Tryz.func365.trans (congrArg some (by kernel_rfl))
 f284:=Tryz.func366.trans (congrArg some (by kernel_rfl))
 f285:=Tryz.func367.trans (congrArg some (by kernel_rfl))
 f286:=Tryz.func368.trans (congrArg some (by kernel_rfl))
 f287:=Tryz.func426.trans (congrArg some (by kernel_rfl))
 f316:=Tryz.func427.trans (congrArg some (by kernel_rfl))
 f317:=Tryz.func420.trans (congrArg some (by kernel_rfl))
 f318:=Tryz.func421.trans (congrArg some (by kernel_rfl))
 f319:=Tryz.func422.trans (congrArg some (by kernel_rfl))
 f320:=Tryz.func423.trans (congrArg some (by kernel_rfl))
 f321:=Tryz.func454.trans (congrArg some (by kernel_rfl))
 f322:=Tryz.func455.trans (congrArg some (by kernel_rfl))
 f337:=Tryz.func452.trans (congrArg some (by kernel_rfl))
 f338:=Tryz.func453.trans (congrArg some (by kernel_rfl))
 t0:=Tryz.underlying0
 a0:=Tryz.isAgg0
 z0:=Tryz.sizeOf0
 v0:=Tryz.zeroValue0
 t2:=Tryz.underlying2
 a2:=Tryz.isAgg2
 z2:=Tryz.sizeOf2
 v2:=Tryz.zeroValue2
 t3:=Tryz.underlying3
 a3:=Tryz.isAgg3
 z3:=Tryz.sizeOf3
 v3:=Tryz.zeroValue3
 t4:=Tryz.underlying4
 a4:=Tryz.isAgg4
 z4:=Tryz.sizeOf4
 v4:=Tryz.zeroValue4
 t5:=Tryz.underlying5
 a5:=Tryz.isAgg5
 z5:=Tryz.sizeOf5
 v5:=Tryz.zeroValue5
 t9:=Tryz.underlying9
 a9:=Tryz.isAgg9
 z9:=Tryz.sizeOf9
 v9:=Tryz.zeroValue9
 t20:=Tryz.underlying20
 a20:=Tryz.isAgg20
 z20:=Tryz.sizeOf20
 v20:=Tryz.zeroValue20
 t21:=Tryz.underlying21
 a21:=Tryz.isAgg21
 z21:=Tryz.sizeOf21
 v21:=Tryz.zeroValue21
 t37:=Tryz.underlying22
 a37:=Tryz.isAgg22
 z37:=Tryz.sizeOf22
 v37:=Tryz.zeroValue22
 t46:=Tryz.underlying239
 a46:=Tryz.isAgg239
 z46:=Tryz.sizeOf239
 v46:=Tryz.zeroValue239
 t51:=Tryz.underlying331
 a51:=Tryz.isAgg331
 z51:=Tryz.sizeOf331
 v51:=Tryz.zeroValue331
 t53:=Tryz.underlying302
 a53:=Tryz.isAgg302
 z53:=Tryz.sizeOf302
 v53:=Tryz.zeroValue302
 t75:=Tryz.underlying210
 a75:=Tryz.isAgg210
 z75:=Tryz.sizeOf210
 v75:=Tryz.zeroValue210
 t76:=Tryz.underlying211
 a76:=Tryz.isAgg211
 z76:=Tryz.sizeOf211
 v76:=Tryz.zeroValue211
 t85:=Tryz.underlying311
 a85:=Tryz.isAgg311
 z85:=Tryz.sizeOf311
 v85:=Tryz.zeroValue311
 t127:=Tryz.underlying266
 a127:=Tryz.isAgg266
 z127:=Tryz.sizeOf266
 v127:=Tryz.zeroValue266
 t143:=Tryz.underlying364
 a143:=Tryz.isAgg364
 z143:=Tryz.sizeOf364
 v143:=Tryz.zeroValue364
 t145:=Tryz.underlying366
 a145:=Tryz.isAgg366
 z145:=Tryz.sizeOf366
 v145:=Tryz.zeroValue366
 t167:=Tryz.underlying310
 a167:=Tryz.isAgg310
 z167:=Tryz.sizeOf310
 v167:=Tryz.zeroValue310
 t168:=Tryz.underlying313
 a168:=Tryz.isAgg313
 z168:=Tryz.sizeOf313
 v168:=Tryz.zeroValue313
 t171:=Tryz.underlying301
 a171:=Tryz.isAgg301
 z171:=Tryz.sizeOf301
 v171:=Tryz.zeroValue301
 t173:=Tryz.underlying305
 a173:=Tryz.isAgg305
 z173:=Tryz.sizeOf305
 v173:=Tryz.zeroValue305
 t175:=Tryz.underlying346
 a175:=Tryz.isAgg346
 z175:=Tryz.sizeOf346
 v175:=Tryz.zeroValue346
 t210:=Tryz.underlying350
 a210:=Tryz.isAgg350
 z210:=Tryz.sizeOf350
 v210:=Tryz.zeroValue350
 t212:=Tryz.underlying338
 a212:=Tryz.isAgg338
 z212:=Tryz.sizeOf338
 v212:=Tryz.zeroValue338
 t213:=Tryz.underlying339
 a213:=Tryz.isAgg339
 z213:=Tryz.sizeOf339
 t232:=Tryz.underlying374
 a232:=Tryz.isAgg374
 z232:=Tryz.sizeOf374
 v232:=Tryz.zeroValue374
 t233:=Tryz.underlying375
 a233:=Tryz.isAgg375
 z233:=Tryz.sizeOf375
 v233:=Tryz.zeroValue375
 g15:=by kernel_rfl
 g16:=by kernel_rfl
 g17:=by kernel_rfl
 g18:=by kernel_rfl
 g19:=by kernel_rfl
 t80:=Tryz.underlying213
 a80:=Tryz.isAgg213
 z80:=Tryz.sizeOf213
 v80:=Tryz.zeroValue213
 i0:=by kernel_rfl
 i2:=by kernel_rfl
 i3:=by kernel_rfl
 i4:=by kernel_rfl
 i5:=by kernel_rfl
 i9:=by kernel_rfl
 i20:=by kernel_rfl
 i21:=by kernel_rfl
 i37:=by kernel_rfl
 i46:=by kernel_rfl
 i51:=by kernel_rfl
 i53:=by kernel_rfl
 i75:=by kernel_rfl
 i76:=by kernel_rfl
 i80:=by kernel_rfl
 i85:=by kernel_rfl
 i127:=by kernel_rfl
 i143:=by kernel_rfl
 i145:=by kernel_rfl
 i167:=by kernel_rfl
 i168:=by kernel_rfl
 i171:=by kernel_rfl
 i173:=by kernel_rfl
 i175:=by kernel_rfl
 i210:=by kernel_rfl
 i212:=by kernel_rfl
 i232:=by kernel_rfl
 i233:=by kernel_rfl
 m15:=by kernel_rfl
 m16:=by kernel_rfl
 m17:=by kernel_rfl
 m18:=by kernel_rfl
 m19:=by kernel_rfl
 c0:=by kernel_rfl
 c2:=by kernel_rfl
 c3:=by kernel_rfl
 c4:=by kernel_rfl
 c5:=by kernel_rfl
 c9:=by kernel_rfl
 c20:=by kernel_rfl
 c21:=by kernel_rfl
 c37:=by kernel_rfl
 c46:=by kernel_rfl
 c51:=by kernel_rfl
 c53:=by kernel_rfl
 c75:=by kernel_rfl
 c76:=by kernel_rfl
 c80:=by kernel_rfl
 c85:=by kernel_rfl
 c127:=by kernel_rfl
 c143:=by kernel_rfl
 c145:=by kernel_rfl
 c167:=by kernel_rfl
 c168:=by kernel_rfl
 c171:=by kernel_rfl
 c173:=by kernel_rfl
 c175:=by kernel_rfl
 c210:=by kernel_rfl
 c212:=by kernel_rfl
 c213:=by kernel_rfl
 c232:=by kernel_rfl
 c233:=by kernel_rfl}
def Tryz.AGy:Go.Shelf.Ren:=⟨fun | 189=>243 | 125=>325 | 257=>324 | 128=>404 | 129=>405 | 294=>395 | 295=>396 | 296=>397 | 297=>398 | 298=>399 | 299=>400 | 216=>401 | 300=>402 | 301=>403 | 328=>443 | 329=>444 | 330=>445 | 331=>446 | 332=>447 | 215=>448 | 343=>471 | n=>n,fun | 28=>24 | 3=>3 | 46=>239 | 0=>0 | 51=>331 | 53=>302 | 4=>4 | 183=>325 | 182=>324 | 131=>158 | 5=>5 | 9=>9 | 218=>357 | 222=>361 | 228=>372 | 229=>233 | n=>n,fun | n=>n⟩
theorem Tryz.AID:Go.Proofs.Lays.n189 Tryz.prog Tryz.AGy:={
 mixed:=by kernel_rfl
 f125:=Tryz.func325.trans (congrArg some (by kernel_rfl))
 f128:=Tryz.func404.trans (congrArg some (by kernel_rfl))
 f129:=Tryz.func405.trans (congrArg some (by kernel_rfl))
 f189:=Tryz.func243.trans (congrArg some (by kernel_rfl))
 f215:=Tryz.func448.trans (congrArg some (by kernel_rfl))
 f216:=Tryz.func401.trans (congrArg some (by kernel_rfl))
 f257:=Tryz.func324.trans (congrArg some (by kernel_rfl))
 f294:=Tryz.func395.trans (congrArg some (by kernel_rfl))
 f295:=Tryz.func396.trans (congrArg some (by kernel_rfl))
 f296:=Tryz.func397.trans (congrArg some (by kernel_rfl))
 f297:=Tryz.func398.trans (congrArg some (by kernel_rfl))
 f298:=Tryz.func399.trans (congrArg some (by kernel_rfl))
 f299:=Tryz.func400.trans (congrArg some (by kernel_rfl))
 f300:=Tryz.func402.trans (congrArg some (by kernel_rfl))
 f301:=Tryz.func403.trans (congrArg some (by kernel_rfl))
 f328:=Tryz.func443.trans (congrArg some (by kernel_rfl))
 f329:=Tryz.func444.trans (congrArg some (by kernel_rfl))
 f330:=Tryz.func445.trans (congrArg some (by kernel_rfl))
 f331:=Tryz.func446.trans (congrArg some (by kernel_rfl))
 f332:=Tryz.func447.trans (congrArg some (by kernel_rfl))
 f343:=Tryz.func471.trans (congrArg some (by kernel_rfl))
 t0:=Tryz.underlying0
 a0:=Tryz.isAgg0
 z0:=Tryz.sizeOf0
 v0:=Tryz.zeroValue0
 t3:=Tryz.underlying3
 a3:=Tryz.isAgg3
 z3:=Tryz.sizeOf3
 v3:=Tryz.zeroValue3
 t4:=Tryz.underlying4
 a4:=Tryz.isAgg4
 z4:=Tryz.sizeOf4
 v4:=Tryz.zeroValue4
 t5:=Tryz.underlying5
 a5:=Tryz.isAgg5
 z5:=Tryz.sizeOf5
 v5:=Tryz.zeroValue5
 t9:=Tryz.underlying9
 a9:=Tryz.isAgg9
 z9:=Tryz.sizeOf9
 v9:=Tryz.zeroValue9
 t28:=Tryz.underlying24
 a28:=Tryz.isAgg24
 z28:=Tryz.sizeOf24
 v28:=Tryz.zeroValue24
 t46:=Tryz.underlying239
 a46:=Tryz.isAgg239
 z46:=Tryz.sizeOf239
 v46:=Tryz.zeroValue239
 t51:=Tryz.underlying331
 a51:=Tryz.isAgg331
 z51:=Tryz.sizeOf331
 v51:=Tryz.zeroValue331
 t53:=Tryz.underlying302
 a53:=Tryz.isAgg302
 z53:=Tryz.sizeOf302
 v53:=Tryz.zeroValue302
 t131:=Tryz.underlying158
 a131:=Tryz.isAgg158
 z131:=Tryz.sizeOf158
 v131:=Tryz.zeroValue158
 t182:=Tryz.underlying324
 a182:=Tryz.isAgg324
 z182:=Tryz.sizeOf324
 v182:=Tryz.zeroValue324
 t183:=Tryz.underlying325
 a183:=Tryz.isAgg325
 z183:=Tryz.sizeOf325
 v183:=Tryz.zeroValue325
 t218:=Tryz.underlying357
 a218:=Tryz.isAgg357
 z218:=Tryz.sizeOf357
 v218:=Tryz.zeroValue357
 t222:=Tryz.underlying361
 a222:=Tryz.isAgg361
 z222:=Tryz.sizeOf361
 v222:=Tryz.zeroValue361
 t228:=Tryz.underlying372
 a228:=Tryz.isAgg372
 z228:=Tryz.sizeOf372
 v228:=Tryz.zeroValue372
 t229:=Tryz.underlying233
 a229:=Tryz.isAgg233
 z229:=Tryz.sizeOf233
 v229:=Tryz.zeroValue233}
open Go.Sort Go.RowKit in
theorem Tryz.slices_Sort_int (blk off cap:Nat) (zs:List Int) (w:World) (hH:Holds (Value.int .i64) w blk off zs.toArray) (hblk:blk<w.heap.size) (hsz:zs.length<4611686018427387904):
 Calls Tryz.prog 243 #[.slice (some ⟨blk,off,none⟩) zs.length cap] w fun e w'=>
  e= .returned (.tuple #[])/\∃n os,w' =grow (putRow (Value.int .i64) (Sort.ahead w n) blk off (zs.mergeSort fun x y=>decide (x<=y)).toArray) os:=Any.slices_Sort_int Tryz.AID blk off cap zs w hH hblk hsz
def Tryz.AHn:Go.Shelf.Ren:=⟨fun | 146=>46 | 221=>120 | 268=>218 | 138=>219 | 143=>220 | 195=>304 | 197=>305 | 218=>306 | 219=>307 | 260=>371 | 217=>372 | 225=>373 | 224=>374 | 267=>375 | 266=>424 | 314=>425 | n=>n,fun | 9=>9 | 31=>53 | 3=>3 | 4=>4 | 0=>0 | 105=>268 | 21=>21 | 5=>5 | 46=>239 | 119=>340 | 139=>343 | 138=>342 | 146=>344 | 51=>331 | n=>n,fun | 1=>0 | 3=>2 | 4=>3 | n=>n⟩
theorem Tryz.AKz:Go.Proofs.Lays.n146 Tryz.prog Tryz.AHn:={
 mixed:=by kernel_rfl
 f138:=Tryz.func219.trans (congrArg some (by kernel_rfl))
 f143:=Tryz.func220.trans (congrArg some (by kernel_rfl))
 f146:=Tryz.func46.trans (congrArg some (by kernel_rfl))
 f195:=Tryz.func304.trans (congrArg some (by kernel_rfl))
 f197:=Tryz.func305.trans (congrArg some (by kernel_rfl))
 f217:=Tryz.func372.trans (congrArg some (by kernel_rfl))
 f218:=Tryz.func306.trans (congrArg some (by kernel_rfl))
 f219:=Tryz.func307.trans (congrArg some (by kernel_rfl))
 f221:=Tryz.func120.trans (congrArg some (by kernel_rfl))
 f224:=Tryz.func374.trans (congrArg some (by kernel_rfl))
 f225:=Tryz.func373.trans (congrArg some (by kernel_rfl))
 f260:=Tryz.func371.trans (congrArg some (by kernel_rfl))
 f266:=Tryz.func424.trans (congrArg some (by kernel_rfl))
 f267:=Tryz.func375.trans (congrArg some (by kernel_rfl))
 f268:=Tryz.func218.trans (congrArg some (by kernel_rfl))
 f314:=Tryz.func425.trans (congrArg some (by kernel_rfl))
 t0:=Tryz.underlying0
 a0:=Tryz.isAgg0
 z0:=Tryz.sizeOf0
 v0:=Tryz.zeroValue0
 t3:=Tryz.underlying3
 a3:=Tryz.isAgg3
 z3:=Tryz.sizeOf3
 v3:=Tryz.zeroValue3
 t4:=Tryz.underlying4
 a4:=Tryz.isAgg4
 z4:=Tryz.sizeOf4
 v4:=Tryz.zeroValue4
 t5:=Tryz.underlying5
 a5:=Tryz.isAgg5
 z5:=Tryz.sizeOf5
 v5:=Tryz.zeroValue5
 t9:=Tryz.underlying9
 a9:=Tryz.isAgg9
 z9:=Tryz.sizeOf9
 v9:=Tryz.zeroValue9
 t21:=Tryz.underlying21
 a21:=Tryz.isAgg21
 z21:=Tryz.sizeOf21
 v21:=Tryz.zeroValue21
 t31:=Tryz.underlying53
 a31:=Tryz.isAgg53
 z31:=Tryz.sizeOf53
 v31:=Tryz.zeroValue53
 t46:=Tryz.underlying239
 a46:=Tryz.isAgg239
 z46:=Tryz.sizeOf239
 v46:=Tryz.zeroValue239
 t51:=Tryz.underlying331
 a51:=Tryz.isAgg331
 z51:=Tryz.sizeOf331
 v51:=Tryz.zeroValue331
 t105:=Tryz.underlying268
 a105:=Tryz.isAgg268
 z105:=Tryz.sizeOf268
 v105:=Tryz.zeroValue268
 t119:=Tryz.underlying340
 a119:=Tryz.isAgg340
 z119:=Tryz.sizeOf340
 t138:=Tryz.underlying342
 a138:=Tryz.isAgg342
 z138:=Tryz.sizeOf342
 v138:=Tryz.zeroValue342
 t139:=Tryz.underlying343
 a139:=Tryz.isAgg343
 z139:=Tryz.sizeOf343
 v139:=Tryz.zeroValue343
 t146:=Tryz.underlying344
 a146:=Tryz.isAgg344
 z146:=Tryz.sizeOf344
 v146:=Tryz.zeroValue344
 g1:=by kernel_rfl
 g3:=by kernel_rfl
 g4:=by kernel_rfl}
open Go.RowKit Go.Lib in
theorem Tryz.strings_Split (s sep:ByteArray) (m:Int) (w:World) (hs:s.size<4294967281) (hm:w.cell? ⟨0,0,none⟩=some (.int .i64 m)) (h1:1<=sep.size):
 Calls Tryz.prog 46 #[.string s,.string sep] w fun e w'=>
  e= .returned (.slice (some ⟨w.heap.size,0,none⟩) (Lib.countB s sep+1) (Lib.countB s sep+1))/\w' =w.alloc (.cells ((Lib.splitB sep 0 (Lib.countB s sep) s).map Value.string).toArray 9):=Any.strings_Split Tryz.AKz (by kernel_rfl) s sep m w hs hm h1
def Tryz.AHw:Go.Shelf.Ren:=⟨fun | 113=>468 | n=>n,fun | 28=>24 | 3=>3 | 4=>4 | 9=>9 | 20=>20 | 0=>0 | n=>n,fun | n=>n⟩
theorem Tryz.AKu:Go.Proofs.Lays.n113 Tryz.prog Tryz.AHw:={
 mixed:=by kernel_rfl
 f113:=Tryz.func468.trans (congrArg some (by kernel_rfl))
 t0:=Tryz.underlying0
 a0:=Tryz.isAgg0
 z0:=Tryz.sizeOf0
 v0:=Tryz.zeroValue0
 t3:=Tryz.underlying3
 a3:=Tryz.isAgg3
 z3:=Tryz.sizeOf3
 v3:=Tryz.zeroValue3
 t4:=Tryz.underlying4
 a4:=Tryz.isAgg4
 z4:=Tryz.sizeOf4
 v4:=Tryz.zeroValue4
 t9:=Tryz.underlying9
 a9:=Tryz.isAgg9
 z9:=Tryz.sizeOf9
 v9:=Tryz.zeroValue9
 t20:=Tryz.underlying20
 a20:=Tryz.isAgg20
 z20:=Tryz.sizeOf20
 v20:=Tryz.zeroValue20
 t28:=Tryz.underlying24
 a28:=Tryz.isAgg24
 z28:=Tryz.sizeOf24
 v28:=Tryz.zeroValue24}
open Go.Lib in
theorem Tryz.slices_Max_int (b off n c:Nat) (zs:List Int) (w:World) (hn:0<n) (hz:n<=zs.length) (hbig:n<=9223372036854775807) (hc:∀j,j<zs.length->w.cell? ⟨b,off+j,none⟩=some (.int .i64 (zs.getD j 0))):
 Calls Tryz.prog 468 #[.slice (some ⟨b,off,none⟩) n c] w fun e w'=>e= .returned (.int .i64 (Lib.maxOf (zs.take n)))/\w' =w:=Any.slices_Max_int Tryz.AKu b off n c zs w hn hz hbig hc
def Tryz.AEX:Go.Shelf.Ren:=⟨fun | 15=>440 | n=>n,fun | 22=>24 | 3=>3 | 4=>4 | n=>n,fun | n=>n⟩
theorem Tryz.ABx:Go.Proofs.Lays2.n15 Tryz.prog Tryz.AEX:={
 mixed:=by kernel_rfl
 f15:=Tryz.func440.trans (congrArg some (by kernel_rfl))
 t3:=Tryz.underlying3
 a3:=Tryz.isAgg3
 z3:=Tryz.sizeOf3
 v3:=Tryz.zeroValue3
 t4:=Tryz.underlying4
 a4:=Tryz.isAgg4
 z4:=Tryz.sizeOf4
 v4:=Tryz.zeroValue4
 t22:=Tryz.underlying24
 a22:=Tryz.isAgg24
 z22:=Tryz.sizeOf24
 v22:=Tryz.zeroValue24
 i3:=by kernel_rfl}
open Go.RowKit Go.Lib in
theorem Tryz.slices_Clone_int (b off n c:Nat) (zs:List Int) (w:World) (hz:n<=zs.length) (hbig:n*8<=140737488355328) (hc:∀j,j<zs.length->w.cell? ⟨b,off+j,none⟩=some (.int .i64 (zs.getD j 0))):
 Calls Tryz.prog 440 #[.slice (some ⟨b,off,none⟩) n c] w fun e w'=>∃v',e= .returned v'/\w'.ownsRow w.heap.size 3 1 v' n ((zs.take n).map (Value.int .i64))/\v'≠ .slice none 0 0/\Below w.heap.size w w':=Any.slices_Clone_int Tryz.ABx b off n c zs w hz hbig hc
open Go.RowKit Go.Lib in
theorem Tryz.slices_Clone_int_nil (n c:Nat) (w:World):
 Calls Tryz.prog 440 #[.slice none n c] w fun e w'=>e= .returned (.slice none 0 0)/\w' =w:=Any.slices_Clone_int_nil Tryz.ABx n c w
open Go.RowKit Go.Lib in
theorem Tryz.slices_Clone_int_zero (a:Addr) (c:Nat) (w:World):
 Calls Tryz.prog 440 #[.slice (some a) 0 c] w fun e w'=>∃v',e= .returned v'/\w'.ownsRow w.heap.size 3 1 v' 0 []/\v'≠ .slice none 0 0/\Below w.heap.size w w':=Any.slices_Clone_int_zero Tryz.ABx a c w
def Tryz.AEW:Go.Shelf.Ren:=⟨fun | 20=>244 | n=>n,fun | 22=>24 | 3=>3 | 4=>4 | 0=>0 | n=>n,fun | n=>n⟩
theorem Tryz.AFg:Go.Proofs.Lays2.n20 Tryz.prog Tryz.AEW:={
 mixed:=by kernel_rfl
 f20:=Tryz.func244.trans (congrArg some (by kernel_rfl))
 t0:=Tryz.underlying0
 a0:=Tryz.isAgg0
 z0:=Tryz.sizeOf0
 v0:=Tryz.zeroValue0
 t3:=Tryz.underlying3
 a3:=Tryz.isAgg3
 z3:=Tryz.sizeOf3
 v3:=Tryz.zeroValue3
 t4:=Tryz.underlying4
 a4:=Tryz.isAgg4
 z4:=Tryz.sizeOf4
 v4:=Tryz.zeroValue4
 t22:=Tryz.underlying24
 a22:=Tryz.isAgg24
 z22:=Tryz.sizeOf24
 v22:=Tryz.zeroValue24
 i3:=by kernel_rfl}
open Go.RowKit Go.Lib Go.Sort in
theorem Tryz.slices_Compact_int (blk off cap:Nat) (zs:List Int) (w:World) (hH:Holds (Value.int .i64) w blk off zs.toArray) (hsz:zs.length<=9223372036854775807) (hcap:zs.length<=cap):
 Calls Tryz.prog 244 #[.slice (some ⟨blk,off,none⟩) zs.length cap] w fun e w'=>e= .returned (.slice (some ⟨blk,off,none⟩) (Lib.compact zs).length cap)/\∃q,w' =putRow (Value.int .i64) (Sort.ahead w q) blk off (Lib.compact zs++List.replicate (zs.length-(Lib.compact zs).length) 0).toArray:=Any.slices_Compact_int Tryz.AFg blk off cap zs w hH hsz hcap
open Go.RowKit Go.Lib Go.Sort in
theorem Tryz.slices_Compact_int_empty (a:Option Addr) (cap:Nat) (w:World):
 Calls Tryz.prog 244 #[.slice a 0 cap] w fun e w'=>e= .returned (.slice a 0 cap)/\w' =w:=Any.slices_Compact_int_empty Tryz.AFg a cap w
open Go.RowKit Go.Sort in
theorem Tryz.slices_Sort_int_none (p:Option Addr) (cap:Nat) (w:World):
 Calls Tryz.prog 243 #[.slice p 0 cap] w fun e w'=>e= .returned (.tuple #[])/\w' =w:=Any.slices_Sort_int_none Tryz.AID p cap w
def Tryz.Azj:Go.Shelf.Ren:=⟨fun | 21=>384 | 27=>434 | 28=>435 | 35=>467 | 39=>492 | n=>n,fun | 22=>24 | 3=>3 | 4=>4 | 0=>0 | n=>n,fun | n=>n⟩
theorem Tryz.AyP:Go.Proofs.Lays2.n21 Tryz.prog Tryz.Azj:={
 mixed:=by kernel_rfl
 f21:=Tryz.func384.trans (congrArg some (by kernel_rfl))
 f27:=Tryz.func434.trans (congrArg some (by kernel_rfl))
 f28:=Tryz.func435.trans (congrArg some (by kernel_rfl))
 f35:=Tryz.func467.trans (congrArg some (by kernel_rfl))
 f39:=Tryz.func492.trans (congrArg some (by kernel_rfl))
 t0:=Tryz.underlying0
 a0:=Tryz.isAgg0
 z0:=Tryz.sizeOf0
 v0:=Tryz.zeroValue0
 t3:=Tryz.underlying3
 a3:=Tryz.isAgg3
 z3:=Tryz.sizeOf3
 v3:=Tryz.zeroValue3
 t4:=Tryz.underlying4
 a4:=Tryz.isAgg4
 z4:=Tryz.sizeOf4
 v4:=Tryz.zeroValue4
 t22:=Tryz.underlying24
 a22:=Tryz.isAgg24
 z22:=Tryz.sizeOf24
 v22:=Tryz.zeroValue24
 i3:=by kernel_rfl}
def Tryz.AJU:Go.Shelf.Ren:=⟨fun | 10=>45 | 6=>119 | n=>n,fun | 22=>53 | 23=>9 | 25=>62 | 3=>3 | 4=>4 | 0=>0 | n=>n,fun | n=>n⟩
theorem Tryz.ALS:Go.Proofs.SlLaysH.n10 Tryz.prog Tryz.AJU:={
 mixed:=by kernel_rfl
 f6:=⟨Tryz.f119.name,by decide,Tryz.func119.trans (congrArg some (by kernel_rfl))⟩
 f10:=⟨Tryz.f45.name,by decide,Tryz.func45.trans (congrArg some (by kernel_rfl))⟩
 t0:=Tryz.underlying0
 a0:=Tryz.isAgg0
 z0:=Tryz.sizeOf0
 v0:=Tryz.zeroValue0
 t3:=Tryz.underlying3
 a3:=Tryz.isAgg3
 z3:=Tryz.sizeOf3
 v3:=Tryz.zeroValue3
 t4:=Tryz.underlying4
 a4:=Tryz.isAgg4
 z4:=Tryz.sizeOf4
 v4:=Tryz.zeroValue4
 t22:=Tryz.underlying53
 a22:=Tryz.isAgg53
 z22:=Tryz.sizeOf53
 v22:=Tryz.zeroValue53
 a23:=Tryz.isAgg9
 z23:=Tryz.sizeOf9
 t25:=Tryz.underlying62
 a25:=Tryz.isAgg62
 z25:=Tryz.sizeOf62
 v25:=Tryz.zeroValue62}
end Go.Proofs
namespace Go.Eng.Con
open Go Go.Proofs Go.Shelf Go.RowKit Go.Lib Go.Sort Go.Eng
set_option maxRecDepth 100000
theorem tr {w w1 w2:World} (h:Below w.heap.size w w1) (h2:Below w1.heap.size w1 w2):Below w.heap.size w w2:=h.trans (h2.mono h.size)
theorem strike (x:ByteArray) (W:World):FnGives Tryz.prog 47 #[] #[.string x] (.bool (decide (x=ByteArray.empty))) W:=by
 show Calls Tryz.prog 47 #[.string x] W _
 go_enter Tryz.func47,Tryz.ntmps47
 go_wp2
 have e:x.toList.isEmpty=decide (x=ByteArray.empty):=by
  rw[ByteArray.toList_eq]
  by_cases h:x=ByteArray.empty
  ·rw[h];rfl
  ·rw[decide_eq_false h]
   cases hl:x.data.toList with
   | nil=>exact absurd (Go.WideShapes.bytes_inj hl) h
   | cons _ _=>rfl
 rw[<-e]
 all_goals (go_ret;exact⟨rfl,0,rfl⟩)
theorem del (blk off cap:Nat) (d:Array ByteArray) (w:World) (hH:Holds Value.string w blk off d) (hs:d.size<=9223372036854775807) (hc:d.size<=cap):
 Calls Tryz.prog 45 #[.slice (some ⟨blk,off,none⟩) d.size cap,.func (.func 47) #[] #[]] w fun e w'=>e= .returned (.slice (some ⟨blk,off,none⟩) (d.toList.filter fun x=> !decide (x=ByteArray.empty)).length cap)/\
  ∃q,w' =putRow Value.string (Sort.ahead w q) blk off ((d.toList.filter fun x=> !decide (x=ByteArray.empty))++List.replicate (d.size-(d.toList.filter fun x=> !decide (x=ByteArray.empty)).length) ByteArray.empty).toArray:=by
 have eg:∀args w,(callFunc 47 args).run Tryz.prog w= .ok (.enter 47 args) w:=enters_of Tryz.func47 (by kernel_rfl) rfl
 exact AnyE.slices_DeleteFunc Tryz.ALS Value.string (fun _=>rfl) (fun x=>decide (x=ByteArray.empty)) 47 #[] eg ByteArray.empty Tryz.zeroValue9 blk off cap d w (fun W x _=>strike x W) (fun n os dk x _=>strike x _) hH hs hc
set_option maxHeartbeats 4000000 in
theorem parse {Gw:World->Prop} (hG:∀w w',Gw w->Below w.heap.size w w'->Gw w') (hR:∀n:Int,∀w,Gw w-> -9223372036854775808<=n->n<=9223372036854775807->Calls Tryz.prog 66 #[.int .i64 n,.int .i64 0,.int .i64 1000000000000] w fun e w'=>e= .returned (.bool (decide (0<=n)&&decide (n<=1000000000000)))/\Below w.heap.size w w')
 (hF:∀n:Int,∀w,Gw w-> -9223372036854775808<=n->n<=9223372036854775807->Calls Tryz.prog 37 #[.int .i64 n] w fun e w'=>e= .returned (.string (T.Ww (itoa n)))/\Below w.heap.size w w')
 (hv:∀w,Gw w->∃e0 e1,w.cell? ⟨4,0,none⟩=some e0/\(e0= .nilIface∨∃te pe,e0= .iface te pe)/\w.cell? ⟨5,0,none⟩=some e1/\(e1= .nilIface∨∃te pe,e1= .iface te pe))
 (l:List UInt8) (w:World) (hw:Gw w) (hl:l.length<=4194304):
 Calls Tryz.prog 124 #[.string (T.Ww l)] w fun e w'=>e= .returned (.tuple #[.int .i64 (T.Ave l),.bool (T.AsY l)])/\Below w.heap.size w w':=by
 have hsz:(T.Ww l).size=l.length:=T.ArQ l
 have hdl:(T.Ww l).data.toList=l:=rfl
 obtain⟨e0,e1,h0,he0,h1,he1⟩:=hv w hw
 have hok:∀v,atoiAll l= .ok v->Calls Tryz.prog 222 #[.string (T.Ww l)] w fun e w'=>e= .returned (.tuple #[.int .i64 v,.nilIface])/\Below w.heap.size w w':=fun v h=>
  (Any.strconv_Atoi_ok Tryz.AD1 (T.Ww l) (by omega) v h w).mono fun e w' ⟨he,hw'⟩=>⟨he,by
   rcases hw' with rfl | ⟨t,rfl⟩
   ·exact Below.refl _ _
   ·exact bytesWorld_below _ _ _⟩
 have hbad:(∀v,atoiAll l≠ .ok v)->Calls Tryz.prog 222 #[.string (T.Ww l)] w fun e w'=>∃n tt pp,e= .returned (.tuple #[.int .i64 n,.iface tt pp])/\Below w.heap.size w w':=fun h=>by
  rcases hx:atoiAll l with v | _ | _
  ·exact absurd hx (h v)
  ·exact(Any.strconv_Atoi_syntax Tryz.AD1 (T.Ww l) (by omega) hx e0 w h0 he0).mono fun e w' ⟨N,he,_,_,hb⟩=>⟨_,_,_,he,hb⟩
  ·exact(Any.strconv_Atoi_range Tryz.AD1 (T.Ww l) (by omega) hx e1 w h1 he1).mono fun e w' ⟨N,he,_,_,hb⟩=>⟨_,_,_,he,hb⟩
 have mixed:Tryz.prog.follows .mixedOrders=true:=by kernel_rfl
 by_cases hx:∃v,atoiAll l= .ok v
 ·obtain⟨v,hx⟩:=hx
  have hp:=T.AKE hx
  have hb:=atoiAll_bounds hx
  have hc:=hok v hx
  by_cases hin:0<=v/\v<=1000000000000
  ·have hr:∀w,Gw w->Calls Tryz.prog 66 #[.int .i64 v,.int .i64 0,.int .i64 1000000000000] w fun e w'=>e= .returned (.bool true)/\Below w.heap.size w w':=fun w h=>by
    have:=hR v w h hb.1 hb.2
    rwa [decide_eq_true hin.1,decide_eq_true hin.2]at this
   have hf:=fun w h=>hF v w h hb.1 hb.2
   by_cases he:itoa v=l
   ·rw[if_pos ⟨hin.1,hin.2,he⟩]at hp
    rw[show T.Ave l=_ from(congrArg Prod.fst hp).symm,show T.AsY l=_ from(congrArg Prod.snd hp).symm]
    rw[he]at hf
    clear hok hbad hv hR hF hp
    go_enter Tryz.func124,Tryz.ntmps124
    go_wp2_with (first | (go_at_call 222;refine hc.mono ?_;rintro e W1 ⟨rfl,b1⟩) | (go_at_call 66;refine(hr _ (hG _ _ hw b1)).mono ?_;rintro e W2 ⟨rfl,b2⟩) | (go_at_call 37;refine(hf _ (hG _ _ (hG _ _ hw b1) b2)).mono ?_;rintro e W3 ⟨rfl,b3⟩))
    go_ret2
    exact⟨rfl,tr b1 (tr b2 b3)⟩
   ·rw[if_neg (fun h=>he h.2.2)]at hp
    rw[show T.Ave l=_ from(congrArg Prod.fst hp).symm,show T.AsY l=_ from(congrArg Prod.snd hp).symm]
    have hne:(itoa v==l)=false:=beq_eq_false_iff_ne.2 he
    clear hok hbad hv hR hF hp
    go_enter Tryz.func124,Tryz.ntmps124
    go_wp2_with (first | (go_at_call 222;refine hc.mono ?_;rintro e W1 ⟨rfl,b1⟩) | (go_at_call 66;refine(hr _ (hG _ _ hw b1)).mono ?_;rintro e W2 ⟨rfl,b2⟩) | (go_at_call 37;refine(hf _ (hG _ _ (hG _ _ hw b1) b2)).mono ?_;rintro e W3 ⟨rfl,b3⟩))
    all_goals first | (go_ret2;exact⟨rfl,tr b1 (tr b2 b3)⟩) | (rename_i h;rw[hne]at h;cases h)
  ·rw[if_neg (fun h=>hin ⟨h.1,h.2.1⟩)]at hp
   rw[show T.Ave l=_ from(congrArg Prod.fst hp).symm,show T.AsY l=_ from(congrArg Prod.snd hp).symm]
   have hr:∀w,Gw w->Calls Tryz.prog 66 #[.int .i64 v,.int .i64 0,.int .i64 1000000000000] w fun e w'=>e= .returned (.bool false)/\Below w.heap.size w w':=fun w h=>by
    have:=hR v w h hb.1 hb.2
    have e:(decide (0<=v)&&decide (v<=1000000000000))=false:=by simpa using hin
    rwa [e]at this
   clear hok hbad hv hR hF hp
   go_enter Tryz.func124,Tryz.ntmps124
   go_wp2_with (first | (go_at_call 222;refine hc.mono ?_;rintro e W1 ⟨rfl,b1⟩) | (go_at_call 66;refine(hr _ (hG _ _ hw b1)).mono ?_;rintro e W2 ⟨rfl,b2⟩))
   go_ret2
   exact⟨rfl,tr b1 b2⟩
 ·have hp:=T.AKs fun v h=>hx ⟨v,h⟩
  have hc:=hbad fun v h=>hx ⟨v,h⟩
  rw[hp.1,hp.2]
  clear hok hbad hv
  go_enter Tryz.func124,Tryz.ntmps124
  go_wp2_with (go_at_call 222;refine hc.mono ?_;rintro e W1 ⟨n,tt,pp,rfl,hb⟩)
  go_wp2
  go_ret2
  exact⟨rfl,hb⟩
end Go.Eng.Con
