/- Own work: part 17 of the proof of FnViews. -/
import Derived.Test.YtogmkdgkgfhhoaaGreatDoorVEngAL
import Derived.Test.YtogmkdgkgfhhoaaGreatDoorVP11
import Derived.Test.YtogmkdgkgfhhoaaGreatDoorVP15
import Derived.Test.YtogmkdgkgfhhoaaGreatDoorVP16
import Derived.Below
import Derived.Sort.Grow
import Derived.Deep.Draws
import Derived.Lib.LaidTab
import Derived.Shelf.Strings.OnBuilder
import Derived.Shelf.Small.Bits
import Derived.Shelf.Utf8.RuneCount
import Derived.Shelf.Strconv.Atoi
import Derived.Shelf.Strconv.Itoa0
import Derived.Shelf.Strconv.Itoa1
import Derived.Shelf.LaysM
import Derived.Shelf.Strconv.Itoa2
import Derived.Shelf.Strconv.Itoa3
import Derived.Shelf.Strconv.AtoiErrFast
import Derived.Shelf.Strconv.ParseIntEmpty
import Derived.Shelf.Strconv.AtoiFail
import Derived.Shelf.Strconv.Clone
import Derived.Shelf.Strconv.SyntaxError
import Derived.Shelf.LaysC
import Derived.Shelf.Strconv.ToError
import Derived.Shelf.Strconv.Lower
import Derived.Shelf.Strconv.ParseUint10
import Derived.Shelf.Strconv.ParseUint10Empty
import Derived.Shelf.Strconv.ParseUint10Any
import Derived.Shelf.Strconv.ParseInt10
import Derived.Shelf.Strconv.AtoiLong
import Derived.Shelf.Strconv.AtoiInnerAll
import Derived.Shelf.Strconv.RangeError
import Derived.Shelf.Strconv.ToErrorRange
import Derived.Shelf.Strconv.AtoiAll
import Derived.Shelf.Strings.Search1
import Derived.Shelf.Strings.Search2
import Derived.Shelf.Strings.Search3
import Derived.Shelf.Strings.Count
import Derived.Shelf.Strings.Shaped
import Derived.Shelf.Sort.Plain
import Derived.Shelf.Strings.Split
import Derived.Shelf.Strings.SplitShaped
import Derived.Shelf.Unicode.Decode
import Derived.Shelf.Strings.RuneCount
import Derived.Shelf.Strings.Explode
import Derived.Shelf.Bits.Mul64
import Derived.Shelf.Unicode.DecodeSlow
import Derived.Shelf.Unicode.DecodeAny
import Derived.Shelf.Slices.Turned
import Derived.Shelf.Slices.Reverse
import Derived.Ground.Names2Prog
import Derived.Shelf.Slices.Clone
import Derived.Shelf.Slices.CompactI
import Derived.Shelf.Slices.SearchI
import Derived.Shelf.Slices.Cells
import Derived.Shelf.Slices.In.SortNone
import Derived.Ground.SlgnProg
import Derived.Shelf.SlicesE.Equal
import Derived.Shelf.SlicesE.Compact
import Derived.Shelf.SlicesE.Clone
import Derived.Ground.SlgfProg
import Derived.Shelf.SlicesE.IndexFunc
import Derived.Shelf.SlicesE.DeleteFunc
import Derived.Test.YtogmkdgkgfhhoaaGreatDoorProg
set_option linter.unusedSimpArgs false
set_option linter.unusedVariables false
namespace Go.Eng
open Go.Lib Go.RowKit
inductive TP (Ae:Nat->Option FuncId) (w:World):List V->List Value->Prop where
 | nil:TP Ae w [] []
 | sc {v:Value} {azs:List V} {xs:List Value} (h:TP Ae w azs xs):TP Ae w (.sc v::azs) (v::xs)
 | sl {e len:Nat} {cells:List V} {x:Value} {azs:List V} {xs:List Value} (h1:Rd Ae w (· <w.heap.size) (.sl 1 e len cells) x) (h:TP Ae w azs xs):TP Ae w (.sl 1 e len cells::azs) (x::xs)
def Ah4:V->Prop
 | .sc _=>True
 | .sl 1 _ _ _=>True
 | _=>False
theorem Adt {F:Fr} {w:World} {β:Nat->Base} {own:Nat->Option (Nat×List Nat)} {H:Hp} (hw:w=F.w0):∀ {azs:List V} {xs:List Value},(∀a,a∈azs->Ah4 a)->Pw (VR F β own H w) azs xs->TP F.Ae w azs xs
 | [],xs,_,h=>by rw[h.N8];exact .nil
 | a::azs,xs,hp,h=>by
  obtain⟨x,r,rfl,h1,h2⟩:=h.Nf
  have ih:=Adt hw (fun a ha=>hp a (List.mem_cons_of_mem _ ha)) h2
  have ha:=hp a (by simp)
  cases h1 with
  | sc h=>exact .sc ih
  | @rd fl e len cells _ h3 h=>
   match fl,ha,h with
   | 1,_,h=>exact .sl (Rd.move h (fun b hb=>by rw[hw];exact hb.1) (fun _ _=>rfl)) ih
  | _=>exact absurd ha (by simp[Ah4])
theorem AgE {P:Program} {Ae:Nat->Option FuncId} {G:Gl} {g:Nat} {args:List V} {v:Value} (hv:v.oneCell' =true) (hp':∀a,a∈args->Ah4 a)
 (h:∀id,Ae g=some id->∀w:World,(∀b,G b->b<w.heap.size/\w.heap[b]? =G.is b)->∀xs,TP Ae w args xs->Calls P id xs.toArray w fun e w'=>e= .returned v/\Below w.heap.size w w'):Den P Ae G g args [] (.sc v) []:=by
 intro id hid F hF hG hb ht hn inv xs hx
 have hr:=Adt (F:=F) rfl hp' hx
 rw[hF]at hr
 refine(h id hid F.w0 (fun b hb=> ?_) xs hr).mono fun e w' ⟨he,hw⟩=> ?_
 ·have:=inv.glob b (by rw[hG];exact hb)
  exact⟨this.1,by rw[<-hG];exact this.2.2⟩
 ·subst he
  refine⟨F.own0,⟨hw.size,hw.os,hw.tape,hw.output,fun b hb _=>hw.block b hb,fun b p hb=>⟨Nat.lt_of_lt_of_le (inv.ownb b p hb).1 hw.size,fun _=> ?_⟩,.sc hv,hn.symm,fun i o hi=> ?_⟩⟩
  ·rw[hb];simp
  ·simp at hi
theorem below_grow {w:World} {k:Nat} {os:Array Obj}:Below w.heap.size w (Sort.grow (w.drewN k) os):=
 ⟨rfl,rfl,rfl,by simp[Sort.grow,World.drewN],fun b hb=>by simp[Sort.grow,World.drewN,Array.getElem?_append,hb]⟩
theorem AnP {P:Program} {W w:World} {name:String} {k:IntKind} {zs:List Int} {b:Nat} (hg:P.globalNamed name=some b) (h:TabIs P W name k zs) (he:w.heap[b]? =W.heap[b]?):TabIs P w name k zs:=by
 unfold TabIs World.var? at *
 rw[hg]at h⊢
 simp only[Option.bind_some]at h⊢
 rw[he]
 exact h
theorem Agi {P:Program} {W:World} {name:String} {k:IntKind} {zs:List Int} {rest:List (String×DataW Unit)} {g:Nat} {t e:TypeId} {n:Nat} {ps:List MemPlace}
 (hg:P.globalNamed name=some g) (hty:(P.globals[g]?).map (·.type)=some t) (ht:P.underlying t=some (.array n e)) (he:P.underlying e=some (.int k)) (hce:P.cellsOf e=1) (hct:P.cellsOf t=n)
 (h:DataW.LaidVars P W ((name,tabData k zs)::rest) ps):TabIs P W name k zs:=by
 obtain⟨g',t',cs,fuel,p,q,hg',ht',hvar,hd,_,_⟩:=h
 obtain rfl:=Option.some.inj (hg.symm.trans hg')
 obtain rfl:=Option.some.inj (hty.symm.trans ht')
 unfold TabIs
 rw[hvar,<-cells_of_tab ht he hce hct hd]
theorem Amj {P:Program} {W:World} {name:String} {k:IntKind} {zs:List Int} {b:Nat} (hg:P.globalNamed name=some b) (h:TabIs P W name k zs):b<W.heap.size:=by
 unfold TabIs World.var? at h
 rw[hg]at h
 simp only[Option.bind_some]at h
 by_cases hb:b<W.heap.size
 ·exact hb
 ·rw[Array.getElem?_eq_none (by omega)]at h;cases h
end Go.Eng
namespace Go.Eng.T
open Go.Lib Go.RowKit
theorem AmX {P:Program} {Ae:Nat->Option FuncId} {G:Gl} {g k b:Nat} {W:Go.World} (hid:Ae g=some k) (hg:P.globalNamed "internal/strconv.uint64pow10"=some b) (hb:G b) (hW:G.is b=W.heap[b]?)
 (ht:TabIs P W "internal/strconv.uint64pow10" .u64 pow10Tab)
 (hc:∀n:Int, -9223372036854775808<=n->n<=9223372036854775807->∀w:Go.World,TabIs P w "internal/strconv.uint64pow10" .u64 pow10Tab->Calls P k #[.int .i64 n] w fun e w'=>e= .returned (.string ⟨(itoa n).toArray⟩)/\∃j os,w' =Sort.grow (w.drewN j) os):
 EB (Den P Ae G g):=by
 intro n hn
 refine AgE (v:= .string (Ww (itoa n))) rfl (fun a ha=> ?_) ?_
 ·simp only[List.mem_singleton]at ha;subst ha;trivial
 intro id hi w hw xs hx
 rw[hid]at hi
 cases hi
 cases hx with
 | sc h=>
  cases h
  refine(hc n hn.1 hn.2 w (AnP hg ht ?_)).mono fun e w' ⟨he,j,os,hw'⟩=>⟨he,?_⟩
  ·rw[(hw b hb).2,hW]
  ·rw[hw'];exact below_grow
theorem AnU {P:Program} {Ae:Nat->Option FuncId} {G:Gl} {g k:Nat} (hid:Ae g=some k)
 (h0:∀(a:Option Addr) (c:Nat) (sep:ByteArray) (w:Go.World),Calls P k #[.slice a 0 c,.string sep] w fun e w'=>e= .returned (.string ⟨#[]⟩)/\w' =w)
 (hc:∀(bk o c:Nat) (xs:List ByteArray) (sep:ByteArray) (w:Go.World),(∀(j:Nat) x,xs[j]? =some x->w.cell? ⟨bk,o+j,none⟩=some (.string x))->bk<w.heap.size->xs.length<=140737488355328->xs.length<=c->(join (xs.map (·.data.toList)) sep.data.toList).length<=140737488355328->
  Calls P k #[.slice (some ⟨bk,o,none⟩) xs.length c,.string sep] w fun e w'=>e= .returned (.string ⟨(join (xs.map (·.data.toList)) sep.data.toList).toArray⟩)/\Below w.heap.size w w'):
 Ane (Den P Ae G g):=by
 intro ls sep hl hj
 refine AgE (v:= .string (Ww (join ls sep))) rfl (fun a ha=> ?_) ?_
 ·simp only[List.mem_cons,List.not_mem_nil,or_false]at ha
  rcases ha with rfl | rfl<;>trivial
 intro id hi w hw xs hx
 rw[hid]at hi
 cases hi
 cases hx with
 | sl h1 h2=>
  cases h2 with
  | sc h3=>
   cases h3
   cases h1 with
   | @sl _ _ _ _ a cap vs hle hwd hvl hm hcs=>
    have eb:∀l:List UInt8,(Ww l).data.toList=l:=fun l=>rfl
    have em:(ls.map Ww).map (·.data.toList)=ls:=by rw[List.map_map];exact(List.map_congr_left fun l _=>eb l).trans (List.map_id ls)
    have es:(Ww sep).data.toList=sep:=eb sep
    rcases hm with hm | ⟨b,o,rfl,hbk,hr⟩
    ·have:ls=[]:=by
      cases ls with
      | nil=>rfl
      | cons x r=>simp[strs]at hm
     subst this
     refine(h0 a cap (Ww sep) w).mono fun e w' ⟨he,hw'⟩=>⟨?_,by rw[hw'];exact Below.refl _ _⟩
     rw[he,join_nil];rfl
    ·have hvlen:vs.length=ls.length:=by rw[hvl];simp
     have:=hc b o cap (ls.map Ww) (Ww sep) w (fun j x hx=> ?_) hbk (by simp;omega) (by simpa using hle) (by rw[em,es];exact hj)
     ·rw[em,es]at this
      simp only[List.length_map]at this
      exact this
     ·simp only[List.getElem?_map,Option.map_eq_some_iff]at hx
      obtain⟨l,hl',rfl⟩:=hx
      have hj':j<ls.length:=by
       by_cases h:j<ls.length
       ·exact h
       ·rw[List.getElem?_eq_none (by omega)]at hl';cases hl'
      rw[hr.2 j (by omega)]
      have hv:vs[j]? =some vs[j]:=by simp
      rw[hv]
      have hrd:=hcs j (Sb l) vs[j] (by simp[strs,hl']) hv
      generalize vs[j]=y at hrd⊢
      cases hrd with
      | sc _=>rfl
end Go.Eng.T
namespace Go.Proofs
open Go.Shelf
def Tryz.Yb:Go.Shelf.Ren:=⟨fun | 156=>112 | 165=>209 | 166=>210 | 169=>211 | 240=>302 | 241=>303 | 276=>369 | 277=>370 | n=>n,fun | 31=>53 | 9=>9 | 3=>3 | 4=>4 | 0=>0 | 20=>20 | 72=>207 | 76=>211 | 70=>205 | 37=>22 | 75=>210 | 127=>266 | 164=>307 | 5=>5 | 80=>213 | n=>n,fun | n=>n⟩
theorem Tryz.Ajs:Go.Proofs.Lays.n156 Tryz.prog Tryz.Yb:={
 mixed:=by kernel_rfl
 f156:=Tryz.func112.trans (congrArg some (by kernel_rfl))
 f165:=Tryz.func209.trans (congrArg some (by kernel_rfl))
 f166:=Tryz.func210.trans (congrArg some (by kernel_rfl))
 f169:=Tryz.func211.trans (congrArg some (by kernel_rfl))
 f240:=Tryz.func302.trans (congrArg some (by kernel_rfl))
 f241:=Tryz.func303.trans (congrArg some (by kernel_rfl))
 f276:=Tryz.func369.trans (congrArg some (by kernel_rfl))
 f277:=Tryz.func370.trans (congrArg some (by kernel_rfl))
 t0:=Tryz.underlying0
 a0:=Tryz.isAgg0
 z0:=Tryz.sizeOf0
 v0:=Tryz.zeroValue0
 t3:=Tryz.underlying3
 a3:=Tryz.isAgg3
 z3:=Tryz.sizeOf3
 v3:=Tryz.zeroValue3
 t4:=Tryz.underlying4
 a4:=Tryz.isAgg4
 z4:=Tryz.sizeOf4
 v4:=Tryz.zeroValue4
 t9:=Tryz.underlying9
 a9:=Tryz.isAgg9
 z9:=Tryz.sizeOf9
 v9:=Tryz.zeroValue9
 t20:=Tryz.underlying20
 a20:=Tryz.isAgg20
 z20:=Tryz.sizeOf20
 v20:=Tryz.zeroValue20
 t31:=Tryz.underlying53
 a31:=Tryz.isAgg53
 z31:=Tryz.sizeOf53
 v31:=Tryz.zeroValue53
 t37:=Tryz.underlying22
 a37:=Tryz.isAgg22
 z37:=Tryz.sizeOf22
 v37:=Tryz.zeroValue22
 t70:=Tryz.underlying205
 a70:=Tryz.isAgg205
 z70:=Tryz.sizeOf205
 v70:=Tryz.zeroValue205
 t72:=Tryz.underlying207
 a72:=Tryz.isAgg207
 z72:=Tryz.sizeOf207
 v72:=Tryz.zeroValue207
 t75:=Tryz.underlying210
 a75:=Tryz.isAgg210
 z75:=Tryz.sizeOf210
 v75:=Tryz.zeroValue210
 t76:=Tryz.underlying211
 a76:=Tryz.isAgg211
 z76:=Tryz.sizeOf211
 v76:=Tryz.zeroValue211
 t127:=Tryz.underlying266
 a127:=Tryz.isAgg266
 z127:=Tryz.sizeOf266
 v127:=Tryz.zeroValue266
 t164:=Tryz.underlying307
 a164:=Tryz.isAgg307
 z164:=Tryz.sizeOf307
 v164:=Tryz.zeroValue307}
theorem Tryz.MQ:Builder.Extra Tryz.prog Tryz.Yb:={
 sizeBuilder:=by kernel_rfl
 liesBuilder:=by kernel_rfl
 t5:=Tryz.underlying5
 a5:=Tryz.isAgg5
 z5:=Tryz.sizeOf5
 v5:=Tryz.zeroValue5
 infoByte:=by kernel_rfl
 cellsByte:=by kernel_rfl
 sizeByte:=by kernel_rfl
 neB5:=by decide}
open Go.RowKit in
theorem Tryz.strings_Join_none (a:Option Addr) (c:Nat) (sep:ByteArray) (w:World):
 Calls Tryz.prog 112 #[.slice a 0 c,.string sep] w fun e w'=>e= .returned (.string ⟨#[]⟩)/\w' =w:=Any.strings_Join_none Tryz.Ajs Tryz.MQ a c sep w
open Go.RowKit in
theorem Tryz.strings_Join (bk o c:Nat) (xs:List ByteArray) (sep:ByteArray) (w:World) (hcells:∀(j:Nat) x,xs[j]? =some x->w.cell? ⟨bk,o+j,none⟩=some (.string x)) (hbk:bk<w.heap.size) (hN:xs.length<=140737488355328) (hcap:xs.length<=c) (hlen:(Lib.join (xs.map (·.data.toList)) sep.data.toList).length<=140737488355328):
 Calls Tryz.prog 112 #[.slice (some ⟨bk,o,none⟩) xs.length c,.string sep] w fun e w'=>e= .returned (.string ⟨(Lib.join (xs.map (·.data.toList)) sep.data.toList).toArray⟩)/\Below w.heap.size w w':=Any.strings_Join Tryz.Ajs Tryz.MQ bk o c xs sep w hcells hbk hN hcap hlen
def Tryz.AeU:Go.Shelf.Ren:=⟨fun | 171=>111 | 243=>208 | 246=>301 | 283=>365 | 284=>366 | 285=>367 | 286=>368 | 129=>405 | 317=>420 | 318=>421 | 319=>422 | 320=>423 | 337=>452 | 338=>453 | n=>n,fun | 3=>3 | 9=>9 | 2=>2 | 4=>4 | 171=>301 | 0=>0 | 53=>302 | 37=>22 | 5=>5 | 173=>305 | 212=>338 | 51=>331 | 20=>20 | 213=>339 | 46=>239 | 232=>374 | 233=>375 | n=>n,fun | 17=>1 | 18=>6 | 19=>7 | n=>n⟩
theorem Tryz.AmJ:Go.Proofs.LaysM.n171 Tryz.prog Tryz.AeU:={
 mixed:=by kernel_rfl
 f129:=Tryz.func405.trans (congrArg some (by kernel_rfl))
 f171:=Tryz.func111.trans (congrArg some (by kernel_rfl))
 f243:=Tryz.func208.trans (congrArg some (by kernel_rfl))
 f246:=Tryz.func301.trans (congrArg some (by kernel_rfl))
 f283:=Tryz.func365.trans (congrArg some (by kernel_rfl))
 f284:=Tryz.func366.trans (congrArg some (by kernel_rfl))
 f285:=Tryz.func367.trans (congrArg some (by kernel_rfl))
 f286:=Tryz.func368.trans (congrArg some (by kernel_rfl))
 f317:=Tryz.func420.trans (congrArg some (by kernel_rfl))
 f318:=Tryz.func421.trans (congrArg some (by kernel_rfl))
 f319:=Tryz.func422.trans (congrArg some (by kernel_rfl))
 f320:=Tryz.func423.trans (congrArg some (by kernel_rfl))
 f337:=Tryz.func452.trans (congrArg some (by kernel_rfl))
 f338:=Tryz.func453.trans (congrArg some (by kernel_rfl))
 t0:=Tryz.underlying0
 a0:=Tryz.isAgg0
 z0:=Tryz.sizeOf0
 v0:=Tryz.zeroValue0
 t2:=Tryz.underlying2
 a2:=Tryz.isAgg2
 z2:=Tryz.sizeOf2
 v2:=Tryz.zeroValue2
 t3:=Tryz.underlying3
 a3:=Tryz.isAgg3
 z3:=Tryz.sizeOf3
 v3:=Tryz.zeroValue3
 t4:=Tryz.underlying4
 a4:=Tryz.isAgg4
 z4:=Tryz.sizeOf4
 v4:=Tryz.zeroValue4
 t5:=Tryz.underlying5
 a5:=Tryz.isAgg5
 z5:=Tryz.sizeOf5
 v5:=Tryz.zeroValue5
 t9:=Tryz.underlying9
 a9:=Tryz.isAgg9
 z9:=Tryz.sizeOf9
 v9:=Tryz.zeroValue9
 t20:=Tryz.underlying20
 a20:=Tryz.isAgg20
 z20:=Tryz.sizeOf20
 v20:=Tryz.zeroValue20
 t37:=Tryz.underlying22
 a37:=Tryz.isAgg22
 z37:=Tryz.sizeOf22
 v37:=Tryz.zeroValue22
 t46:=Tryz.underlying239
 a46:=Tryz.isAgg239
 z46:=Tryz.sizeOf239
 v46:=Tryz.zeroValue239
 t51:=Tryz.underlying331
 a51:=Tryz.isAgg331
 z51:=Tryz.sizeOf331
 v51:=Tryz.zeroValue331
 t53:=Tryz.underlying302
 a53:=Tryz.isAgg302
 z53:=Tryz.sizeOf302
 v53:=Tryz.zeroValue302
 t171:=Tryz.underlying301
 a171:=Tryz.isAgg301
 z171:=Tryz.sizeOf301
 v171:=Tryz.zeroValue301
 t173:=Tryz.underlying305
 a173:=Tryz.isAgg305
 z173:=Tryz.sizeOf305
 v173:=Tryz.zeroValue305
 t212:=Tryz.underlying338
 a212:=Tryz.isAgg338
 z212:=Tryz.sizeOf338
 v212:=Tryz.zeroValue338
 t213:=Tryz.underlying339
 a213:=Tryz.isAgg339
 z213:=Tryz.sizeOf339
 t232:=Tryz.underlying374
 a232:=Tryz.isAgg374
 z232:=Tryz.sizeOf374
 v232:=Tryz.zeroValue374
 t233:=Tryz.underlying375
 a233:=Tryz.isAgg375
 z233:=Tryz.sizeOf375
 v233:=Tryz.zeroValue375
 g17:=by kernel_rfl
 g18:=by kernel_rfl
 g19:=by kernel_rfl
 i0:=by kernel_rfl
 i2:=by kernel_rfl
 i3:=by kernel_rfl
 i4:=by kernel_rfl
 i5:=by kernel_rfl
 i9:=by kernel_rfl
 i20:=by kernel_rfl
 i37:=by kernel_rfl
 i46:=by kernel_rfl
 i51:=by kernel_rfl
 i53:=by kernel_rfl
 i171:=by kernel_rfl
 i173:=by kernel_rfl
 i212:=by kernel_rfl
 i232:=by kernel_rfl
 i233:=by kernel_rfl
 m17:=by kernel_rfl
 m18:=by kernel_rfl
 m19:=by kernel_rfl}
open Go.RowKit Go.Sort Go.Lib in
theorem Tryz.strconv_Itoa (n:Int) (h0:-9223372036854775808<=n) (h1:n<=9223372036854775807) (w:World) (htab:Lib.TabIs Tryz.prog w "internal/strconv.uint64pow10" .u64 Lib.pow10Tab):
 Calls Tryz.prog 111 #[.int .i64 n] w fun e w'=>e= .returned (.string ⟨(Lib.itoa n).toArray⟩)/\∃k os,w' =grow (w.drewN k) os:=Any.strconv_Itoa Tryz.AmJ n h0 h1 w htab
end Go.Proofs
namespace Go.Eng.T
theorem ArO {cs:List V} (h:Dat (.int .u8) cs):∃n:Int,cs=[V.sc (.int .u8 n)]/\(0<=n/\n<=255):=by
 simp only[Dat]at h
 obtain⟨n,h1,h2⟩:=h
 simp only[Lit.wf,IntKind.min,IntKind.max,IntKind.bits,IntKind.signed,Bool.and_eq_true,decide_eq_true_eq]at h1
 exact⟨n,h2,by simpa using h1.1,by simpa using h1.2⟩
theorem Asx {avs:List V} (h:AbC avs):∃bs:List Int,(bs.length<=maxLen/\∀b,b∈bs->0<=b/\b<=255)/\avs=[.sl 3 1 bs.length (u8s bs)]:=by
 obtain⟨c,hd,rfl⟩:=h
 obtain⟨ds,h1,h2,h3⟩:=AqT (f:=fun n=> [V.sc (.int .u8 n)]) (p:=fun n:Int=>0<=n/\n<=255) (fun cs h=>ArO h) hd
 refine⟨ds,⟨h2,h3⟩,?_⟩
 have e:ds.flatMap (fun n=> [V.sc (.int .u8 n)])=u8s ds:=by
  clear h1 h2 h3
  induction ds with
  | nil=>rfl
  | cons a ds ih=>rw[List.flatMap_cons,ih];rfl
 rw[e]at h1
 have h4:c= .sl 0 (Ty.int IntKind.u8).cells ds.length (u8s ds):=by simpa using h1
 rw[h4]
 rfl
theorem DJ {R R':Rel} (h:∀a gi r o,R a gi r o->R' a gi r o) {args:List V} {c:QM} {α:Type} {P:α->Prop} {res:α->V} (hd:JA R args c P res):JA R' args c P res:=by
 obtain⟨a,c',h1,h2,h3⟩:=hd
 exact⟨a,c',h1,h2,h _ _ _ _ h3⟩
theorem J7 {R R':Rel} (h:∀a gi r o,R a gi r o->R' a gi r o) {bs:List Int} {α:Type} {P:α->Prop} {res:α->V} (hd:Rp R bs P res):Rp R' bs P res:=by
 obtain⟨a,h1,h3⟩:=hd
 exact⟨a,h1,h _ _ _ _ h3⟩
theorem ApJ {R R':Rel} (h:∀a gi r o,R a gi r o->R' a gi r o) {args:List V} (hd:∃c:QM,Dw c/\R args [] (.rptr 0 (AL c) 0) []):∃c:QM,Dw c/\R' args [] (.rptr 0 (AL c) 0) []:=by
 obtain⟨c,h1,h3⟩:=hd
 exact⟨c,h1,h _ _ _ _ h3⟩
end Go.Eng.T
