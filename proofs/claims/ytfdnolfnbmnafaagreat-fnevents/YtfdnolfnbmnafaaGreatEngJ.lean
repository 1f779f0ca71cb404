/- Own work: part 10 of the proof of FnEvents. -/
import Derived.Test.YtfdnolfnbmnafaaGreatEngI
import Derived.Laws.IdiomStrings
set_option linter.unusedSimpArgs false
set_option linter.unusedVariables false
namespace Go.Eng
section
variable {P:Program} {F:Fr} {β:Nat→Base} {own:Nat→Option (Nat×List Nat)} {H:Hp} {w w':World}
theorem Aoz {isS:Bool} {len cap:Nat} {lo hi:Option Value} {l:Int} {h:Option Int} (hl:match lo with | none=>l=0 | some v=>∃k,v= .int k l)
 (hh:match hi,h with | none,none=>True | some v,some h=>∃k,v= .int k h | _,_=>False) (hlc:len≤cap) (h0:0≤l) (h1:l≤h.getD len) (h2:h.getD (len:Int)≤len):
 (Instr.sliceBounds isS len cap lo hi none).run P w= .ok (l.toNat,(h.getD len).toNat,cap) w:=by
 have hhi:∀(k:IntKind) (c:Instr.sliceBound (.int k (h.getD len))=Instr.sliceBound (.int k (h.getD len))),0≤h.getD (len:Int):=fun _ _=>by omega
 have e1:(((h.getD (len:Int)).toNat:Nat):Int)=h.getD len:=Int.toNat_of_nonneg (by omega)
 cases hi with
 | none=>
  cases h with
  | some _=>exact hh.elim
  | none=>
   simp only[Option.getD_none]at *
   cases lo with
   | none=>simp only at hl;subst hl;simp[Instr.sliceBounds]
   | some v=>
    obtain⟨k,rfl⟩:=hl
    simp only[Instr.sliceBounds,Sem.run_bind,Sem.run_pure,Result.andThen_ok]
    rw[run_sliceBound w k l len _ h0 h1]
    simp
 | some hv=>
  cases h with
  | none=>exact hh.elim
  | some h=>
   obtain⟨kh,rfl⟩:=hh
   simp only[Option.getD_some]at *
   cases lo with
   | none=>
    simp only at hl;subst hl
    simp only[Instr.sliceBounds,Sem.run_bind,Sem.run_pure,Result.andThen_ok]
    rw[run_sliceBound w kh h cap _ (by omega) (by omega)]
    simp
   | some v=>
    obtain⟨k,rfl⟩:=hl
    simp only[Instr.sliceBounds,Sem.run_bind,Sem.run_pure,Result.andThen_ok]
    rw[run_sliceBound w kh h cap _ (by omega) (by omega)]
    simp only[Result.andThen_ok]
    rw[run_sliceBound w k l h.toNat _ h0 (by omega)]
    simp
theorem Rq {l:Int} {h:Option Int} {n a b:Nat} (hb:bounds (some l) h n=some (a,b)):0≤l∧l≤h.getD n∧h.getD (n:Int)≤n∧a=l.toNat∧b=(h.getD n).toNat∧a≤b∧b≤n:=by
 unfold bounds at hb
 simp only at hb
 split at hb
 ·rename_i hc
  cases hb
  exact⟨hc.1,hc.2.1,hc.2.2,rfl,rfl,by omega,by omega⟩
 ·cases hb
def AOA (P:Program) (t:TypeId):Bool:=
 match P.underlying t with
 | some (.slice _)=>true
 | some .string=>true
 | _=>false
theorem Va {α:Type} (cs:List α) (e off len n:Nat) (hn:cs.length=n*e) (h:off+len≤n):((cs.drop (off*e)).take (len*e)).length=len*e:=by
 have h1:len*e≤(n-off)*e:=Nat.mul_le_mul_right _ (by omega)
 rw[Nat.sub_mul]at h1
 simp only[List.length_take,List.length_drop]
 omega
theorem AnO {b o off n:Nat} {vs:List Value} (h:Rds w b o vs):Rds w b (o+off) ((vs.drop off).take n):=by
 refine⟨Aoj h.1 off n,?_⟩
 intro i hi
 simp at hi
 rw[Ie,if_pos (by omega),Nat.add_assoc]
 exact h.2 (off+i) (by omega)
theorem Rd.seg {Ah:Nat→Option FuncId} {Q:Nat→Prop} {fl e len a b:Nat} {cs:List V} {x:Value} (h:Rd Ah w Q (.sl fl e len cs) x) (hab:a≤b) (hb:b≤len):
 ∃ad cap,x= .slice ad len cap∧Rd Ah w Q (.sl fl e (b-a) (Go.Eng.part cs e a (b-a))) (sliced ad a b cap e):=by
 cases h with
 | @sl _ _ _ _ ad cap vs hl hw hv hm hc=>
  refine⟨ad,cap,rfl,?_⟩
  have hlen:(Go.Eng.part cs e a (b-a)).length=(b-a)*e:=Va cs e a (b-a) len hw (by omega)
  unfold sliced
  refine .sl (vs:=(vs.drop (a*e)).take ((b-a)*e)) (by omega) hlen (by rw[hlen];rw[Va vs e a (b-a) len (by omega) (by omega)]) ?_ ?_
  ·rcases hm with hm | ⟨bl,o,rfl,hP,hr⟩
   ·left;subst hm;simp[Go.Eng.part]
   ·by_cases hca:cap=a
    ·left
     have:b-a=0:=by omega
     simp[Go.Eng.part,this]
    ·right
     rw[if_neg hca]
     exact⟨bl,o+a*e,by simp[Q7],hP,AnO hr⟩
  ·intro i v y hv hy
   unfold Go.Eng.part at hv
   rw[Ie]at hv hy
   split at hy
   ·rename_i hi;rw[if_pos hi]at hv;exact hc _ _ _ hv hy
   ·cases hy
theorem AIF {Hm:Hp} (inv:Inv F β own H w) (hm:∀k,Hm k=H k∨Hm k= .dead) {t:TypeId} {e:Nat} {a:Value} {va v:V}
 (ht:(∃s,va= .sc (.string s))→P.underlying t=some .string) (ht2:(¬∃s,va= .sc (.string s))→slB P t e=true)
 {lo hi:Option Value} {l:Int} {h:Option Int} (hl:match lo with | none=>l=0 | some v=>∃k,v= .int k l)
 (hh:match hi,h with | none,none=>True | some v,some h=>∃k,v= .int k h | _,_=>False)
 (ha:VR F β own H w va a) (hs:OO Hm e va (some l) h=some v):∃x,(Instr.sliceAt t a lo hi none).run P w= .ok x w∧VR F β own H w v x:=by
 have key:∀(ad:Option Addr) (len cap a b:Nat),slB P t e=true→len≤cap→bounds (some l) h len=some (a,b)→
  (Instr.sliceAt t (.slice ad len cap) lo hi none).run P w= .ok (sliced ad a b cap e) w:=by
  intro ad len cap a b hsl hlc hb
  obtain⟨et,hu,hsz,_⟩:=Xy hsl
  obtain⟨b1,b2,b3,rfl,rfl,_,_⟩:=Rq hb
  simp only[Instr.sliceAt,Sem.run_bind,run_underlying hu,Result.andThen_ok,Instr.slice,Aoz (P:=P) (w:=w) hl hh hlc b1 b2 b3,Hf hsz,Sem.run_pure,sliced]
 cases va with
 | sc u=>
  cases u with
  | string s=>
   have:=Pz ha;subst this
   have hu:=ht ⟨s,rfl⟩
   simp only[OO]at hs
   cases hb:bounds (some l) h s.size with
   | none=>simp[hb]at hs
   | some p=>
    obtain⟨p,q⟩:=p
    simp[hb]at hs;subst hs
    obtain⟨b1,b2,b3,rfl,rfl,_,_⟩:=Rq hb
    refine⟨_,?_,.sc rfl⟩
    simp only[Instr.sliceAt,Sem.run_bind,run_underlying hu,Result.andThen_ok,Instr.slice,Aoz (P:=P) (w:=w) hl hh (Nat.le_refl _) b1 b2 b3,Sem.run_pure,Option.isSome_none,Bool.false_eq_true,
     if_false]
  | _=>simp[OO]at hs
 | sl fl e' len cs=>
  have hsl:=ht2 (by simp)
  cases fl with
  | zero=>simp[OO]at hs
  | succ fl=>
   simp only[OO]at hs
   cases hb:bounds (some l) h len with
   | none=>simp[hb]at hs
   | some p=>
    obtain⟨p,q⟩:=p
    simp only[hb]at hs
    split at hs
    ·rename_i hee;subst hee
     cases hs
     cases ha with
     | rd h1 hr=>
      obtain⟨_,_,_,_,_,b5,b6⟩:=Rq hb
      have hlc:∃ad cap,a= .slice ad len cap∧len≤cap:=by cases hr;exact⟨_,_,rfl,‹_›⟩
      obtain⟨ad,cap,hx,hr'⟩:=hr.seg b5 b6
      obtain⟨ad',cap',hx',hle⟩:=hlc
      rw[hx]at hx';cases hx'
      subst hx
      exact⟨_,key ad len cap p q hsl hle hb,.rd h1 hr'⟩
    ·cases hs
 | arr k=>
  have hsl:=ht2 (by simp)
  simp only[OO]at hs
  cases hk:Al (Hm k)with
  | none=>simp[hk]at hs
  | some r=>
   obtain⟨e',t',len,cs⟩:=r
   simp only[hk]at hs
   cases hb:bounds (some l) h len with
   | none=>simp[hb]at hs
   | some p=>
    obtain⟨p,q⟩:=p
    simp only[hb]at hs
    split at hs
    ·rename_i hee;subst hee
     cases hs
     have hk':=IY hm hk
     rw[IW ha hk']
     obtain⟨vs,g1,g2,g3,g4,g5⟩:=Nj inv hk'
     obtain⟨_,_,_,_,_,b5,b6⟩:=Rq hb
     refine⟨_,key _ len _ p q hsl g3.1 hb,.sub hk' (by omega) ?_⟩
     unfold sliced
     refine⟨_,rfl,by omega,?_⟩
     by_cases hc:(β k).cap=p
     ·left;omega
     ·right;rw[if_neg hc]
    ·cases hs
 | sub k off len=>
  have hsl:=ht2 (by simp)
  simp only[OO]at hs
  cases hk:Al (Hm k)with
  | none=>simp[hk]at hs
  | some r=>
   obtain⟨e',t',n,cs⟩:=r
   simp only[hk]at hs
   cases hb:bounds (some l) h len with
   | none=>simp[hb]at hs
   | some p=>
    obtain⟨p,q⟩:=p
    simp only[hb]at hs
    split at hs
    ·rename_i hee;subst hee
     cases hs
     have hk':=IY hm hk
     obtain⟨hn,a',rfl,hx1,hx2⟩:=QW ha hk'
     obtain⟨_,_,_,_,_,b5,b6⟩:=Rq hb
     refine⟨_,key _ len _ p q hsl (by omega) hb,.sub hk' (by omega) ?_⟩
     unfold sliced
     refine⟨if(β k).cap-off=p then a' else a'.map (·.add (p*e')),by rw[Nat.sub_sub],by omega,?_⟩
     by_cases hc:(β k).cap-off=p
     ·left;omega
     ·right
      rw[if_neg hc]
      rcases hx2 with hx2 | hx2
      ·omega
      ·subst hx2
       cases hba:(β k).a with
       | none=>rfl
       | some ad=>
        obtain⟨vs,g1,g2,g3,g4,g5⟩:=Nj inv hk'
        simp only[Option.map_some,Option.some.injEq]
        obtain⟨b0,o0,s0⟩:=ad
        by_cases hz:off*e' =0
        ·simp only[hz,Nat.add_mul,Nat.zero_add];simp[Addr.add]
        ·by_cases hz2:p*e' =0
         ·simp[Addr.add,Nat.add_mul,hz2,hz]
         ·simp[Addr.add,Nat.add_mul,hz2,hz,Nat.add_assoc]
    ·cases hs
 | nil e0=>simp[OO]at hs
 | _=>simp[OO]at hs
theorem Yy:∀ {cs:List V} {l:List UInt8},Rv cs=some l→∃ns:List Int,cs=ns.map (fun n=>V.sc (.int .u8 n))∧l=ns.map (fun n=>UInt8.ofNat n.toNat)
 | [],l,h=>by simp[Rv]at h;subst h;exact⟨[],rfl,rfl⟩
 | c::cs,l,h=>by
  simp only[Rv]at h
  cases hc:Au2 c with
  | none=>simp[hc]at h
  | some b=>
   cases hr:Rv cs with
   | none=>simp[hc,hr]at h
   | some r=>
    simp[hc,hr]at h;subst h
    obtain⟨ns,rfl,rfl⟩:=Yy hr
    unfold Au2 at hc
    split at hc
    ·rename_i n;cases hc;exact⟨n::ns,rfl,rfl⟩
    ·cases hc
theorem YL {Hm:Hp} (inv:Inv F β own H w) (hm:∀k,Hm k=H k∨Hm k= .dead) {va:V} {a:Value} (ha:VR F β own H w va a) {e len:Nat} {cs:List V}
 (h:content Hm va=some (e,len,cs)) (hsc:cs.all Vl=true):∃ad cap vs,a= .slice ad len cap∧cs.length=len*e∧len≤cap∧Pw (fun v x=>v= .sc x∧x.oneCell' =true) cs vs∧
  (cs=[]∨∃b o,ad=some ⟨b,o,none⟩∧Rds w b o vs):=by
 have scR:∀ {c:List V} {vs:List Value} {Q:V→Value→Prop},c.all Vl=true→Pw Q c vs→(∀v x,Vl v=true→Q v x→v= .sc x∧x.oneCell' =true)→Pw (fun v x=>v= .sc x∧x.oneCell' =true) c vs:=by
  intro c vs Q hall hp hq
  refine⟨hp.1,fun i v x hv hx=>hq v x ?_ (hp.2 i v x hv hx)⟩
  exact List.all_eq_true.1 hall v (List.mem_of_getElem? hv)
 have rdq:∀ {Q:Nat→Prop} (v:V) (x:Value),Vl v=true→Rd F.Ah w Q v x→v= .sc x∧x.oneCell' =true:=by
  intro Q v x hv h
  cases v<;>simp[Vl]at hv
  cases h;exact⟨rfl,‹_›⟩
 have owq:∀ {lim k:Nat} {p:List Nat} (v:V) (x:Value),Vl v=true→Ow F.Ah w own (F.S w own) lim k p v x→v= .sc x∧x.oneCell' =true:=by
  intro lim k p v x hv h
  cases v<;>simp[Vl]at hv
  cases h;exact⟨rfl,‹_›⟩
 cases va with
 | nil e0=>
  simp[content]at h
  obtain⟨rfl,rfl,rfl⟩:=h
  cases ha
  exact⟨none,0,[],rfl,by simp,Nat.le_refl _,⟨rfl,by simp⟩,.inl rfl⟩
 | sl fl e0 len0 c0=>
  cases fl with
  | zero=>simp[content]at h
  | succ fl=>
   simp[content]at h
   obtain⟨rfl,rfl,rfl⟩:=h
   cases ha with
   | rd h1 hr=>
    cases hr with
    | @sl _ _ _ _ ad cap vs hl hw hv hmm hc=>
     have hid:c0.map (Be (fl+1))=c0∨True:= .inr trivial
     refine⟨ad,cap,vs,rfl,by simpa using hw,hl,⟨by simpa using hv,?_⟩,?_⟩
     ·intro i v x hv' hx
      simp only[List.getElem?_map,Option.map_eq_some_iff]at hv'
      obtain⟨u,hu,rfl⟩:=hv'
      have hsu:Vl (Be (fl+1) u)=true:=List.all_eq_true.1 hsc _ (List.mem_map_of_mem (List.mem_of_getElem? hu))
      exact rdq _ _ hsu ((hc i u x hu hx).flag (fl+1))
     ·rcases hmm with hmm | ⟨b,o,h2,_,h3⟩
      ·left;subst hmm;rfl
      ·exact .inr ⟨b,o,h2,h3⟩
 | arr k=>
  simp only[content]at h
  cases hk:Al (Hm k)with
  | none=>simp[hk]at h
  | some r=>
   obtain⟨e',t',len',c0⟩:=r
   simp[hk]at h
   obtain⟨rfl,rfl,rfl⟩:=h
   have hk':=IY hm hk
   obtain⟨vs,g1,g2,g3,g4,g5⟩:=Nj inv hk'
   refine⟨_,_,vs,IW ha hk',g2,g3.1,⟨g1,?_⟩,?_⟩
   ·intro i v x hv hx
    exact owq v x (List.all_eq_true.1 hsc v (List.mem_of_getElem? hv)) (g5 i v x hv hx)
   ·rcases g4 with g4 | ⟨b,o,h2,_,h3⟩
    ·left
     have:len'*e'≤(β k).cap*e':=Nat.mul_le_mul_right _ g3.1
     exact List.eq_nil_of_length_eq_zero (by omega)
    ·exact .inr ⟨b,o,h2,EF h3⟩
 | sub k off len0=>
  simp only[content]at h
  cases hk:Al (Hm k)with
  | none=>simp[hk]at h
  | some r=>
   obtain⟨e',t',n,c0⟩:=r
   simp[hk]at h
   obtain⟨rfl,rfl,rfl⟩:=h
   have hk':=IY hm hk
   obtain⟨hn,a',rfl,hx1,hx2⟩:=QW ha hk'
   obtain⟨vs,g1,g2,g3,g4,g5⟩:=Nj inv hk'
   have hlen:=Va c0 e' off len0 n g2 hn
   have hpw:Pw (fun v x=>∃i,Ow F.Ah w own (F.S w own) t' k [i] v x) c0 vs:=⟨g1,fun i v x hv hx=>⟨i,g5 i v x hv hx⟩⟩
   refine⟨_,_,(vs.drop (off*e')).take (len0*e'),rfl,hlen,by omega,scR hsc (hpw.seg _ _) (fun v x hv hq=>by obtain⟨i,hq⟩:=hq;exact owq v x hv hq),?_⟩
   rcases g4 with g4 | ⟨b,o,h2,_,h3⟩
   ·left
    have:n*e'≤(β k).cap*e':=Nat.mul_le_mul_right _ g3.1
    have h0:c0=[]:=List.eq_nil_of_length_eq_zero (by omega)
    subst h0;simp[Go.Eng.part]
   ·rcases hx2 with hx2 | hx2
    ·left
     have:len0=0:=by omega
     subst this;simp[Go.Eng.part]
    ·right
     subst hx2
     rw[h2]
     exact⟨b,o+off*e',by simp[Q7],AnO (EF h3)⟩
 | _=>simp[content]at h
theorem AoY (ns:List Int):∀(s:ByteArray),ns.foldl (fun(r:ByteArray) n=>r.push (UInt8.ofNat n.toNat)) s=⟨s.data++(ns.map fun n=>UInt8.ofNat n.toNat).toArray⟩:=by
 induction ns with
 | nil=>intro s;simp
 | cons n ns ih=>
  intro s
  rw[List.foldl_cons,ih]
  congr 1
  show(s.push _).data++_=_
  simp[ByteArray.push]
def AIr (P:Program) (src dst:TypeId):Bool:=
 match P.underlying src with
 | some (.slice e)=>(match P.underlying e with | some (.int .u8)=>true | _=>false)&&(match P.underlying dst with | some .string=>true | _=>false)
 | _=>false
theorem AG0 {cs:List V} {l:List UInt8} (h:Rv cs=some l):cs.all Vl=true:=by
 obtain⟨ns,rfl,_⟩:=Yy h
 simp[Vl]
theorem AJX {Hm:Hp} (inv:Inv F β own H w) (hm:∀k,Hm k=H k∨Hm k= .dead) {src dst:TypeId} (ht:AIr P src dst=true) {a:Value} {va v:V} (ha:VR F β own H w va a)
 (h:AHs Hm va=some v):∃x,(convert src dst a).run P w= .ok x w∧VR F β own H w v x:=by
 unfold AIr at ht
 split at ht
 ·rename_i e hs
  simp only[Bool.and_eq_true]at ht
  have he:P.underlying e=some (.int .u8):=by have:=ht.1;split at this<;>simp_all
  have hd:P.underlying dst=some .string:=by have:=ht.2;split at this<;>simp_all
  unfold AHs at h
  cases hc:content Hm va with
  | none=>simp[hc]at h
  | some r=>
   obtain⟨e',len,cs⟩:=r
   simp only[hc]at h
   split at h
   ·rename_i he1;subst he1
    cases hb:Rv cs with
    | none=>simp[hb]at h
    | some l=>
     simp[hb]at h;subst h
     obtain⟨ad,cap,vs,rfl,h1,h2,h3,h4⟩:=YL inv hm ha hc (AG0 hb)
     obtain⟨ns,rfl,rfl⟩:=Yy hb
     have hvs:vs=ns.map (Value.int .u8):=by
      apply List.ext_getElem?
      intro i
      have hl:=h3.1
      simp at hl
      rcases Nat.lt_or_ge i ns.length with hi | hi
      ·have:=h3.2 i (.sc (.int .u8 ns[i])) vs[i] (by simp[hi]) (by simp)
       simp at this
       simp[hi,this.1,show i<vs.length by omega]
      ·simp[hi,hl]
     refine⟨_,?_,.sc rfl⟩
     rw[run_convert_bytes_string w src dst e _ len cap hs he hd]
     rcases h4 with h4 | ⟨b,o,rfl,hr⟩
     ·have:ns=[]:=by simpa using h4
      subst this
      simp at h1;subst h1
      cases ad with
      | none=>simp[Conv.bytesToString];rfl
      | some ad=>rw[run_bytesToString w ad 0 cap [] (by simp[loadCells,loadCellsFrom])];rfl
     ·subst hvs
      simp at h1
      rw[run_bytesToString w _ len cap ns (by
       have:=Ayd (P:=P) hr (off:=0) (n:=len) (by simp[h1])
       simpa[←h1,List.take_of_length_le]using this)]
      rw[AoY]
      simp[ByteArray.empty,ByteArray.emptyWithCapacity]
      rfl
   ·cases h
 ·cases ht
end
end Go.Eng
