/- Own work: part 7 of the proof of FnEvents. -/
import Derived.Test.YtfdnolfnbmnafaaGreatEngF
import Derived.Laws.Small
import Derived.Laws.Entries
import Derived.Laws.Append
import Derived.Laws.Slices
set_option linter.unusedSimpArgs false
set_option linter.unusedVariables false
namespace Go.Eng
def vq:Value→Value→Bool
 | .bool a,.bool b=>a==b
 | .int k a,.int k' b=>k==k'&&a==b
 | .string a,.string b=>a.data.toList==b.data.toList
 | .pointer none,.pointer none=>true
 | .nilIface,.nilIface=>true
 | .slice none 0 0,.slice none 0 0=>true
 | _,_=>false
theorem ALK {a b:Value} (h:vq a b=true):a=b∧a.oneCell' =true:=by
 unfold vq at h
 split at h
 ·simp at h;subst h;exact⟨rfl,rfl⟩
 ·simp at h;obtain⟨rfl,rfl⟩:=h;exact⟨rfl,rfl⟩
 ·rename_i a b
  simp at h
  have:a=b:=by cases a;cases b;simp_all
  subst this;exact⟨rfl,rfl⟩
 ·exact⟨rfl,rfl⟩
 ·exact⟨rfl,rfl⟩
 ·exact⟨rfl,rfl⟩
 ·cases h
def cV (Ah:Nat→Option FuncId):V→Value→Bool
 | .sc v,x=>vq v x
 | .nil _,.slice none 0 0=>true
 | .sl fl _ 0 [],.slice none 0 0=>fl==1
 | .fn g [],.func (.func f) a b=>Ah g==some f&&a.isEmpty&&b.isEmpty
 | .undef,_=>true
 | _,_=>false
def cVs (Ah:Nat→Option FuncId):List V→List Value→Bool
 | [],[]=>true
 | v::r,x::s=>cV Ah v x&&cVs Ah r s
 | _,_=>false
def Value.one (x:Value):Bool:=x.oneCell'
def Aqs (P:Program) (t:TypeId):Option Bool:=
 match P.underlying t with
 | some (.struct _)=>some true
 | some (.array _ _)=>some true
 | some _=>some false
 | none=>none
def szB (P:Program) (t:TypeId):Option Nat:=(P.info? t).map (·.size)
def nB (P:Program) (t:TypeId) (n:Option Nat):Bool:=
 match n with
 | none=>Aqs P t==some false
 | some n=>Aqs P t==some true&&szB P t==some n
def slB (P:Program) (t:TypeId) (e:Nat):Bool:=
 match P.underlying t with
 | some (.slice et)=>szB P et==some e&&e !=0
 | _=>false
section
variable {P:Program} {F:Fr} {β:Nat→Base} {own:Nat→Option (Nat×List Nat)} {H:Hp} {w w':World}
theorem AIW {v:V} {x:Value} (h:cV F.Ah v x=true):VR F β own H w v x:=by
 unfold cV at h
 split at h
 ·obtain⟨rfl,h1⟩:=ALK h;exact .sc h1
 ·exact .nil _
 ·simp at h;subst h
  exact .rd (Nat.le_refl 1) (.sl (Nat.le_refl 0) (by simp) (vs:=[]) rfl (.inl rfl) (by simp))
 ·rename_i g f a b
  simp at h
  obtain⟨⟨h1,h2⟩,h3⟩:=h
  subst h2;subst h3
  exact .fn (vs:=[]) h1 rfl (by simp)
 ·exact .undef
 ·cases h
theorem AMv {vs:List V} {xs:List Value} (h:cVs F.Ah vs xs=true):
 xs.length=vs.length∧∀(i:Nat) (v:V) (x:Value),vs[i]? =some v→xs[i]? =some x→VR F β own H w v x:=by
 induction vs generalizing xs with
 | nil=>cases xs<;>simp_all[cVs]
 | cons v r ih=>
  cases xs with
  | nil=>simp[cVs]at h
  | cons x s=>
   simp[cVs]at h
   obtain⟨h1,h2⟩:=ih h.2
   refine⟨by simp[h1],?_⟩
   intro i v' x' hv hx
   cases i with
   | zero=>simp at hv hx;subst hv;subst hx;exact AIW h.1
   | succ i=>exact h2 i v' x' (by simpa using hv) (by simpa using hx)
theorem Ur {t:TypeId} {b:Bool} (h:Aqs P t=some b):(isAgg t).run P w= .ok b w:=by
 unfold Aqs at h
 unfold isAgg
 cases hd:P.underlying t with
 | none=>simp[hd]at h
 | some d=>
  rw[Sem.run_bind,run_underlying hd]
  cases d<;>simp_all
theorem Hf {t:TypeId} {n:Nat} (h:szB P t=some n):(sizeOf t).run P w= .ok n w:=by
 unfold szB at h
 cases hi:P.info? t with
 | none=>simp[hi]at h
 | some i=>
  simp[hi]at h
  unfold sizeOf typeInfo
  simp[hi,h]
theorem Xy {t:TypeId} {e:Nat} (h:slB P t e=true):∃et,P.underlying t=some (.slice et)∧szB P et=some e∧0<e:=by
 unfold slB at h
 split at h
 ·rename_i et he;simp at h;exact⟨et,he,h.1,by omega⟩
 ·cases h
theorem ADC (inv:Inv F β own H w) {Hm:Hp} (hm:∀k,Hm k=H k∨Hm k= .dead) {t:TypeId} {n:Option Nat} (hn:nB P t n=true) {a:Value} {va v:V}
 (ha:VR F β own H w va a) (h:Akr F.bor Hm n va=some v):
 ∃x,(Instr.loadAt t a).run P w= .ok x w∧VR F β own H w v x:=by
 cases n with
 | none=>
  simp only[nB,beq_iff_eq]at hn
  simp only[Akr]at h
  split at h
  ·rename_i u hl
   cases h
   obtain⟨b,o,off,vs,rfl,hr,hle,hlen,hc⟩:=Aqx inv hm ha hl
   obtain⟨y,hy⟩:∃y,vs[off]? =some y:=⟨vs[off],by simp⟩
   refine⟨y,?_,hc 0 _ y (by simp) (by simpa using hy)⟩
   simp only[Instr.loadAt,Instr.sureAddr,Sem.run_bind,Sem.run_pure,Result.andThen_ok,loadVar,Ur hn,Bool.false_eq_true,if_false]
   exact AHK hr hy
  ·cases h
 | some m=>
  simp only[nB,Bool.and_eq_true,beq_iff_eq]at hn
  simp only[Akr]at h
  cases hl:AcM F.bor Hm m va with
  | none=>simp[hl]at h
  | some cs=>
   simp[hl]at h
   subst h
   obtain⟨b,o,off,vs,rfl,hr,hle,hlen,hc⟩:=Aqx inv hm ha hl
   refine⟨.agg ((vs.drop off).take m).toArray,?_,.agg (Aoj hr.1 off m) (by simp[hlen];omega) ?_⟩
   ·simp only[Instr.loadAt,Instr.sureAddr,Sem.run_bind,Sem.run_pure,Result.andThen_ok,loadVar,Ur hn.1,if_true,Hf hn.2,Ayd hr hle]
   ·intro i v x hv hx
    rw[Ie]at hx
    split at hx
    ·exact hc i v x hv hx
    ·cases hx
def Awj (P:Program) (s:TypeId) (f off:Nat):Bool:=
 match P.underlying s with
 | some (.struct fs)=>match fs[f]? with
  | some fd=>fd.offset==off&&(match szB P fd.type with | some (_+1)=>true | _=>false)
  | none=>false
 | _=>false
theorem AaT {s:TypeId} {f off:Nat} (hf:Awj P s f off=true) (b o:Nat):
 (Instr.fieldAt s (.pointer (some ⟨b,o,none⟩)) f).run P w= .ok (.pointer (some ⟨b,o+off,none⟩)) w:=by
 unfold Awj at hf
 cases hu:P.underlying s with
 | none=>simp[hu]at hf
 | some d=>
  cases d with
  | struct fs=>
   simp only[hu]at hf
   cases hfd:fs[f]? with
   | none=>simp[hfd]at hf
   | some fd=>
    simp only[hfd,Bool.and_eq_true,beq_iff_eq]at hf
    obtain⟨h1,h2⟩:=hf
    cases hs:szB P fd.type with
    | none=>simp[hs]at h2
    | some n=>
     cases n with
     | zero=>simp[hs]at h2
     | succ n=>
      subst h1
      simp only[Instr.fieldAt,Sem.run_bind,run_underlying hu,Result.andThen_ok,hfd,Instr.sureAddr,Sem.run_pure,fieldPlace,Hf hs,Nat.succ_ne_zero,
       if_false,Sem.run_ite,Q7]
  | _=>simp[hu]at hf
theorem AwO {s:TypeId} {f off:Nat} (hf:Awj P s f off=true) {a:Value} {va v:V} (ha:VR F β own H w va a)
 (h:Zi va off=some v):∃x,(Instr.fieldAt s a f).run P w= .ok x w∧VR F β own H w v x:=by
 cases va with
 | ptr k o=>
  cases h
  cases ha with
  | goneP hd=>exact⟨_,AaT hf _ _,.goneP hd⟩
  | ptr hk hb=>exact⟨_,AaT hf _ _,by rw[Nat.add_assoc];exact .ptr hk hb⟩
 | rptr fl cs o=>
  cases h
  cases ha with
  | rptr h1 hr=>
   cases hr with
   | rptr hv hP hmem hc=>exact⟨_,AaT hf _ _,.rptr h1 (by rw[Nat.add_assoc];exact .rptr hv hP hmem hc)⟩
 | _=>cases h
theorem AKD {a:Value} {va v:V} (ha:VR F β own H w va a) (h:Zi va 0=some v):(∃ad,a= .pointer (some ad))∧VR F β own H w v a:=by
 cases va with
 | ptr k o=>
  cases h
  cases ha with
  | goneP hd=>exact⟨⟨_,rfl⟩,.goneP hd⟩
  | ptr hk hb=>exact⟨⟨_,rfl⟩,.ptr hk hb⟩
 | rptr fl cs o=>
  cases h
  cases ha with
  | rptr h1 hr=>
   cases hr with
   | rptr hv hP hmem hc=>exact⟨⟨_,rfl⟩,.rptr h1 (.rptr hv hP hmem hc)⟩
 | _=>cases h
theorem Nj (inv:Inv F β own H w) {k e t len:Nat} {cs:List V} (h:Al (H k)=some (e,t,len,cs)):AR F own w k (β k) e t len cs:=by
 have:=inv.objs k
 cases hk':H k<;>rw[hk']at h this<;>simp[Al]at h
 ·obtain⟨rfl,rfl,rfl,rfl⟩:=h;exact this
 ·obtain⟨rfl,rfl,rfl,rfl⟩:=h;exact this.1
theorem IY {Hm:Hp} (hm:∀k,Hm k=H k∨Hm k= .dead) {k:Nat} {r:Nat×Nat×Nat×List V} (h:Al (Hm k)=some r):Al (H k)=some r:=by
 rcases hm k with h1 | h1
 ·rw[←h1];exact h
 ·rw[h1]at h;simp[Al]at h
theorem run_indexAt_slice {t:TypeId} {e:Nat} (ht:slB P t e=true) {b o len cap:Nat} {k:IntKind} {i:Int} (h0:0≤i) (h1:i<len):
 (Instr.indexAt t (.slice (some ⟨b,o,none⟩) len cap) (.int k i)).run P w= .ok (.pointer (some ⟨b,o+i.toNat*e,none⟩)) w:=by
 obtain⟨et,hu,hs,_⟩:=Xy ht
 simp only[Instr.indexAt,asIntOf,Sem.run_bind,Sem.run_pure,Result.andThen_ok,run_underlying hu,h0,h1,and_self,if_true,Sem.run_ite,Hf hs,Q7]
theorem IW {k:Nat} {x:Value} (h:VR F β own H w (.arr k) x) {e t len:Nat} {cs:List V} (hk:Al (H k)=some (e,t,len,cs)):
 x= .slice (β k).a len (β k).cap:=by
 cases h with
 | goneA h1=>rw[h1]at hk;simp[Al]at hk
 | arr h1=>rw[h1]at hk;cases hk;rfl
theorem QW {k off len:Nat} {x:Value} (h:VR F β own H w (.sub k off len) x) {e t n:Nat} {cs:List V} (hk:Al (H k)=some (e,t,n,cs)):
 off+len≤n∧AH5 (β k).a (β k).cap off e len x:=by
 cases h with
 | goneS h1=>rw[h1]at hk;simp[Al]at hk
 | sub h1 h2 h3=>rw[h1]at hk;cases hk;exact⟨h2,h3⟩
theorem Abw {v:V} {x:Value} {i:Int} (h:VR F β own H w v x) (hi:asI v=some i):∃k,x= .int k i:=by
 cases v with
 | sc y=>cases y<;>simp[asI]at hi;subst hi;cases h;exact⟨_,rfl⟩
 | _=>simp[asI]at hi
theorem Axg (inv:Inv F β own H w) {Hm:Hp} (hm:∀k,Hm k=H k∨Hm k= .dead) {t:TypeId} {e:Nat} (ht:slB P t e=true) {a ix:Value} {va vi v:V} {i:Int}
 (ha:VR F β own H w va a) (hi:VR F β own H w vi ix) (hii:asI vi=some i) (h:Lp Hm e va i=some v):
 ∃x,(Instr.indexAt t a ix).run P w= .ok x w∧VR F β own H w v x:=by
 obtain⟨_,_,_,he0⟩:=Xy ht
 obtain⟨ik,rfl⟩:=Abw hi hii
 cases va with
 | sl fl e' len cs=>
  simp only[Lp]at h
  split at h
  ·rename_i hc
   obtain⟨rfl,h0,h1,hfl⟩:=hc
   cases h
   cases ha with
   | rd hfl' hr=>
    cases hr with
    | @sl _ _ _ _ a cap vs hl hw' hv hmm hcc=>
     rcases hmm with hmm | ⟨b,o,rfl,hP,hrd⟩
     ·subst hmm
      have:len*e' =0:=by simpa using hw'.symm
      rcases Nat.mul_eq_zero.1 this with h8 | h8<;>omega
     ·exact⟨_,run_indexAt_slice ht h0 h1,.rptr hfl (.rptr hv hP hrd hcc)⟩
  ·cases h
 | arr k=>
  simp only[Lp]at h
  cases hk:Al (Hm k)with
  | none=>simp[hk]at h
  | some r=>
   obtain⟨e',t',len,cs⟩:=r
   simp only[hk]at h
   split at h
   ·rename_i hc
    obtain⟨rfl,h0,h1⟩:=hc
    cases h
    have hk':=IY hm hk
    rw[IW ha hk']
    obtain⟨vs,g1,g2,g3,g4,g5⟩:=Nj inv hk'
    rcases g4 with g4 | ⟨b,o,gb,go,gr⟩
    ·rcases Nat.mul_eq_zero.1 g4 with g4 | g4<;>omega
    ·rw[gb]
     exact⟨_,run_indexAt_slice ht h0 h1,.ptr (.inl (Hq.2 ⟨_,_,_,_,hk'⟩)) gb⟩
   ·cases h
 | sub k off len=>
  simp only[Lp]at h
  cases hk:Al (Hm k)with
  | none=>simp[hk]at h
  | some r=>
   obtain⟨e',t',n,cs⟩:=r
   simp only[hk]at h
   split at h
   ·rename_i hc
    obtain⟨rfl,h0,h1⟩:=hc
    cases h
    have hk':=IY hm hk
    obtain⟨hn,a',rfl,hx1,hx2⟩:=QW ha hk'
    obtain⟨vs,g1,g2,g3,g4,g5⟩:=Nj inv hk'
    rcases g4 with g4 | ⟨b,o,gb,go,gr⟩
    ·rcases Nat.mul_eq_zero.1 g4 with g4 | g4<;>omega
    ·rcases hx2 with hx2 | hx2
     ·omega
     ·subst hx2
      rw[gb]
      simp only[Option.map_some,Q7]
      refine⟨_,run_indexAt_slice ht h0 h1,?_⟩
      rw[show o+off*e'+i.toNat*e' =o+(off+i.toNat)*e' by rw[Nat.add_mul];omega]
      exact .ptr (.inl (Hq.2 ⟨_,_,_,_,hk'⟩)) gb
   ·cases h
 | _=>simp[Lp]at h
def AOC (P:Program) (t:TypeId) (x:V):Bool:=
 match P.underlying t with
 | some .string=>(match x with | .sc _=>true | _=>false)
 | some (.slice _)=>(match x with | .sc _=>false | _=>true)
 | _=>false
theorem AL8 {Hm:Hp} (hm:∀k,Hm k=H k∨Hm k= .dead) {ts:Array TypeId} {t ty:TypeId} (h0:ts[0]? =some t) {a:Value} {va:V} {n:Nat}
 (ht:(P.underlying t=some .string)∨∃e,P.underlying t=some (.slice e)) (ha:VR F β own H w va a) (h:AtC Hm va=some n)
 (hs:(∃s,va= .sc (.string s))↔P.underlying t=some .string):
 (Builtin.len_ ts ty #[a]).run P w= .ok (.int .i64 n) w:=by
 have hsl:∀(ad:Option Addr) (l c:Nat),(¬∃s,va= .sc (.string s))→(Builtin.len_ ts ty #[.slice ad l c]).run P w= .ok (.int .i64 l) w:=by
  intro ad l c hns
  rcases ht with ht | ⟨e,ht⟩
  ·exact absurd (hs.2 ht) hns
  ·simp[Builtin.len_,h0,run_underlying ht,goInt]
 cases va with
 | sc v=>
  cases v with
  | string s=>
   simp[AtC]at h
   subst h
   cases ha
   simp[Builtin.len_,h0,run_underlying (hs.1 ⟨s,rfl⟩),goInt]
  | _=>simp[AtC]at h
 | nil e=>simp[AtC]at h;subst h;cases ha;exact hsl _ _ _ (by simp)
 | sl fl e len cs=>
  simp only[AtC]at h
  split at h
  ·cases h
  ·cases h
   cases ha with
   | rd h1 hr=>cases hr with | sl hl hw' hv hmm hcc=>exact hsl _ _ _ (by simp)
 | arr k=>
  simp only[AtC]at h
  cases hk:Al (Hm k)with
  | none=>simp[hk]at h
  | some r=>
   obtain⟨e',t',len,cs⟩:=r
   simp[hk]at h;subst h
   rw[IW ha (IY hm hk)]
   exact hsl _ _ _ (by simp)
 | sub k off len=>
  simp only[AtC]at h
  cases hk:Al (Hm k)with
  | none=>simp[hk]at h
  | some r=>
   obtain⟨e',t',n',cs⟩:=r
   simp[hk]at h;subst h
   obtain⟨hn,a',rfl,hx1,hx2⟩:=QW ha (IY hm hk)
   exact hsl _ _ _ (by simp)
 | _=>simp[AtC]at h
end
end Go.Eng
