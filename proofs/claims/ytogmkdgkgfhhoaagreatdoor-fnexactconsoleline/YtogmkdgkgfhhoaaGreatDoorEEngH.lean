/- Own work: part 5 of the proof of FnExactConsoleLine. -/
import Derived.Test.YtogmkdgkgfhhoaaGreatDoorEEngA
import Derived.Laws.BytesString
import Derived.Laws.IdiomStrings
set_option linter.unusedSimpArgs false
set_option linter.unusedVariables false
namespace Go.Eng
section
variable {P:Program} {F:Fr} {β:Nat->Base} {own:Nat->Option (Nat×List Nat)} {H:Hp} {w w':World}
theorem JE {a:Value} {x:Value} (h:VR F β own H w (.sc a) x):x=a:=by cases h;rfl
theorem Aqk {op : BinOp} {t : TypeId} {xo yo : Operand} {a b : Value} {va vb v : V} (ha : VR F β own H w va a) (hb : VR F β own H w vb b) (h : AjD op va vb = some v) :
    ∃ x, (do eqGuard op t xo yo a b; binOp op t a b : Sem Value).run P w = .ok x w /\ VR F β own H w v x := by
  unfold AjD at h
  split at h
  · rename_i a' b'
    have := JE ha; subst this
    have := JE hb; subst this
    cases hr : Acb op a b with
    | none => simp [hr] at h
    | some r =>
      simp [hr] at h
      subst h
      suffices r.oneCell' = true /\ (do eqGuard op t xo yo a b; binOp op t a b : Sem Value).run P w = .ok r w from ⟨r, this.2, .sc this.1⟩
      cases a with
      | int k x =>
        cases b with
        | int k' y =>
          rw [eqGuard_at_int]
          simp only [pure_bind]
          simp only [Acb] at hr
          by_cases h1 : op = .shl
          · subst h1
            simp only [if_true] at hr
            split at hr
            · cases hr
            · cases hr
              refine ⟨rfl, ?_⟩
              rename_i hy
              simp [binOp, Op.shift, hy]
          · rw [if_neg h1] at hr
            by_cases h2 : op = .shr
            · subst h2
              simp only [if_true] at hr
              split at hr
              · cases hr
              · cases hr
                refine ⟨rfl, ?_⟩
                rename_i hy
                simp [binOp, Op.shift, hy]
            · rw [if_neg h2] at hr
              split at hr
              · rename_i hk
                subst hk
                cases op <;> first
                  | (simp at h1; done)
                  | (simp at h2; done)
                  | (simp at hr; done)
                  | (simp only [Option.some.injEq] at hr; subst hr; exact ⟨rfl, by simp [binOp, Op.intArith, Op.intBits, Op.intCmp]⟩)
                  | (simp only at hr; split at hr
                     · cases hr
                     · rename_i hy; simp only [Option.some.injEq] at hr; subst hr; exact ⟨rfl, by simp [binOp, Op.intDiv, hy]⟩)
              · cases hr
        | _ => simp [Acb] at hr
      | string x =>
        cases b with
        | string y =>
          rw [eqGuard_at_string]
          simp only [pure_bind]
          cases op <;> first
            | (simp [Acb] at hr; done)
            | (simp only [Acb, Option.some.injEq] at hr; subst hr; exact ⟨rfl, by simp [binOp, Op.stringOp]⟩)
            | (simp only [Acb] at hr; split at hr
               · rename_i hy
                 cases hr
                 refine ⟨rfl, ?_⟩
                 have : ¬ (((x.size + y.size : Nat) : Int) > IntKind.i64.max) := by rw [IntKind.max_i64]; omega
                 simp only [binOp, Op.stringOp, this, if_false, Sem.run_pure]
               · cases hr)
        | _ => simp [Acb] at hr
      | _ => simp [Acb] at hr
  · cases h
theorem Aqn {ne:Bool} {t:TypeId} (ht:P.underlying t=some .bool) {xo yo:Operand} {a b:Value} {va vb v:V} (ha:VR F β own H w va a) (hb:VR F β own H w vb b) (h:AjR ne va vb=some v):
 ∃x,(do eqGuard (if ne then .neq else .eql) t xo yo a b;binOp (if ne then .neq else .eql) t a b:Sem Value).run P w= .ok x w/\VR F β own H w v x:=by
 unfold AjR at h
 split at h
 ·have:=JE ha;subst this
  have:=JE hb;subst this
  cases a with
  | bool x=>
   cases b with
   | bool y=>
    simp[AlX]at h
    subst h
    rw[eqGuard_at_bool]
    simp only[pure_bind]
    cases ne
    ·exact⟨_,run_eql_bool w t x y ht,.sc rfl⟩
    ·exact⟨_,run_neq_bool w t x y ht,.sc rfl⟩
   | _=>simp[AlX]at h
  | _=>simp[AlX]at h
 ·cases h
theorem Arw {op:UnOp} {a:Value} {va v:V} (ha:VR F β own H w va a) (h:AoA op va=some v):
 ∃x,(Op.unary op a).run P w= .ok x w/\VR F β own H w v x:=by
 unfold AoA at h
 split at h
 ·have:=JE ha;subst this
  cases a with
  | int k n=>cases op<;>simp[unV]at h;subst h;exact⟨_,by simp[Op.unary,Op.intArith],.sc rfl⟩
  | bool b=>cases op<;>simp[unV]at h;subst h;exact⟨_,by simp[Op.unary],.sc rfl⟩
  | _=>simp[unV]at h
 ·cases h
theorem Aop {k:IntKind} {src dst:TypeId} (hs:∃d,P.underlying src=some d) (hd:P.underlying dst=some (.int k)) {a:Value} {va v:V} (ha:VR F β own H w va a) (h:Ajo k va=some v):
 ∃x,(convert src dst a).run P w= .ok x w/\VR F β own H w v x:=by
 obtain⟨d,hs⟩:=hs
 unfold Ajo at h
 split at h
 ·have:=JE ha;subst this
  cases h
  refine⟨_,?_,.sc rfl⟩
  simp[convert,run_underlying hs,run_underlying hd,Conv.intToInt]
 ·cases h
theorem Aiy {mx:Bool} {a b r:Value} (h:mmV mx a b=some r):(if mx then Builtin.max2 a b else Builtin.min2 a b).run P w= .ok r w/\r.oneCell' =true:=by
 cases a with
 | int k x=>
  cases b with
  | int k' y=>
   simp only[mmV]at h
   split at h
   ·rename_i hk;subst hk;cases h
    cases mx<;>simp[Builtin.max2,Builtin.min2,Value.oneCell']
   ·cases h
  | _=>simp[mmV]at h
 | _=>simp[mmV]at h
theorem Alp {mx:Bool} {ev:Src->V}:∀ {ys:List Src} {bs:List Value} {va v:V} {a:Value},VR F β own H w va a->ys.length=bs.length->
 (∀(i:Nat) (s:Src) (x:Value),ys[i]? =some s->bs[i]? =some x->VR F β own H w (ev s) x)->AlN ev mx va ys=some v->
 ∃x,(bs.foldlM (if mx then Builtin.max2 else Builtin.min2) a).run P w= .ok x w/\VR F β own H w v x:=by
 intro ys
 induction ys with
 | nil=>
  intro bs va v a ha hl _ h
  cases bs with
  | nil=>simp[AlN]at h;subst h;exact⟨a,by simp,ha⟩
  | cons=>simp at hl
 | cons y ys ih=>
  intro bs va v a ha hl hs h
  cases bs with
  | nil=>simp at hl
  | cons b bs=>
   simp only[AlN]at h
   have hb:=hs 0 y b (by simp) (by simp)
   split at h
   ·rename_i u z he
    rw[he]at hb
    have:=JE ha;subst this
    have:=JE hb;subst this
    cases hr:mmV mx a b with
    | none=>simp[hr]at h
    | some r=>
     simp only[hr]at h
     obtain⟨h1,h2⟩:=Aiy (P:=P) (w:=w) hr
     obtain⟨x,h3,h4⟩:=ih (bs:=bs) (a:=r) (.sc h2) (by simpa using hl) (fun i s x h5 h6=>hs (i+1) s x (by simpa using h5) (by simpa using h6)) h
     refine⟨x,?_,h4⟩
     rw[List.foldlM_cons,Sem.run_bind]
     have h1':((if mx then Builtin.max2 else Builtin.min2) a b:Sem Value).run P w= .ok r w:=by cases mx<;>simpa using h1
     rw[h1']
     exact h3
   ·cases h
theorem Ak2 {t:TypeId} (ht:P.underlying t=some .string) {a ix:Value} {va vi v:V} {i:Int} (ha:VR F β own H w va a) (hi:VR F β own H w vi ix) (hii:Yp vi=some i)
 (h:PW va i=some v):∃x,(Instr.index t a ix).run P w= .ok x w/\VR F β own H w v x:=by
 obtain⟨ik,rfl⟩:=RX hi hii
 cases va with
 | sc a'=>
  have:=JE ha;subst this
  cases a with
  | string s=>
   simp only[PW]at h
   split at h
   ·rename_i h0
    cases hc:s.data[i.toNat]? with
    | none=>simp[hc]at h
    | some c=>
     simp[hc]at h;subst h
     refine⟨_,?_,.sc rfl⟩
     have hlt:i.toNat<s.data.size:=by
      rcases Nat.lt_or_ge i.toNat s.data.size with g | g
      ·exact g
      ·simp[Array.getElem?_eq_none g]at hc
     have hc':s[i.toNat]? =some c:=by
      have hlt':i.toNat<s.size:=hlt
      rw[getElem?_pos s i.toNat hlt']
      rw[Array.getElem?_eq_getElem hlt]at hc
      exact hc
     simp only[Instr.index,asIntOf,Sem.run_bind,Sem.run_pure,Result.andThen_ok,run_underlying ht,h0,if_true,hc']
   ·cases h
  | _=>simp[PW]at h
 | _=>simp[PW]at h
def Ap1 (P:Program) (t:TypeId) (n e:Nat):Bool:=
 match P.underlying t with
 | some (.array m et)=>m==n&&szB P et==some e&&AbF P et==some false
 | _=>false
theorem Alo {t:TypeId} {n e:Nat} (ht:Ap1 P t n e=true) {a ix:Value} {va vi v:V} {i:Int} (ha:VR F β own H w va a) (hi:VR F β own H w vi ix) (hii:Yp vi=some i)
 (h:Vv n e va i=some v):∃x,(Instr.index t a ix).run P w= .ok x w/\VR F β own H w v x:=by
 obtain⟨ik,rfl⟩:=RX hi hii
 unfold Vv at h
 split at h
 ·split at h
  ·rename_i cs _ hc
   obtain⟨h0,h1,rfl⟩:=hc
   unfold Ap1 at ht
   split at ht
   ·rename_i m et hu
    simp only[Bool.and_eq_true,beq_iff_eq]at ht
    obtain⟨⟨rfl,hs⟩,hag⟩:=ht
    cases ha with
    | agg h1' hv hcc=>
     rename_i vs
     have hlt:i.toNat<vs.length:=by rw[hv];exact(List.getElem?_eq_some_iff.1 h).1
     refine⟨vs[i.toNat],?_,hcc _ _ _ h (by simp[hlt])⟩
     simp only[Instr.index,asIntOf,Sem.run_bind,Sem.run_pure,Result.andThen_ok,run_underlying hu,h0,h1,and_self,if_true,Sem.run_ite,Et hs,Go.part,LC hag,
      Bool.false_eq_true,if_false,Nat.mul_one]
     simp[hlt]
   ·cases ht
  ·cases h
 ·cases h
def AeW (P:Program) (s:TypeId) (f:Nat) (n:Option Nat) (off:Nat):Bool:=
 match P.underlying s with
 | some (.struct fs)=>match fs[f]? with
  | some fd=>fd.offset==off&&nB P fd.type n
  | none=>false
 | _=>false
theorem AnS {t:TypeId} {f off:Nat} {n:Option Nat} (ht:AeW P t f n off=true) {a:Value} {va v:V} (ha:VR F β own H w va a)
 (h:Ae3 n va off=some v):∃x,(Instr.field t a f).run P w= .ok x w/\VR F β own H w v x:=by
 unfold AeW at ht
 split at ht
 ·rename_i fs hu
  cases hfd:fs[f]? with
  | none=>simp[hfd]at ht
  | some fd=>
   simp only[hfd,Bool.and_eq_true,beq_iff_eq]at ht
   obtain⟨rfl,hn⟩:=ht
   unfold Ae3 at h
   split at h
   ·cases ha with
    | agg h1' hv hcc=>
     rename_i cs vs
     cases n with
     | none=>
      simp only[nB,beq_iff_eq]at hn
      simp only at h
      have hlt:fd.offset<vs.length:=by rw[hv];exact(List.getElem?_eq_some_iff.1 h).1
      refine⟨vs[fd.offset],?_,hcc _ _ _ h (by simp[hlt])⟩
      simp only[Instr.field,Sem.run_bind,Sem.run_pure,Result.andThen_ok,run_underlying hu,hfd,asAgg,Go.part,LC hn,Bool.false_eq_true,if_false]
      simp[hlt]
     | some m=>
      simp only[nB,Bool.and_eq_true,beq_iff_eq]at hn
      simp only at h
      cases hg:ER cs fd.offset m with
      | none=>simp[hg]at h
      | some c=>
       simp[hg]at h;subst h
       obtain⟨hle,rfl⟩:=PU hg
       refine⟨.agg ((vs.drop fd.offset).take m).toArray,?_,.agg (AaC h1' _ _) (by simp;omega) ?_⟩
       ·simp only[Instr.field,Sem.run_bind,Sem.run_pure,Result.andThen_ok,run_underlying hu,hfd,asAgg,Go.part,LC hn.1,if_true,Et hn.2]
        congr 2
        simp[List.extract_eq_take_drop]
       ·intro i v x hv' hx
        rw[EH]at hv' hx
        split at hx
        ·rename_i hi;rw[if_pos hi]at hv';exact hcc _ _ _ hv' hx
        ·cases hx
   ·cases h
 ·cases ht
theorem AiR {i:Nat} {a:Value} {va v:V} (ha:VR F β own H w va a) (h:VU va i=some v):
 ∃x,(Instr.extract a i).run P w= .ok x w/\VR F β own H w v x:=by
 unfold VU at h
 split at h
 ·cases ha with
  | tup hv hcc=>
   rename_i vs' vs
   have hlt:i<vs.length:=by rw[hv];exact(List.getElem?_eq_some_iff.1 h).1
   exact⟨vs[i],by simp[Instr.extract,hlt],hcc _ _ _ h (by simp[hlt])⟩
 ·cases h
end
end Go.Eng
namespace Go.Eng
def Pw (R:V->Value->Prop) (cs:List V) (vs:List Value):Prop:=
 vs.length=cs.length/\∀(i:Nat) (v:V) (x:Value),cs[i]? =some v->vs[i]? =some x->R v x
section
variable {R:V->Value->Prop}
theorem Pw.nil:Pw R [] []:=⟨rfl,by simp⟩
theorem Pw.cons {v:V} {x:Value} {cs:List V} {vs:List Value} (h:R v x) (t:Pw R cs vs):Pw R (v::cs) (x::vs):=by
 refine⟨by simp[t.1],?_⟩
 intro i u y hu hy
 cases i with
 | zero=>simp at hu hy;subst hu;subst hy;exact h
 | succ i=>exact t.2 i u y (by simpa using hu) (by simpa using hy)
theorem Pw.Nf {v:V} {cs:List V} {vs:List Value} (h:Pw R (v::cs) vs):∃x r,vs=x::r/\R v x/\Pw R cs r:=by
 cases vs with
 | nil=>simp[Pw]at h
 | cons x r=>
  refine⟨x,r,rfl,h.2 0 v x (by simp) (by simp),by have:=h.1;simpa using this,?_⟩
  intro i u y hu hy
  exact h.2 (i+1) u y (by simpa using hu) (by simpa using hy)
theorem Pw.N8 {vs:List Value} (h:Pw R [] vs):vs=[]:=by
 have:=h.1
 exact List.eq_nil_of_length_eq_zero (by simpa using this)
theorem Pw.append {cs ds:List V} {vs us:List Value} (h:Pw R cs vs) (t:Pw R ds us):Pw R (cs++ds) (vs++us):=by
 induction cs generalizing vs with
 | nil=>rw[h.N8];exact t
 | cons c cs ih=>
  obtain⟨x,r,rfl,h1,h2⟩:=h.Nf
  exact .cons h1 (ih h2)
theorem Pw.set {cs:List V} {vs:List Value} (h:Pw R cs vs) (i:Nat) {v:V} {x:Value} (hv:R v x):Pw R (cs.set i v) (vs.set i x):=by
 refine⟨by simp[h.1],?_⟩
 intro j u y hu hy
 rw[List.getElem?_set]at hu hy
 by_cases hij:i=j
 ·subst hij
  simp only[if_true]at hu hy
  split at hu
  ·cases hu
   split at hy
   ·cases hy;exact hv
   ·cases hy
  ·cases hu
 ·rw[if_neg hij]at hu hy
  exact h.2 j u y hu hy
theorem Pw.putAt {cs ps:List V} {vs ys:List Value} (h:Pw R cs vs) (off:Nat) (hp:Pw R ps ys):Pw R (putAt cs off ps) (putAt vs off ys):=by
 induction ps generalizing cs vs ys off with
 | nil=>rw[hp.N8];exact h
 | cons p ps ih=>
  obtain⟨y,r,rfl,h1,h2⟩:=hp.Nf
  exact ih (h.set off h1) (off+1) h2
theorem Pw.mono {R':V->Value->Prop} {cs:List V} {vs:List Value} (h:Pw R cs vs) (hr:∀v x,R v x->R' v x):Pw R' cs vs:=
 ⟨h.1,fun i v x hv hx=>hr _ _ (h.2 i v x hv hx)⟩
theorem Pw.seg {cs:List V} {vs:List Value} (h:Pw R cs vs) (off n:Nat):Pw R ((cs.drop off).take n) ((vs.drop off).take n):=by
 refine⟨by simp[h.1],?_⟩
 intro i v x hv hx
 rw[EH]at hv hx
 split at hx
 ·rename_i hi;rw[if_pos hi]at hv;exact h.2 _ _ _ hv hx
 ·cases hx
end
theorem Lh {α:Type} (cs ps:List α) (off:Nat):(putAt cs off ps).length=cs.length:=by
 induction ps generalizing cs off with
 | nil=>rfl
 | cons p ps ih=>simp[putAt,ih]
theorem AnT {α:Type} {l:List α} {i:Nat} {a x:α} (h:x∈l.set i a):x∈l∨x=a:=by
 rcases List.mem_or_eq_of_mem_set h with h | h
 ·exact .inl h
 ·exact .inr h
theorem Aif {vs ys:List Value} (h:Fj vs) (off:Nat) (hy:Fj ys):Fj (putAt vs off ys):=by
 induction ys generalizing vs off with
 | nil=>exact h
 | cons y ys ih=>
  refine ih ?_ (off+1) (fun x hx=>hy x (by simp[hx]))
  intro x hx
  rcases AnT hx with h1 | h1
  ·exact h x h1
  ·subst h1;exact hy x (by simp)
theorem Qn {α:Type} (cs ps:List α) (off i:Nat) (h:off+ps.length<=cs.length):
 (putAt cs off ps)[i]? =if off<=i/\i<off+ps.length then ps[i-off]? else cs[i]? :=by
 induction ps generalizing cs off with
 | nil=>
  simp only[putAt,List.length_nil,Nat.add_zero]
  rw[if_neg (by omega)]
 | cons p ps ih=>
  simp only[putAt]
  rw[ih (cs.set off p) (off+1) (by simp at h⊢;omega)]
  simp only[List.length_cons]at h⊢
  by_cases h1:off+1<=i/\i<off+1+ps.length
  ·rw[if_pos h1,if_pos (by omega)]
   rw[show i-off=(i-(off+1))+1 by omega]
   simp
  ·rw[if_neg h1,List.getElem?_set]
   by_cases h2:off=i
   ·subst h2
    rw[if_pos rfl,if_pos (by omega),if_pos (by omega)]
    simp
   ·rw[if_neg h2,if_neg (by omega)]
theorem AdA (ys:List Value) (off:Nat):∀(s:Nat) (cells:Array Value),
 ((ys.zipIdx s).foldl (fun(cs:Array Value) (p:Value×Nat)=>cs.setIfInBounds (off+p.2) p.1) cells).toList=putAt cells.toList (off+s) ys:=by
 induction ys with
 | nil=>intro s cells;rfl
 | cons y ys ih=>
  intro s cells
  simp only[List.zipIdx_cons,List.foldl_cons,putAt]
  rw[ih (s+1)]
  simp[Array.toList_setIfInBounds,Nat.add_assoc]
def AbL (P:Program) (t:TypeId) (i off n:Nat):Bool:=
 match P.underlying t with
 | some (.struct fs)=>match fs[i]? with
  | some fd=>fd.offset==off&&szB P fd.type==some n
  | none=>false
 | some (.array _ et)=>szB P et==some n&&off==i*n
 | _=>false
def QU (P:Program) (t:TypeId):Bool:=
 match P.underlying t with
 | some (.struct fs)=>fs.toList.all fun f=>(szB P f.type).isSome
 | some (.array _ et)=>(szB P et).isSome
 | _=>false
section
variable {P:Program} {F:Fr} {β:Nat->Base} {own:Nat->Option (Nat×List Nat)} {H:Hp} {w w':World}
theorem Ain (l:List Field) (h:l.all (fun f=>(szB P f.type).isSome)=true):
 (l.mapM fun f=>do pure (f.offset,<-sizeOf f.type):Sem (List (Nat×Nat))).run P w= .ok (l.map fun f=>(f.offset,(szB P f.type).getD 0)) w:=by
 induction l with
 | nil=>simp
 | cons f l ih=>
  simp only[List.all_cons,Bool.and_eq_true]at h
  obtain⟨n,hn⟩:=Option.isSome_iff_exists.1 h.1
  rw[List.mapM_cons]
  simp only[Sem.run_bind,Et hn,Result.andThen_ok,Sem.run_pure,ih h.2,List.map_cons,hn,Option.getD_some]
theorem PL {v:V} {x:Value} {ps:List V} (hv:VR F β own H w v x) (h:cellsOf v=some ps):Pw (VR F β own H w) ps x.cells.toList/\Fj x.cells.toList:=by
 have one:∀ {u:V},VR F β own H w u x->x.oneCell' =true->ps=[u]->Pw (VR F β own H w) ps x.cells.toList/\Fj x.cells.toList:=by
  intro u hu h1 hp
  subst hp
  have:x.cells.toList=[x]:=by cases x<;>simp_all[Value.cells,Value.oneCell']
  rw[this]
  exact⟨.cons hu .nil,by intro y hy;simp at hy;subst hy;exact h1⟩
 cases v with
 | agg cs=>
  cases h
  cases hv with
  | agg h1 hl hc=>exact⟨⟨by simpa[Value.cells]using hl,fun i v x hv hx=>hc i v x hv (by simpa[Value.cells]using hx)⟩,by simpa[Value.cells]using h1⟩
 | tup=>cases h
 | undef=>cases h
 | sc a=>cases h;cases hv;exact one (.sc ‹_›) ‹_› rfl
 | nil e=>cases h;cases hv;exact one (.nil e) rfl rfl
 | sl fl e len cs=>cases h;cases hv with | rd h1 hr=>have:=hr;cases hr;exact one (.rd h1 this) rfl rfl
 | arr k=>
  cases h
  have hv':=hv
  cases hv with
  | goneA hd=>exact one hv' rfl rfl
  | arr hk=>exact one hv' rfl rfl
 | sub k off len=>
  cases h
  have hv':=hv
  cases hv with
  | goneS hd=>exact one hv' rfl rfl
  | sub hk hn hx=>obtain⟨a',rfl,_⟩:=hx;exact one hv' rfl rfl
 | ptr k off=>
  cases h
  have hv':=hv
  cases hv with
  | goneP hd=>exact one hv' rfl rfl
  | ptr hk hb=>exact one hv' rfl rfl
 | rptr fl cs off=>cases h;have hv':=hv;cases hv with | rptr h1 hr=>cases hr;exact one hv' rfl rfl
 | fn g caps=>cases h;have hv':=hv;cases hv;exact one hv' rfl rfl
theorem Aj7 {ev:Src->V} {place:Nat->Option (Nat×Nat)}:∀ {ps:List (Nat×Nat×Src)} {qs:List (Nat×Value)} {zero cs:List V} {cells:Array Value},
 ps.length=qs.length->(∀(j:Nat) (p:Nat×Nat×Src) (q:Nat×Value),ps[j]? =some p->qs[j]? =some q->place q.1=some (p.1,p.2.1)/\VR F β own H w (ev p.2.2) q.2)->
 Pw (VR F β own H w) zero cells.toList->Fj cells.toList->OO ev zero ps=some cs->
 ∃cells',Instr.fill place cells qs=some cells'/\Pw (VR F β own H w) cs cells'.toList/\Fj cells'.toList:=by
 intro ps
 induction ps with
 | nil=>
  intro qs zero cs cells hl hs hz h1 h
  cases qs with
  | nil=>simp[OO]at h;subst h;exact⟨cells,rfl,hz,h1⟩
  | cons=>simp at hl
 | cons p ps ih=>
  intro qs zero cs cells hl hs hz h1 h
  cases qs with
  | nil=>simp at hl
  | cons q qs=>
   obtain⟨off,n,x⟩:=p
   obtain⟨i,v⟩:=q
   simp only[OO]at h
   obtain⟨g1,g2⟩:=hs 0 (off,n,x) (i,v) (by simp) (by simp)
   cases hc:cellsOf (ev x)with
   | none=>simp[hc]at h
   | some c=>
    simp only[hc]at h
    split at h
    ·rename_i hh
     obtain⟨h3,h4⟩:=PL g2 hc
     have hsz:v.cells.size=n:=by have:=h3.1;simp at this;omega
     have hcz:cells.size=zero.length:=by have:=hz.1;simpa using this
     simp only[Instr.fill,g1]
     rw[if_neg (by simp;omega)]
     have hput:(v.cells.zipIdx.foldl (fun cs (c,j)=>cs.setIfInBounds (off+j) c) cells).toList=putAt cells.toList off v.cells.toList:=by
      have:=AdA v.cells.toList off 0 cells
      rw[<-Array.foldl_toList]
      simpa using this
     refine ih (by simpa using hl) (fun j p q hp hq=>hs (j+1) p q (by simpa using hp) (by simpa using hq)) ?_ ?_ h
     ·rw[hput];exact hz.putAt off h3
     ·rw[hput];exact Aif h1 off h4
    ·cases h
def Ahc (P:Program) (Ae:Nat->Option FuncId) (t:TypeId) (zero:List V):Bool:=
 match P.info? t with
 | some i=>match i.zero with
  | some z=>cVs Ae zero z.cells.toList&&z.cells.toList.all (·.oneCell')
  | none=>false
 | none=>false
theorem Aa6 {t:TypeId} {zero:List V} (h:Ahc P F.Ae t zero=true):∃z,(zeroValue t).run P w= .ok z w/\Pw (VR F β own H w) zero z.cells.toList/\Fj z.cells.toList:=by
 unfold Ahc at h
 cases hi:P.info? t with
 | none=>simp[hi]at h
 | some i=>
  cases hz:i.zero with
  | none=>simp[hi,hz]at h
  | some z=>
   simp only[hi,hz,Bool.and_eq_true]at h
   refine⟨z,by simp[zeroValue,typeInfo,hi,hz],Aqf h.1,?_⟩
   intro x hx
   exact List.all_eq_true.1 h.2 x hx
def Ub (P:Program) (t:TypeId):List (Nat×Nat×Src)->List (Nat×Operand)->Bool
 | [],[]=>true
 | (off,n,_)::r,(i,_)::s=>AbL P t i off n&&Ub P t r s
 | _,_=>false
theorem XZ {t:TypeId}:∀ {ps:List (Nat×Nat×Src)} {qs:List (Nat×Operand)},Ub P t ps qs=true->
 ps.length=qs.length/\∀(j:Nat) (p:Nat×Nat×Src) (q:Nat×Operand),ps[j]? =some p->qs[j]? =some q->AbL P t q.1 p.1 p.2.1=true
 | [],[],_=>by simp
 | [],_::_,h=>by simp[Ub]at h
 | _::_,[],h=>by simp[Ub]at h
 | p::r,q::s,h=>by
  simp only[Ub,Bool.and_eq_true]at h
  obtain⟨h1,h2⟩:=XZ h.2
  refine⟨by simp[h1],?_⟩
  intro j p' q' hp hq
  cases j with
  | zero=>simp at hp hq;subst hp;subst hq;exact h.1
  | succ j=>exact h2 j p' q' (by simpa using hp) (by simpa using hq)
theorem Amx {t:TypeId} {ev:Src->V} {ρ:Operand->Value} {zero:List V} {ps:List (Nat×Nat×Src)} {qs:Array (Nat×Operand)} (hz:Ahc P F.Ae t zero=true) (hf:QU P t=true)
 (hp:Ub P t ps qs.toList=true) (hev:∀(j:Nat) (p:Nat×Nat×Src) (q:Nat×Operand),ps[j]? =some p->qs.toList[j]? =some q->VR F β own H w (ev p.2.2) (ρ q.2))
 {cs:List V} (h:OO ev zero ps=some cs):
 ∃x,(Instr.build t (qs.map fun(i,x)=>(i,ρ x))).run P w= .ok x w/\VR F β own H w (.agg cs) x:=by
 obtain⟨z,hz1,hz2,hz3⟩:=Aa6 (F:=F) (β:=β) (own:=own) (H:=H) (w:=w) hz
 obtain⟨hl,hpl⟩:=XZ hp
 unfold QU at hf
 have fin:∀(place:Nat->Option (Nat×Nat)),(∀i off n,AbL P t i off n=true->place i=some (off,n))->
  ∃cells',Instr.fill place z.cells (qs.map fun(i,x)=>(i,ρ x)).toList=some cells'/\VR F β own H w (.agg cs) (.agg cells'):=by
  intro place hplace
  obtain⟨cells',h1,h2,h3⟩:=Aj7 (F:=F) (β:=β) (own:=own) (H:=H) (w:=w) (ev:=ev) (place:=place) (ps:=ps) (qs:=(qs.map fun(i,x)=>(i,ρ x)).toList) (zero:=zero) (cells:=z.cells) (cs:=cs)
   (by simpa using hl) (by
    intro j p q hp' hq'
    simp only[Array.toList_map,List.getElem?_map,Option.map_eq_some_iff]at hq'
    obtain⟨q0,hq0,rfl⟩:=hq'
    exact⟨hplace _ _ _ (hpl j p q0 hp' hq0),hev j p q0 hp' hq0⟩) hz2 hz3 h
  refine⟨cells',h1,?_⟩
  have:=VR.agg (F:=F) (β:=β) (own:=own) (H:=H) (w:=w) (cs:=cs) (vs:=cells'.toList) h3 h2.1 h2.2
  simpa using this
 split at hf
 ·rename_i fs hu
  obtain⟨cells',h1,h2⟩:=fin ((fs.toList.map fun f=>(f.offset,(szB P f.type).getD 0)).toArray[·]?) (by
   intro i off n hp
   unfold AbL at hp
   simp only[hu]at hp
   cases hfi:fs[i]? with
   | none=>simp[hfi]at hp
   | some fd=>
    simp only[hfi,Bool.and_eq_true,beq_iff_eq]at hp
    obtain⟨rfl,h2⟩:=hp
    have:fs.toList[i]? =some fd:=by simpa using hfi
    simp[this,h2])
  refine⟨_,?_,h2⟩
  have hm:(fs.mapM fun f=>do pure (f.offset,<-sizeOf f.type):Sem (Array (Nat×Nat))).run P w= .ok (fs.toList.map fun f=>(f.offset,(szB P f.type).getD 0)).toArray w:=by
   rw[Array.mapM_eq_mapM_toList]
   simp only[Sem.run_map,Ain _ hf,Result.andThen_ok]
  simp only[Instr.build,Sem.run_bind,hz1,Result.andThen_ok,run_underlying hu,hm,h1,Sem.run_pure]
 ·rename_i et hu
  obtain⟨n,hn⟩:=Option.isSome_iff_exists.1 hf
  obtain⟨cells',h1,h2⟩:=fin (fun i=>some (i*n,n)) (by
   intro i off m hp
   unfold AbL at hp
   simp only[hu,Bool.and_eq_true,beq_iff_eq]at hp
   obtain⟨h1,rfl⟩:=hp
   rw[hn]at h1
   cases h1
   rfl)
  refine⟨_,?_,h2⟩
  simp only[Instr.build,Sem.run_bind,hz1,Result.andThen_ok,run_underlying hu,Et hn,h1,Sem.run_pure]
 ·cases hf
end
end Go.Eng
namespace Go.Eng
section
variable {P:Program} {F:Fr} {β:Nat->Base} {own:Nat->Option (Nat×List Nat)} {H:Hp} {w w':World}
theorem ZM {isS:Bool} {len cap:Nat} {lo hi:Option Value} {l:Int} {h:Option Int} (hl:match lo with | none=>l=0 | some v=>∃k,v= .int k l)
 (hh:match hi,h with | none,none=>True | some v,some h=>∃k,v= .int k h | _,_=>False) (hlc:len<=cap) (h0:0<=l) (h1:l<=h.getD len) (h2:h.getD (len:Int)<=len):
 (Instr.sliceBounds isS len cap lo hi none).run P w= .ok (l.toNat,(h.getD len).toNat,cap) w:=by
 have hhi:∀(k:IntKind) (c:Instr.sliceBound (.int k (h.getD len))=Instr.sliceBound (.int k (h.getD len))),0<=h.getD (len:Int):=fun _ _=>by omega
 have e1:(((h.getD (len:Int)).toNat:Nat):Int)=h.getD len:=Int.toNat_of_nonneg (by omega)
 cases hi with
 | none=>
  cases h with
  | some _=>exact hh.elim
  | none=>
   simp only[Option.getD_none]at *
   cases lo with
   | none=>simp only at hl;subst hl;simp[Instr.sliceBounds]
   | some v=>
    obtain⟨k,rfl⟩:=hl
    simp only[Instr.sliceBounds,Sem.run_bind,Sem.run_pure,Result.andThen_ok]
    rw[run_sliceBound w k l len _ h0 h1]
    simp
 | some hv=>
  cases h with
  | none=>exact hh.elim
  | some h=>
   obtain⟨kh,rfl⟩:=hh
   simp only[Option.getD_some]at *
   cases lo with
   | none=>
    simp only at hl;subst hl
    simp only[Instr.sliceBounds,Sem.run_bind,Sem.run_pure,Result.andThen_ok]
    rw[run_sliceBound w kh h cap _ (by omega) (by omega)]
    simp
   | some v=>
    obtain⟨k,rfl⟩:=hl
    simp only[Instr.sliceBounds,Sem.run_bind,Sem.run_pure,Result.andThen_ok]
    rw[run_sliceBound w kh h cap _ (by omega) (by omega)]
    simp only[Result.andThen_ok]
    rw[run_sliceBound w k l h.toNat _ h0 (by omega)]
    simp
theorem Kl {l:Int} {h:Option Int} {n a b:Nat} (hb:bounds (some l) h n=some (a,b)):0<=l/\l<=h.getD n/\h.getD (n:Int)<=n/\a=l.toNat/\b=(h.getD n).toNat/\a<=b/\b<=n:=by
 unfold bounds at hb
 simp only at hb
 split at hb
 ·rename_i hc
  cases hb
  exact⟨hc.1,hc.2.1,hc.2.2,rfl,rfl,by omega,by omega⟩
 ·cases hb
theorem Mw {α:Type} (cs:List α) (e off len n:Nat) (hn:cs.length=n*e) (h:off+len<=n):((cs.drop (off*e)).take (len*e)).length=len*e:=by
 have h1:len*e<=(n-off)*e:=Nat.mul_le_mul_right _ (by omega)
 rw[Nat.sub_mul]at h1
 simp only[List.length_take,List.length_drop]
 omega
theorem ZG {b o off n:Nat} {vs:List Value} (h:Rds w b o vs):Rds w b (o+off) ((vs.drop off).take n):=by
 refine⟨AaC h.1 off n,?_⟩
 intro i hi
 simp at hi
 rw[EH,if_pos (by omega),Nat.add_assoc]
 exact h.2 (off+i) (by omega)
theorem Rd.seg {Ae:Nat->Option FuncId} {Q:Nat->Prop} {fl e len a b:Nat} {cs:List V} {x:Value} (h:Rd Ae w Q (.sl fl e len cs) x) (hab:a<=b) (hb:b<=len):
 ∃ad cap,x= .slice ad len cap/\Rd Ae w Q (.sl fl e (b-a) (Go.Eng.part cs e a (b-a))) (sliced ad a b cap e):=by
 cases h with
 | @sl _ _ _ _ ad cap vs hl hw hv hm hc=>
  refine⟨ad,cap,rfl,?_⟩
  have hlen:(Go.Eng.part cs e a (b-a)).length=(b-a)*e:=Mw cs e a (b-a) len hw (by omega)
  unfold sliced
  refine .sl (vs:=(vs.drop (a*e)).take ((b-a)*e)) (by omega) hlen (by rw[hlen];rw[Mw vs e a (b-a) len (by omega) (by omega)]) ?_ ?_
  ·rcases hm with hm | ⟨bl,o,rfl,hP,hr⟩
   ·left;subst hm;simp[Go.Eng.part]
   ·by_cases hca:cap=a
    ·left
     have:b-a=0:=by omega
     simp[Go.Eng.part,this]
    ·right
     rw[if_neg hca]
     exact⟨bl,o+a*e,by simp[JI],hP,ZG hr⟩
  ·intro i v y hv hy
   unfold Go.Eng.part at hv
   rw[EH]at hv hy
   split at hy
   ·rename_i hi;rw[if_pos hi]at hv;exact hc _ _ _ hv hy
   ·cases hy
theorem AnH {Hm:Hp} (inv:Inv F β own H w) (hm:∀k,Hm k=H k∨Hm k= .dead) {t:TypeId} {e:Nat} {a:Value} {va v:V}
 (ht:(∃s,va= .sc (.string s))->P.underlying t=some .string) (ht2:(¬∃s,va= .sc (.string s))->slB P t e=true)
 {lo hi:Option Value} {l:Int} {h:Option Int} (hl:match lo with | none=>l=0 | some v=>∃k,v= .int k l)
 (hh:match hi,h with | none,none=>True | some v,some h=>∃k,v= .int k h | _,_=>False)
 (ha:VR F β own H w va a) (hs:IV Hm e va (some l) h=some v):∃x,(Instr.sliceAt t a lo hi none).run P w= .ok x w/\VR F β own H w v x:=by
 have key:∀(ad:Option Addr) (len cap a b:Nat),slB P t e=true->len<=cap->bounds (some l) h len=some (a,b)->
  (Instr.sliceAt t (.slice ad len cap) lo hi none).run P w= .ok (sliced ad a b cap e) w:=by
  intro ad len cap a b hsl hlc hb
  obtain⟨et,hu,hsz,_⟩:=NS hsl
  obtain⟨b1,b2,b3,rfl,rfl,_,_⟩:=Kl hb
  simp only[Instr.sliceAt,Sem.run_bind,run_underlying hu,Result.andThen_ok,Instr.slice,ZM (P:=P) (w:=w) hl hh hlc b1 b2 b3,Et hsz,Sem.run_pure,sliced]
 cases va with
 | sc u=>
  cases u with
  | string s=>
   have:=JE ha;subst this
   have hu:=ht ⟨s,rfl⟩
   simp only[IV]at hs
   cases hb:bounds (some l) h s.size with
   | none=>simp[hb]at hs
   | some p=>
    obtain⟨p,q⟩:=p
    simp[hb]at hs;subst hs
    obtain⟨b1,b2,b3,rfl,rfl,_,_⟩:=Kl hb
    refine⟨_,?_,.sc rfl⟩
    simp only[Instr.sliceAt,Sem.run_bind,run_underlying hu,Result.andThen_ok,Instr.slice,ZM (P:=P) (w:=w) hl hh (Nat.le_refl _) b1 b2 b3,Sem.run_pure,Option.isSome_none,Bool.false_eq_true,
     if_false]
  | _=>simp[IV]at hs
 | sl fl e' len cs=>
  have hsl:=ht2 (by simp)
  cases fl with
  | zero=>simp[IV]at hs
  | succ fl=>
   simp only[IV]at hs
   cases hb:bounds (some l) h len with
   | none=>simp[hb]at hs
   | some p=>
    obtain⟨p,q⟩:=p
    simp only[hb]at hs
    split at hs
    ·rename_i hee;subst hee
     cases hs
     cases ha with
     | rd h1 hr=>
      obtain⟨_,_,_,_,_,b5,b6⟩:=Kl hb
      have hlc:∃ad cap,a= .slice ad len cap/\len<=cap:=by cases hr;exact⟨_,_,rfl,‹_›⟩
      obtain⟨ad,cap,hx,hr'⟩:=hr.seg b5 b6
      obtain⟨ad',cap',hx',hle⟩:=hlc
      rw[hx]at hx';cases hx'
      subst hx
      exact⟨_,key ad len cap p q hsl hle hb,.rd h1 hr'⟩
    ·cases hs
 | arr k=>
  have hsl:=ht2 (by simp)
  simp only[IV]at hs
  cases hk:Ac (Hm k)with
  | none=>simp[hk]at hs
  | some r=>
   obtain⟨e',t',len,cs⟩:=r
   simp only[hk]at hs
   cases hb:bounds (some l) h len with
   | none=>simp[hb]at hs
   | some p=>
    obtain⟨p,q⟩:=p
    simp only[hb]at hs
    split at hs
    ·rename_i hee;subst hee
     cases hs
     have hk':=Fe hm hk
     rw[EZ ha hk']
     obtain⟨vs,g1,g2,g3,g4,g5⟩:=Hz inv hk'
     obtain⟨_,_,_,_,_,b5,b6⟩:=Kl hb
     refine⟨_,key _ len _ p q hsl g3.1 hb,.sub hk' (by omega) ?_⟩
     unfold sliced
     refine⟨_,rfl,by omega,?_⟩
     by_cases hc:(β k).cap=p
     ·left;omega
     ·right;rw[if_neg hc]
    ·cases hs
 | sub k off len=>
  have hsl:=ht2 (by simp)
  simp only[IV]at hs
  cases hk:Ac (Hm k)with
  | none=>simp[hk]at hs
  | some r=>
   obtain⟨e',t',n,cs⟩:=r
   simp only[hk]at hs
   cases hb:bounds (some l) h len with
   | none=>simp[hb]at hs
   | some p=>
    obtain⟨p,q⟩:=p
    simp only[hb]at hs
    split at hs
    ·rename_i hee;subst hee
     cases hs
     have hk':=Fe hm hk
     obtain⟨hn,a',rfl,hx1,hx2⟩:=Jm ha hk'
     obtain⟨_,_,_,_,_,b5,b6⟩:=Kl hb
     refine⟨_,key _ len _ p q hsl (by omega) hb,.sub hk' (by omega) ?_⟩
     unfold sliced
     refine⟨if(β k).cap-off=p then a' else a'.map (·.add (p*e')),by rw[Nat.sub_sub],by omega,?_⟩
     by_cases hc:(β k).cap-off=p
     ·left;omega
     ·right
      rw[if_neg hc]
      rcases hx2 with hx2 | hx2
      ·omega
      ·subst hx2
       cases hba:(β k).a with
       | none=>rfl
       | some ad=>
        obtain⟨vs,g1,g2,g3,g4,g5⟩:=Hz inv hk'
        simp only[Option.map_some,Option.some.injEq]
        obtain⟨b0,o0,s0⟩:=ad
        by_cases hz:off*e' =0
        ·simp only[hz,Nat.add_mul,Nat.zero_add];simp[Addr.add]
        ·by_cases hz2:p*e' =0
         ·simp[Addr.add,Nat.add_mul,hz2,hz]
         ·simp[Addr.add,Nat.add_mul,hz2,hz,Nat.add_assoc]
    ·cases hs
 | nil e0=>simp[IV]at hs
 | _=>simp[IV]at hs
theorem O6:∀ {cs:List V} {l:List UInt8},Km cs=some l->∃ns:List Int,cs=ns.map (fun n=>V.sc (.int .u8 n))/\l=ns.map (fun n=>UInt8.ofNat n.toNat)
 | [],l,h=>by simp[Km]at h;subst h;exact⟨[],rfl,rfl⟩
 | c::cs,l,h=>by
  simp only[Km]at h
  cases hc:Aex c with
  | none=>simp[hc]at h
  | some b=>
   cases hr:Km cs with
   | none=>simp[hc,hr]at h
   | some r=>
    simp[hc,hr]at h;subst h
    obtain⟨ns,rfl,rfl⟩:=O6 hr
    unfold Aex at hc
    split at hc
    ·rename_i n;cases hc;exact⟨n::ns,rfl,rfl⟩
    ·cases hc
theorem O7 {Hm:Hp} (inv:Inv F β own H w) (hm:∀k,Hm k=H k∨Hm k= .dead) {va:V} {a:Value} (ha:VR F β own H w va a) {e len:Nat} {cs:List V}
 (h:content Hm va=some (e,len,cs)) (hsc:cs.all Mr=true):∃ad cap vs,a= .slice ad len cap/\cs.length=len*e/\len<=cap/\Pw (fun v x=>v= .sc x/\x.oneCell' =true) cs vs/\
  (cs=[]∨∃b o,ad=some ⟨b,o,none⟩/\Rds w b o vs):=by
 have scR:∀ {c:List V} {vs:List Value} {Q:V->Value->Prop},c.all Mr=true->Pw Q c vs->(∀v x,Mr v=true->Q v x->v= .sc x/\x.oneCell' =true)->Pw (fun v x=>v= .sc x/\x.oneCell' =true) c vs:=by
  intro c vs Q hall hp hq
  refine⟨hp.1,fun i v x hv hx=>hq v x ?_ (hp.2 i v x hv hx)⟩
  exact List.all_eq_true.1 hall v (List.mem_of_getElem? hv)
 have rdq:∀ {Q:Nat->Prop} (v:V) (x:Value),Mr v=true->Rd F.Ae w Q v x->v= .sc x/\x.oneCell' =true:=by
  intro Q v x hv h
  cases v<;>simp[Mr]at hv
  cases h;exact⟨rfl,‹_›⟩
 have owq:∀ {lim k:Nat} {p:List Nat} (v:V) (x:Value),Mr v=true->Ow F.Ae w own (F.S w own) lim k p v x->v= .sc x/\x.oneCell' =true:=by
  intro lim k p v x hv h
  cases v<;>simp[Mr]at hv
  cases h;exact⟨rfl,‹_›⟩
 cases va with
 | nil e0=>
  simp[content]at h
  obtain⟨rfl,rfl,rfl⟩:=h
  cases ha
  exact⟨none,0,[],rfl,by simp,Nat.le_refl _,⟨rfl,by simp⟩,.inl rfl⟩
 | sl fl e0 len0 c0=>
  cases fl with
  | zero=>simp[content]at h
  | succ fl=>
   simp[content]at h
   obtain⟨rfl,rfl,rfl⟩:=h
   cases ha with
   | rd h1 hr=>
    cases hr with
    | @sl _ _ _ _ ad cap vs hl hw hv hmm hc=>
     have hid:c0.map (AO (fl+1))=c0∨True:= .inr trivial
     refine⟨ad,cap,vs,rfl,by simpa using hw,hl,⟨by simpa using hv,?_⟩,?_⟩
     ·intro i v x hv' hx
      simp only[List.getElem?_map,Option.map_eq_some_iff]at hv'
      obtain⟨u,hu,rfl⟩:=hv'
      have hsu:Mr (AO (fl+1) u)=true:=List.all_eq_true.1 hsc _ (List.mem_map_of_mem (List.mem_of_getElem? hu))
      exact rdq _ _ hsu ((hc i u x hu hx).flag (fl+1))
     ·rcases hmm with hmm | ⟨b,o,h2,_,h3⟩
      ·left;subst hmm;rfl
      ·exact .inr ⟨b,o,h2,h3⟩
 | arr k=>
  simp only[content]at h
  cases hk:Ac (Hm k)with
  | none=>simp[hk]at h
  | some r=>
   obtain⟨e',t',len',c0⟩:=r
   simp[hk]at h
   obtain⟨rfl,rfl,rfl⟩:=h
   have hk':=Fe hm hk
   obtain⟨vs,g1,g2,g3,g4,g5⟩:=Hz inv hk'
   refine⟨_,_,vs,EZ ha hk',g2,g3.1,⟨g1,?_⟩,?_⟩
   ·intro i v x hv hx
    exact owq v x (List.all_eq_true.1 hsc v (List.mem_of_getElem? hv)) (g5 i v x hv hx)
   ·rcases g4 with g4 | ⟨b,o,h2,_,h3⟩
    ·left
     have:len'*e'<=(β k).cap*e':=Nat.mul_le_mul_right _ g3.1
     exact List.eq_nil_of_length_eq_zero (by omega)
    ·exact .inr ⟨b,o,h2,DF h3⟩
 | sub k off len0=>
  simp only[content]at h
  cases hk:Ac (Hm k)with
  | none=>simp[hk]at h
  | some r=>
   obtain⟨e',t',n,c0⟩:=r
   simp[hk]at h
   obtain⟨rfl,rfl,rfl⟩:=h
   have hk':=Fe hm hk
   obtain⟨hn,a',rfl,hx1,hx2⟩:=Jm ha hk'
   obtain⟨vs,g1,g2,g3,g4,g5⟩:=Hz inv hk'
   have hlen:=Mw c0 e' off len0 n g2 hn
   have hpw:Pw (fun v x=>∃i,Ow F.Ae w own (F.S w own) t' k [i] v x) c0 vs:=⟨g1,fun i v x hv hx=>⟨i,g5 i v x hv hx⟩⟩
   refine⟨_,_,(vs.drop (off*e')).take (len0*e'),rfl,hlen,by omega,scR hsc (hpw.seg _ _) (fun v x hv hq=>by obtain⟨i,hq⟩:=hq;exact owq v x hv hq),?_⟩
   rcases g4 with g4 | ⟨b,o,h2,_,h3⟩
   ·left
    have:n*e'<=(β k).cap*e':=Nat.mul_le_mul_right _ g3.1
    have h0:c0=[]:=List.eq_nil_of_length_eq_zero (by omega)
    subst h0;simp[Go.Eng.part]
   ·rcases hx2 with hx2 | hx2
    ·left
     have:len0=0:=by omega
     subst this;simp[Go.Eng.part]
    ·right
     subst hx2
     rw[h2]
     exact⟨b,o+off*e',by simp[JI],ZG (DF h3)⟩
 | _=>simp[content]at h
theorem Aax (ns:List Int):∀(s:ByteArray),ns.foldl (fun(r:ByteArray) n=>r.push (UInt8.ofNat n.toNat)) s=⟨s.data++(ns.map fun n=>UInt8.ofNat n.toNat).toArray⟩:=by
 induction ns with
 | nil=>intro s;simp
 | cons n ns ih=>
  intro s
  rw[List.foldl_cons,ih]
  congr 1
  show(s.push _).data++_=_
  simp[ByteArray.push]
def Am4 (P:Program) (src dst:TypeId):Bool:=
 match P.underlying src with
 | some (.slice e)=>(match P.underlying e with | some (.int .u8)=>true | _=>false)&&(match P.underlying dst with | some .string=>true | _=>false)
 | _=>false
theorem Amf {cs:List V} {l:List UInt8} (h:Km cs=some l):cs.all Mr=true:=by
 obtain⟨ns,rfl,_⟩:=O6 h
 simp[Mr]
theorem Aom {Hm:Hp} (inv:Inv F β own H w) (hm:∀k,Hm k=H k∨Hm k= .dead) {src dst:TypeId} (ht:Am4 P src dst=true) {a:Value} {va v:V} (ha:VR F β own H w va a)
 (h:AmL Hm va=some v):∃x,(convert src dst a).run P w= .ok x w/\VR F β own H w v x:=by
 unfold Am4 at ht
 split at ht
 ·rename_i e hs
  simp only[Bool.and_eq_true]at ht
  have he:P.underlying e=some (.int .u8):=by have:=ht.1;split at this<;>simp_all
  have hd:P.underlying dst=some .string:=by have:=ht.2;split at this<;>simp_all
  unfold AmL at h
  cases hc:content Hm va with
  | none=>simp[hc]at h
  | some r=>
   obtain⟨e',len,cs⟩:=r
   simp only[hc]at h
   split at h
   ·rename_i he1;subst he1
    cases hb:Km cs with
    | none=>simp[hb]at h
    | some l=>
     simp[hb]at h;subst h
     obtain⟨ad,cap,vs,rfl,h1,h2,h3,h4⟩:=O7 inv hm ha hc (Amf hb)
     obtain⟨ns,rfl,rfl⟩:=O6 hb
     have hvs:vs=ns.map (Value.int .u8):=by
      apply List.ext_getElem?
      intro i
      have hl:=h3.1
      simp at hl
      rcases Nat.lt_or_ge i ns.length with hi | hi
      ·have:=h3.2 i (.sc (.int .u8 ns[i])) vs[i] (by simp[hi]) (by simp)
       simp at this
       simp[hi,this.1,show i<vs.length by omega]
      ·simp[hi,hl]
     refine⟨_,?_,.sc rfl⟩
     rw[run_convert_bytes_string w src dst e _ len cap hs he hd]
     rcases h4 with h4 | ⟨b,o,rfl,hr⟩
     ·have:ns=[]:=by simpa using h4
      subst this
      simp at h1;subst h1
      cases ad with
      | none=>simp[Conv.bytesToString];rfl
      | some ad=>rw[run_bytesToString w ad 0 cap [] (by simp[loadCells,loadCellsFrom])];rfl
     ·subst hvs
      simp at h1
      rw[run_bytesToString w _ len cap ns (by
       have:=AgO (P:=P) hr (off:=0) (n:=len) (by simp[h1])
       simpa[<-h1,List.take_of_length_le]using this)]
      rw[Aax]
      simp[ByteArray.empty,ByteArray.emptyWithCapacity]
      rfl
   ·cases h
 ·cases ht
end
end Go.Eng
namespace Go.Eng
structure Moved (F:Fr) (own:Nat->Option (Nat×List Nat)) (w:World) (own':Nat->Option (Nat×List Nat)) (w':World) (S':Nat->Nat->Prop) (t:Nat)
 (ks:List Nat) (k:Nat) (μ:Nat->List Nat):Prop where
 lab:∀b k1 p,k1∈ks->own b=some (k1,p)->own' b=some (k,μ k1++p)/\w'.heap[b]? =w.heap[b]?
 ros:∀fl b,1<=fl->lv fl<=t->F.S w own fl b->S' fl b/\w'.heap[b]? =w.heap[b]?
section
variable {P:Program} {F:Fr} {β:Nat->Base} {own:Nat->Option (Nat×List Nat)} {H:Hp} {w w':World}
theorem PS {Hm:Hp} (hm:∀k,Hm k=H k∨Hm k= .dead) (ks:List Nat):∀k,BK ks Hm k=H k∨BK ks Hm k= .dead:=by
 intro k
 unfold BK
 split
 ·exact .inr rfl
 ·exact hm k
theorem Gs {Hm:Hp} {ks:List Nat} {k:Nat} {r:Nat×Nat×Nat×List V} (h:Ac (BK ks Hm k)=some r):k∉ks/\Ac (Hm k)=some r:=by
 unfold BK at h
 split at h
 ·simp[Ac]at h
 ·rename_i hk
  exact⟨by simpa using hk,h⟩
theorem ZA {fl:Nat} (h:1<=fl) (h2:lv fl=0):fl=3:=by
 unfold lv at h2
 split at h2
 ·omega
 ·rfl
 ·omega
theorem ArB (inv:Inv F β own H w) {k1 e t len:Nat} {cs:List V} (hk:Ac (H k1)=some (e,t,len,cs)) {own':Nat->Option (Nat×List Nat)} {S':Nat->Nat->Prop} {lim k:Nat} {q:List Nat}
 (hlim:t<=lim) (hlab:∀b p,own b=some (k1,p)->own' b=some (k,q++p)/\w'.heap[b]? =w.heap[b]?)
 (hro:∀fl b,1<=fl->lv fl<=t->F.S w own fl b->S' fl b/\w'.heap[b]? =w.heap[b]?):Ow F.Ae w' own' S' lim k q (.sl 0 e len cs) (.slice (β k1).a len (β k1).cap):=by
 obtain⟨vs,g1,g2,g3,g4,g5⟩:=Hz inv hk
 have hR:∀ {v:V} {x:Value} {fl:Nat},1<=fl->lv fl<=t->Rd F.Ae w (F.S w own fl) v x->Rd F.Ae w' (S' fl) v x:=
  fun h1 h2 h=>h.move (fun b hb=>(hro _ b h1 h2 hb).1) (fun b hb=>(hro _ b h1 h2 hb).2)
 have mv:∀ {p:List Nat} {v:V} {x:Value},Ow F.Ae w own (F.S w own) t k1 p v x->Ow F.Ae w' own' S' lim k (q++p) v x:=by
  intro p v x h
  induction h with
  | sc h1=>exact .sc h1
  | own hl hw hv hm hc ih=>
   refine .own hl hw hv ?_ (fun i v x hv hx=>by simpa using ih i v x hv hx)
   rcases hm with hm | ⟨b,o,ha,hb,hr⟩
   ·exact .inl hm
   ·exact .inr ⟨b,o,ha,(hlab b _ hb).1,EU hr (hlab b _ hb).2⟩
  | ro h1 h2 h=>exact .ro h1 (Nat.le_trans h2 hlim) (hR h1 h2 h)
  | ptr hv hb hm hc ih=>exact .ptr hv (hlab _ _ hb).1 (EU hm (hlab _ _ hb).2) (fun i v x hv hx=>by simpa using ih i v x hv hx)
  | rptr h1 h2 h=>exact .rptr h1 (Nat.le_trans h2 hlim) (hR h1 h2 h)
  | fn h2 h=>exact .fn (Nat.le_trans h2 hlim) (hR (Nat.le_refl 1) h2 h)
  | agg h1 hv hc ih=>exact .agg h1 hv (fun i v x hv hx=>by simpa using ih i v x hv hx)
  | tup hv hc ih=>exact .tup hv (fun i v x hv hx=>by simpa using ih i v x hv hx)
  | undef=>exact .undef
 refine .own g3 g2 g1 ?_ (fun i v x hv hx=>mv (g5 i v x hv hx))
 rcases g4 with g4 | ⟨b,o,h1,h2,h3⟩
 ·exact .inl g4
 ·refine .inr ⟨b,o,h1,?_,EU h3 (hlab b [] h2).2⟩
  simpa using(hlab b [] h2).1
theorem AaF (inv:Inv F β own H w) {Hm:Hp} (hm:∀k,Hm k=H k∨Hm k= .dead) {v v':V} {x:Value} {t:Nat} {ks:List Nat} (hv:VR F β own H w v x)
 (h:MX Hm v=some (v',t,ks)):
 (∀k1,k1∈ks->(Ac (Hm k1)).isSome=true)/\ks.Nodup/\x.oneCell' =true/\
 ∀ {own':Nat->Option (Nat×List Nat)} {w':World} {S':Nat->Nat->Prop} {lim k:Nat} {μ:Nat->List Nat} {q:List Nat},t<=lim->(∀k1,k1∈ks->μ k1=q)->
  Moved F own w own' w' S' t ks k μ->Ow F.Ae w' own' S' lim k q v' x:=by
 cases v with
 | sc u=>cases h;cases hv;exact⟨by simp,by simp,‹_›,fun _ _ _=> .sc ‹_›⟩
 | nil e=>cases h;cases hv;exact⟨by simp,by simp,rfl,fun _ _ _=> .own (vs:=[]) ⟨Nat.le_refl 0,by omega⟩ (by simp) rfl (.inl (by simp)) (by simp)⟩
 | sl fl e len cs=>
  cases fl with
  | zero=>simp[MX]at h
  | succ fl=>
   simp[MX]at h
   obtain⟨rfl,rfl,rfl⟩:=h
   cases hv with
   | rd h1 hr=>
    refine⟨by simp,by simp,by cases hr;rfl,?_⟩
    intro own' w' S' lim k μ q hl _ mv
    exact .ro h1 hl (hr.move (fun b hb=>(mv.ros _ b h1 (Nat.le_refl _) hb).1) (fun b hb=>(mv.ros _ b h1 (Nat.le_refl _) hb).2))
 | arr k1=>
  simp only[MX]at h
  cases hk:Ac (Hm k1)with
  | none=>simp[hk]at h
  | some r=>
   obtain⟨e,t',len,cs⟩:=r
   simp only[hk]at h
   cases h
   have hk':=Fe hm hk
   refine⟨by simp[hk],by simp,by rw[EZ hv hk'];rfl,?_⟩
   intro own' w' S' lim k μ q hl hq mv
   rw[EZ hv hk']
   refine ArB inv hk' hl (fun b p hb=> ?_) (fun fl b h1 h2 hs=>mv.ros fl b h1 h2 hs)
   have:=mv.lab b k1 p (by simp) hb
   rw[hq k1 (by simp)]at this
   exact this
 | _=>simp[MX]at h
theorem Moved.sub {own':Nat->Option (Nat×List Nat)} {S':Nat->Nat->Prop} {t t':Nat} {ks ks':List Nat} {k:Nat} {μ:Nat->List Nat} (m:Moved F own w own' w' S' t ks k μ)
 (hs:∀k,k∈ks'->k∈ks) (ht:t'<=t):Moved F own w own' w' S' t' ks' k μ:=
 ⟨fun b k1 p h1 h2=>m.lab b k1 p (hs _ h1) h2,fun fl b h1 h2 h3=>m.ros fl b h1 (Nat.le_trans h2 ht) h3⟩
theorem Px (inv:Inv F β own H w):∀ {vs vs':List V} {xs:List Value} {Hm:Hp} {t:Nat} {ks:List Nat} (i0:Nat) (pre:List Nat),(∀k,Hm k=H k∨Hm k= .dead)->
 Pw (VR F β own H w) vs xs->Kn Hm vs=some (vs',t,ks)->
 (∀k1,k1∈ks->(Ac (Hm k1)).isSome=true)/\ks.Nodup/\Fj xs/\vs'.length=vs.length/\∃μ:Nat->List Nat,(∀k1,∃i,μ k1=pre++ [i0+i])/\
 ∀ {own':Nat->Option (Nat×List Nat)} {w':World} {S':Nat->Nat->Prop} {lim k:Nat} {μ':Nat->List Nat},t<=lim->(∀k1,k1∈ks->μ' k1=μ k1)->
  Moved F own w own' w' S' t ks k μ'->∀(i:Nat) (v:V) (x:Value),vs'[i]? =some v->xs[i]? =some x->Ow F.Ae w' own' S' lim k (pre++ [i0+i]) v x:=by
 intro vs
 induction vs with
 | nil=>
  intro vs' xs Hm t ks i0 pre hm hv h
  cases h
  rw[hv.N8]
  exact⟨by simp,by simp,by simp[Fj],rfl,fun _=>pre++ [i0+0],fun _=>⟨0,rfl⟩,by simp⟩
 | cons v r ih=>
  intro vs' xs Hm t ks i0 pre hm hv h
  obtain⟨x,xr,rfl,hvx,hr⟩:=hv.Nf
  simp only[Kn]at h
  cases h1:MX Hm v with
  | none=>simp[h1]at h
  | some p1=>
   obtain⟨v1,t1,ks1⟩:=p1
   simp only[h1]at h
   cases h2:Kn (BK ks1 Hm) r with
   | none=>simp[h2]at h
   | some p2=>
    obtain⟨r2,t2,ks2⟩:=p2
    simp only[h2]at h
    cases h
    obtain⟨a1,a2,a3,a4⟩:=AaF inv hm hvx h1
    obtain⟨b1,b2,b3,b4,μ,b5,b6⟩:=ih (i0+1) pre (PS hm ks1) hr h2
    have hb1:∀k1,k1∈ks2->k1∉ks1/\(Ac (Hm k1)).isSome=true:=by
     intro k1 hk1
     obtain⟨r,hr⟩:=Option.isSome_iff_exists.1 (b1 k1 hk1)
     obtain⟨g1,g2⟩:=Gs hr
     exact⟨g1,by rw[g2];rfl⟩
    refine⟨?_,?_,?_,by simp[b4],fun k1=>if k1∈ks1 then pre++ [i0+0]else μ k1,?_,?_⟩
    ·intro k1 hk1
     rcases List.mem_append.1 hk1 with g | g
     ·exact a1 k1 g
     ·exact(hb1 k1 g).2
    ·rw[List.nodup_append]
     exact⟨a2,b2,fun a ha b hb hab=>(hb1 b hb).1 (hab▸ha)⟩
    ·intro y hy
     rcases List.mem_cons.1 hy with g | g
     ·subst g;exact a3
     ·exact b3 y g
    ·intro k1
     dsimp only
     split
     ·exact⟨0,rfl⟩
     ·obtain⟨i,hi⟩:=b5 k1
      exact⟨i+1,by rw[hi];congr 2;omega⟩
    ·intro own' w' S' lim k μ' hl hμ mv i u y hu hy
     cases i with
     | zero=>
      simp at hu hy;subst hu;subst hy
      refine a4 (μ:=μ') (by omega) (fun k1 hk1=> ?_) (mv.sub (by simp;intro k hk;exact .inl hk) (by omega))
      rw[hμ k1 (by simp[hk1])]
      simp[hk1]
     | succ i=>
      have:=b6 (own':=own') (w':=w') (S':=S') (lim:=lim) (k:=k) (μ':=μ') (by omega) (fun k1 hk1=> ?_) (mv.sub (by simp;intro k hk;exact .inr hk) (by omega)) i u y (by simpa using hu) (by simpa using hy)
      ·rw[show i0+(i+1)=i0+1+i by omega];exact this
      ·rw[hμ k1 (by simp[hk1])]
       simp[(hb1 k1 hk1).1]
end
end Go.Eng
namespace Go.Eng
theorem ES (ks:List Nat) (k:Nat) (o:O) (H:Hp) (j:Nat):
 Al H (C8 ks++ [(k,o)]) j=if j=k then o else if j∈ks then .dead else H j:=by
 induction ks generalizing H with
 | nil=>simp[C8,Al]
 | cons c ks ih=>
  have:=ih (fun i=>if i=c then .dead else H i)
  simp only[C8,List.map_cons,List.cons_append,Al]at this⊢
  rw[this]
  by_cases h1:j=k
  ·simp[h1]
  ·by_cases h2:j∈ks
   ·simp[h1,h2]
   ·by_cases h3:j=c<;>simp[h1,h2,h3]
theorem Gb (ks:List Nat) (k:Nat) (o:O) (j:Nat):(j∈(C8 ks++ [(k,o)]).map (·.1))↔j∈ks∨j=k:=by
 simp[C8]
section
variable {P:Program} {F:Fr} {β:Nat->Base} {own:Nat->Option (Nat×List Nat)} {H:Hp} {w w':World}
def Cq (own:Nat->Option (Nat×List Nat)) (new:Option Nat) (ds:List Nat) (k:Nat) (ν:Nat->List Nat->List Nat):Nat->Option (Nat×List Nat):=fun b=>
 if new=some b then some (k,[])else match own b with
  | some (k1,p)=>if k1∈ds then some (k,ν k1 p)else some (k1,p)
  | none=>none
theorem RD {Hm:Hp} (hm:∀k,Hm k=H k∨Hm k= .dead) {k:Nat} (h:Hm k= .free):H k= .free:=by
 rcases hm k with g | g
 ·rw[<-g];exact h
 ·rw[g]at h;cases h
theorem Step.gen (inv:Inv F β own H w) {k:Nat} (hk:H k= .free) {new:Option Nat} (hnew:∀b,new=some b->b=w.heap.size/\b<w'.heap.size) (hsz:w.heap.size<=w'.heap.size)
 (ho:w'.os=w.os) (ht:w'.tape=w.tape) (hu:w'.output=w.output)
 {ds:List Nat} (hd:∀j,j∈ds->(Ac (H j)).isSome=true)
 (hblk:∀b,b<w.heap.size->(∀k1,k1∈ds->own b≠some (k1,[]))->w'.heap[b]? =w.heap[b]?)
 {ν:Nat->List Nat->List Nat} (hν:∀k1 p,p≠ []->ν k1 p≠ []) (o:O) (B:Base):
 Step F β own H w (fun j=>if j=k then B else β j) (Cq own new ds k ν) (Al H (C8 ds++ [(k,o)])) w' (fun j=>j∈(C8 ds++ [(k,o)]).map (·.1)):=by
 have hdk:k∉ds:=fun h=>by have:=hd k h;rw[hk]at this;simp[Ac]at this
 have hnb:∀b,b<w.heap.size->new≠some b:=fun b hb h=>by have:=(hnew b h).1;omega
 refine⟨hsz,ho,ht,hu,?_,?_,?_,?_,?_,?_,?_,?_,?_,?_⟩
 ·intro b hb hn
  exact hblk b hb (fun k1 h1 h2=>hn k1 [] h2 (by rw[Gb];exact .inl h1))
 ·intro _ b hb hn
  refine⟨hblk b hb (fun k1 _=>hn k1),fun k'=> ?_⟩
  unfold Cq
  rw[if_neg (hnb b hb)]
  cases hob:own b with
  | none=>simp
  | some q=>
   obtain⟨k1,p⟩:=q
   simp only
   have hp:p≠ []:=fun hp=>hn k1 (by rw[hob,hp])
   split
   ·simp;intro _;exact hν k1 p hp
   ·simp;intro _;exact hp
 ·intro b k1 p hb hK
  rw[Gb]at hK
  unfold Cq
  rw[if_neg (hnb b (inv.ownb b _ hb).1),hb]
  simp only
  rw[if_neg (fun h=>hK (.inl h))]
 ·intro b p hb
  unfold Cq at hb
  split at hb
  ·rename_i h
   have:=hnew b h
   exact⟨this.2,fun h2=>by omega⟩
  ·cases hob:own b with
   | none=>simp[hob]at hb
   | some q=>exact⟨Nat.lt_of_lt_of_le (inv.ownb b q hob).1 hsz,by simp⟩
 ·intro j hj
  rw[Gb]at hj
  rw[ES]
  have h1:j≠k:=fun h=>hj (.inr h)
  have h2:j∉ds:=fun h=>hj (.inl h)
  simp[h1,h2]
 ·intro j e t len cs hj hH
  rw[Gb]at hj
  rcases hj with hj | hj
  ·left
   rw[ES,if_neg (fun(h:j=k)=>hdk (h▸hj)),if_pos hj]
  ·subst hj;rw[hk]at hH;simp[Ac]at hH
 ·intro j cs hj hH
  rw[Gb]at hj
  rcases hj with hj | hj
  ·left
   rw[ES,if_neg (fun(h:j=k)=>hdk (h▸hj)),if_pos hj]
  ·subst hj;rw[hk]at hH;cases hH
 ·intro j hj hH
  rw[Gb]at hj
  rcases hj with hj | hj
  ·rw[ES,if_neg (fun(h:j=k)=>hdk (h▸hj)),if_pos hj]
  ·subst hj;rw[hk]at hH;cases hH
 ·intro j hj hH
  rw[Gb]at hj
  rcases hj with hj | hj
  ·rw[ES,if_neg (fun(h:j=k)=>hdk (h▸hj)),if_pos hj];simp
  ·subst hj;exact absurd hk hH
 ·intro s j off e t len cs hs hH hj ha
  rw[Gb]at hj
  rcases hj with hj | hj
  ·rw[ES,if_neg (fun(h:j=k)=>hdk (h▸hj)),if_pos hj]at ha
   simp[GK]at ha
  ·subst hj
   have:=inv.objs s
   rw[hH]at this
   exact absurd hk this.2.2.1.2
theorem Step.new (inv:Inv F β own H w) {k:Nat} (hk:H k= .free) {obj:Obj} (hh:w'.heap=w.heap.push obj) (ho:w'.os=w.os) (ht:w'.tape=w.tape) (hu:w'.output=w.output)
 {ds:List Nat} (hd:∀j,j∈ds->(Ac (H j)).isSome=true) {ν:Nat->List Nat->List Nat} (hν:∀k1 p,p≠ []->ν k1 p≠ []) (o:O) (B:Base):
 Step F β own H w (fun j=>if j=k then B else β j) (Cq own (some w.heap.size) ds k ν) (Al H (C8 ds++ [(k,o)])) w' (fun j=>j∈(C8 ds++ [(k,o)]).map (·.1)):=by
 have hsz:w'.heap.size=w.heap.size+1:=by rw[hh];simp
 refine Step.gen inv hk (fun b hb=>by cases hb;exact⟨rfl,by omega⟩) (by omega) ho ht hu hd (fun b hb _=> ?_) hν o B
 rw[hh,Array.getElem?_push,if_neg (by omega)]
theorem AoB {obj:Array Value} {et:TypeId} (hh:w'.heap=w.heap.push (.cells obj et)) (h1:Fj obj.toList):Has w' w.heap.size 0 obj.toList obj.size:=
 ⟨h1,obj,et,by rw[hh];simp,by simp,by simp,fun i _=>by simp⟩
theorem Wn (inv:Inv F β own H w) {k:Nat} (hk:H k= .free) {ds:List Nat} (hd:∀j,j∈ds->(Ac (H j)).isSome=true) (o:O) (B:Base):
 ∀j,j∈(C8 ds++ [(k,o)]).map (·.1)->j<F.ngiven->Al H (C8 ds++ [(k,o)]) j≠ .dead->
  (fun j=>if j=k then B else β j) j=β j/\H j≠ .dead:=by
 intro j hj hlt hnd
 rw[Gb]at hj
 rcases hj with hj | hj
 ·have hdk:j≠k:=fun h=>by subst h;have:=hd j hj;rw[hk]at this;simp[Ac]at this
  rw[ES,if_neg hdk,if_pos hj]at hnd
  exact absurd rfl hnd
 ·subst hj;exact absurd hk (inv.gfree j hlt)
theorem QS {β':Nat->Base} {own':Nat->Option (Nat×List Nat)} {k:Nat} (hk:H k= .free) {ds:List Nat} (hd:∀j,j∈ds->(Ac (H j)).isSome=true) {o:O}
 (hok:OR F β' own' (Al H (C8 ds++ [(k,o)])) w' k o):
 ∀j,j∈(C8 ds++ [(k,o)]).map (·.1)->OR F β' own' (Al H (C8 ds++ [(k,o)])) w' j (Al H (C8 ds++ [(k,o)]) j):=by
 intro j hj
 rw[Gb]at hj
 rcases hj with hj | hj
 ·have hdk:j≠k:=fun h=>by subst h;have:=hd j hj;rw[hk]at this;simp[Ac]at this
  rw[ES,if_neg hdk,if_pos hj]
  trivial
 ·subst hj
  rw[ES,if_pos rfl]
  exact hok
theorem AjW (inv:Inv F β own H w) {Hm:Hp} (hm:∀k,Hm k=H k∨Hm k= .dead) {k:Nat} {oc:Option (List V)} {v:V} {u:DL} (h:Ab3 Hm k oc=some (v,u))
 {x:Value} {et:TypeId} (hc:∀cs,oc=some cs->Pw (VR F β own H w) cs x.cells.toList/\Fj x.cells.toList) {r:Result Next}
 (hr:r= .ok (.value (.pointer (some ⟨w.heap.size,0,none⟩))) {w with heap:=w.heap.push (.cells x.cells et)}):Z8 F β own H w r v u:=by
 unfold Ab3 at h
 split at h
 ·rename_i cs hf
  cases h
  obtain⟨h1,h2⟩:=hc _ rfl
  have hk:=RD hm hf
  have st:=Step.new (w':={w with heap:=w.heap.push (.cells x.cells et)}) inv hk rfl rfl rfl rfl (ds:=[]) (by simp) (ν:=fun _ p=>p) (fun _ _ h=>h) (.var cs)
   ⟨some ⟨w.heap.size,0,none⟩,0⟩
  have hor:=QS (F:=F) (w':={w with heap:=w.heap.push (.cells x.cells et)}) (β':=fun j=>if j=k then⟨some ⟨w.heap.size,0,none⟩,0⟩else β j)
   (own':=Cq own (some w.heap.size) [] k fun _ p=>p) hk (ds:=[]) (by simp) (o:= .var cs) (by
    refine⟨w.heap.size,0,x.cells.toList,by simp,by simp[Cq],h1.1,?_,fun i v y hv hy=>st.vr inv (h1.2 i v y hv hy)⟩
    simpa using AoB (w:=w) (w':={w with heap:=w.heap.push (.cells x.cells et)}) rfl h2)
  refine⟨_,_,_,_,.inl hr,fun _ _ h=>st.vr inv h,st.inv inv hor (Wn inv hk (ds:=[]) (by simp) _ _),?_⟩
  have:VR F (fun j=>if j=k then⟨some ⟨w.heap.size,0,none⟩,0⟩else β j) (Cq own (some w.heap.size) [] k fun _ p=>p) (Al H (C8 []++ [(k,.var cs)]))
   {w with heap:=w.heap.push (.cells x.cells et)} (.ptr k 0) (.pointer (some ⟨w.heap.size,0+0,none⟩)):=
   .ptr (.inr ⟨cs,by simp[Al,C8]⟩) (by simp)
  exact this
 ·cases h
end
end Go.Eng
namespace Go.Eng
section
variable {P:Program} {F:Fr} {β:Nat->Base} {own:Nat->Option (Nat×List Nat)} {H:Hp} {w w':World}
theorem R4 {α:Type} (A ys:List α):∀(B:List α),ys.length<=B.length->putAt (A++B) A.length ys=A++ys++B.drop ys.length:=by
 induction ys generalizing A with
 | nil=>intro B _;simp[putAt]
 | cons y ys ih=>
  intro B hB
  cases B with
  | nil=>simp at hB
  | cons b B=>
   simp only[putAt]
   have:(A++b::B).set A.length y=(A++ [y])++B:=by simp
   rw[this]
   have:=ih (A++ [y]) B (by simpa using hB)
   simp at this⊢
   exact this
theorem Afx {e n:Nat}:∀(xs:List Value) (j:Nat) (A:List Value) (cells:Array Value),(∀x,x∈xs->x.cells.size=e)->A.length=j*e->cells.toList.take (j*e)=A->cells.size=(j+xs.length)*e->
 ∃cells',Instr.fill (fun i=>some (i*e,e)) cells ((xs.zipIdx j).map fun p=>(p.2,p.1))=some cells'/\cells'.toList=A++xs.flatMap (fun x=>x.cells.toList)
 | [],j,A,cells,_,hA,ht,hs=>by
  refine⟨cells,rfl,?_⟩
  simp at hs
  simp only[List.flatMap_nil,List.append_nil]
  rw[<-ht,List.take_of_length_le]
  simp[hs]
 | x::xs,j,A,cells,hx,hA,ht,hs=>by
  have hsz:x.cells.size=e:=hx x (by simp)
  simp only[List.zipIdx_cons,List.map_cons,Instr.fill]
  have hle:j*e+e<=cells.size:=by
   rw[hs]
   have:(j+1)*e<=(j+(x::xs).length)*e:=Nat.mul_le_mul_right _ (by simp)
   rw[Nat.add_mul]at this
   omega
  rw[if_neg (by simp;omega)]
  have hput:(x.cells.zipIdx.foldl (fun cs (c,i)=>cs.setIfInBounds (j*e+i) c) cells).toList=A++x.cells.toList++(cells.toList.drop (j*e)).drop e:=by
   have h1:=AdA x.cells.toList (j*e) 0 cells
   have h2:(x.cells.zipIdx.foldl (fun cs (c,i)=>cs.setIfInBounds (j*e+i) c) cells).toList=putAt cells.toList (j*e) x.cells.toList:=by
    rw[<-Array.foldl_toList];simpa using h1
   rw[h2]
   have h3:cells.toList=A++cells.toList.drop (j*e):=by rw[<-ht,List.take_append_drop]
   have h4:=R4 A x.cells.toList (cells.toList.drop (j*e)) (by simp;omega)
   rw[<-h3,hA]at h4
   rw[h4]
   simp[hsz]
  have hA2:(A++x.cells.toList).length=(j+1)*e:=by simp[hA,hsz,Nat.add_mul]
  obtain⟨cells',h1,h2⟩:=Afx (n:=n) xs (j+1) (A++x.cells.toList) (x.cells.zipIdx.foldl (fun cs (c,i)=>cs.setIfInBounds (j*e+i) c) cells) (fun y hy=>hx y (by simp[hy])) hA2
   (by rw[hput,<-hA2,List.take_left'];rfl) (by
    have:=congrArg List.length hput
    rw[Array.length_toList]at this
    rw[this]
    have e1:(j+(x::xs).length)*e=(j+1+xs.length)*e:=by congr 1;simp;omega
    rw[<-e1,<-hs]
    simp only[List.length_append,List.length_drop,Array.length_toList,hA,hsz]
    omega)
  refine⟨cells',h1,?_⟩
  rw[h2]
  simp[List.flatMap_cons]
theorem AhT (inv:Inv F β own H w) {ev:Src->V} {e:Nat}:∀ {parts:List Src} {xs:List Value} {Hm:Hp} {cs:List V} {t:Nat} {ks:List Nat} (i0:Nat),(∀k,Hm k=H k∨Hm k= .dead)->
 parts.length=xs.length->(∀(j:Nat) (s:Src) (x:Value),parts[j]? =some s->xs[j]? =some x->VR F β own H w (ev s) x)->Adf ev e Hm parts=some (cs,t,ks)->
 (∀x,x∈xs->x.cells.size=e)/\(∀k1,k1∈ks->(Ac (Hm k1)).isSome=true)/\ks.Nodup/\Fj (xs.flatMap fun x=>x.cells.toList)/\cs.length=xs.length*e/\
 (xs.flatMap fun x=>x.cells.toList).length=xs.length*e/\∃μ:Nat->List Nat,(∀k1,∃i,μ k1=[i])/\
 ∀ {own':Nat->Option (Nat×List Nat)} {w':World} {S':Nat->Nat->Prop} {lim k:Nat} {μ':Nat->List Nat},t<=lim->(∀k1,k1∈ks->μ' k1=μ k1)->
  Moved F own w own' w' S' t ks k μ'->∀(i:Nat) (v:V) (x:Value),cs[i]? =some v->(xs.flatMap fun x=>x.cells.toList)[i]? =some x->Ow F.Ae w' own' S' lim k [i0+i] v x:=by
 intro parts
 induction parts with
 | nil=>
  intro xs Hm cs t ks i0 hm hl hv h
  cases xs with
  | cons=>simp at hl
  | nil=>
   cases h
   exact⟨by simp,by simp,by simp,by simp[Fj],by simp,by simp,fun _=> [0],fun _=>⟨0,rfl⟩,by simp⟩
 | cons s parts ih=>
  intro xs Hm cs t ks i0 hm hl hv h
  cases xs with
  | nil=>simp at hl
  | cons x xs=>
   simp only[Adf]at h
   cases hc:cellsOf (ev s)with
   | none=>simp[hc]at h
   | some ps=>
    simp only[hc]at h
    split at h
    ·rename_i hpe
     cases h1:Kn Hm ps with
     | none=>simp[h1]at h
     | some p1=>
      obtain⟨v1,t1,ks1⟩:=p1
      simp only[h1]at h
      cases h2:Adf ev e (BK ks1 Hm) parts with
      | none=>simp[h2]at h
      | some p2=>
       obtain⟨r2,t2,ks2⟩:=p2
       simp only[h2]at h
       cases h
       obtain⟨c1,c2⟩:=PL (hv 0 s x (by simp) (by simp)) hc
       obtain⟨a1,a2,a3,a4,μa,a5,a6⟩:=Px inv i0 [] hm c1 h1
       obtain⟨b0,b1,b2,b3,b4,b4',μb,b5,b6⟩:=ih (xs:=xs) (i0+e) (PS hm ks1) (by simpa using hl) (fun j s x hs hx=>hv (j+1) s x (by simpa using hs) (by simpa using hx)) h2
       have hx0:x.cells.toList.length=e:=by rw[c1.1,hpe]
       have hb1:∀k1,k1∈ks2->k1∉ks1/\(Ac (Hm k1)).isSome=true:=by
        intro k1 hk1
        obtain⟨r,hr⟩:=Option.isSome_iff_exists.1 (b1 k1 hk1)
        obtain⟨g1,g2⟩:=Gs hr
        exact⟨g1,by rw[g2];rfl⟩
       refine⟨?_,?_,?_,?_,?_,?_,fun k1=>if k1∈ks1 then μa k1 else μb k1,?_,?_⟩
       ·intro y hy
        rcases List.mem_cons.1 hy with g | g
        ·subst g;simpa using hx0
        ·exact b0 y g
       ·intro k1 hk1
        rcases List.mem_append.1 hk1 with g | g
        ·exact a1 k1 g
        ·exact(hb1 k1 g).2
       ·rw[List.nodup_append]
        exact⟨a2,b2,fun a ha b hb hab=>(hb1 b hb).1 (hab▸ha)⟩
       ·intro y hy
        rw[List.flatMap_cons]at hy
        rcases List.mem_append.1 hy with g | g
        ·exact a3 y g
        ·exact b3 y g
       ·simp[a4,hpe,b4,Nat.add_mul,Nat.add_comm]
       ·rw[List.flatMap_cons,List.length_append,hx0,b4'];simp[Nat.add_mul,Nat.add_comm]
       ·intro k1
        dsimp only
        split
        ·obtain⟨i,hi⟩:=a5 k1;exact⟨i0+i,by simpa using hi⟩
        ·exact b5 k1
       ·intro own' w' S' lim k μ' hlim hμ mv i v y hv' hy
        have hv1:v1.length=e:=by rw[a4,hpe]
        rw[List.flatMap_cons]at hy
        rcases Nat.lt_or_ge i e with hi | hi
        ·rw[List.getElem?_append_left (by omega)]at hv' hy
         have:=a6 (own':=own') (w':=w') (S':=S') (lim:=lim) (k:=k) (μ':=μ') (by omega) (fun k1 hk1=>by rw[hμ k1 (by simp[hk1])];simp[hk1])
          (mv.sub (by simp;intro k hk;exact .inl hk) (by omega)) i v y hv' hy
         simpa using this
        ·rw[List.getElem?_append_right (by omega)]at hv' hy
         rw[hv1]at hv'
         rw[hx0]at hy
         have:=b6 (own':=own') (w':=w') (S':=S') (lim:=lim) (k:=k) (μ':=μ') (by omega) (fun k1 hk1=>by rw[hμ k1 (by simp[hk1])];simp[(hb1 k1 hk1).1])
          (mv.sub (by simp;intro k hk;exact .inr hk) (by omega)) (i-e) v y hv' hy
         rw[show i0+e+(i-e)=i0+i by omega]at this
         exact this
    ·cases h
theorem Ahe (inv:Inv F β own H w) {k e t len:Nat} (hk:H k= .free) {cs:List V} {ds:List Nat} (hd:∀j,j∈ds->(Ac (H j)).isSome=true) {ν:Nat->List Nat->List Nat}
 (hν:∀k1 p,p≠ []->ν k1 p≠ []) {vs:List Value} {cap:Nat} {obj:Array Value} {et:TypeId} {w':World} (hh:w'.heap=w.heap.push (.cells obj et)) (ho:w'.os=w.os) (ht:w'.tape=w.tape)
 (hu:w'.output=w.output) (hobj:obj.toList.take vs.length=vs) (hones:Fj vs) (hcap:obj.size=cap*e) (hl:cs.length=len*e) (hvs:vs.length=cs.length) (hlc:len<=cap/\cap<=9223372036854775807)
 (hc:∀(i:Nat) (v:V) (x:Value),cs[i]? =some v->vs[i]? =some x->
  Ow F.Ae w' (Cq own (some w.heap.size) ds k ν) (F.S w' (Cq own (some w.heap.size) ds k ν)) t k [i] v x)
 :(∀z y,VR F β own H w z y->VR F (fun j=>if j=k then⟨some ⟨w.heap.size,0,none⟩,cap⟩else β j) (Cq own (some w.heap.size) ds k ν) (Al H (C8 ds++ [(k,.arr e t len cs)])) w' z y)/\
  Inv F (fun j=>if j=k then⟨some ⟨w.heap.size,0,none⟩,cap⟩else β j) (Cq own (some w.heap.size) ds k ν) (Al H (C8 ds++ [(k,.arr e t len cs)])) w'/\
  VR F (fun j=>if j=k then⟨some ⟨w.heap.size,0,none⟩,cap⟩else β j) (Cq own (some w.heap.size) ds k ν) (Al H (C8 ds++ [(k,.arr e t len cs)])) w' (.arr k) (.slice (some ⟨w.heap.size,0,none⟩) len cap):=by
 have st:=Step.new inv hk hh ho ht hu hd hν (.arr e t len cs) ⟨some ⟨w.heap.size,0,none⟩,cap⟩
 have hvl:vs.length<=obj.size:=by
  have:=congrArg List.length hobj
  simp at this
  omega
 have hor:=QS (F:=F) (w':=w') (β':=fun j=>if j=k then⟨some ⟨w.heap.size,0,none⟩,cap⟩else β j) (own':=Cq own (some w.heap.size) ds k ν) hk hd (o:= .arr e t len cs) (by
  refine⟨vs,hvs,hl,by simpa using hlc,?_,hc⟩
  right
  refine⟨w.heap.size,0,by simp,by simp[Cq],hones,obj,et,by rw[hh];simp,by simp[hcap],by simp only[if_true];omega,?_⟩
  intro i hi
  rw[<-hobj,List.getElem?_take,if_pos hi]
  simp)
 refine⟨fun _ _ h=>st.vr inv h,st.inv inv hor (Wn inv hk hd _ _),?_⟩
 have:=VR.arr (F:=F) (β:=fun j=>if j=k then⟨some ⟨w.heap.size,0,none⟩,cap⟩else β j) (own:=Cq own (some w.heap.size) ds k ν) (H:=Al H (C8 ds++ [(k,.arr e t len cs)])) (w:=w') (k:=k)
  (e:=e) (t:=t) (len:=len) (cs:=cs) (by rw[ES];simp[Ac])
 simpa using this
theorem AjE (inv:Inv F β own H w) {k e t len:Nat} (hk:H k= .free) {cs:List V} {ds:List Nat} (hd:∀j,j∈ds->(Ac (H j)).isSome=true) {ν:Nat->List Nat->List Nat}
 (hν:∀k1 p,p≠ []->ν k1 p≠ []) {vs:List Value} {cap:Nat} {obj:Array Value} {et:TypeId} {w':World} (hh:w'.heap=w.heap.push (.cells obj et)) (ho:w'.os=w.os) (ht:w'.tape=w.tape)
 (hu:w'.output=w.output) (hobj:obj.toList.take vs.length=vs) (hones:Fj vs) (hcap:obj.size=cap*e) (hl:cs.length=len*e) (hvs:vs.length=cs.length) (hlc:len<=cap/\cap<=9223372036854775807)
 (hc:∀(i:Nat) (v:V) (x:Value),cs[i]? =some v->vs[i]? =some x->
  Ow F.Ae w' (Cq own (some w.heap.size) ds k ν) (F.S w' (Cq own (some w.heap.size) ds k ν)) t k [i] v x)
 {r:Result Next} (hr:r= .ok (.value (.slice (some ⟨w.heap.size,0,none⟩) len cap)) w'):Z8 F β own H w r (.arr k) (C8 ds++ [(k,.arr e t len cs)]):=
 ⟨_,_,_,_,.inl hr,Ahe inv hk hd hν hh ho ht hu hobj hones hcap hl hvs hlc hc⟩
theorem Agy (inv:Inv F β own H w) {w':World} {obj:Obj} {k:Nat} {ds:List Nat} {μ:Nat->List Nat} {β':Nat->Base} {H':Hp} {K:Nat->Prop} {t:Nat}
 (hh:w'.heap=w.heap.push obj) (st:Step F β own H w β' (Cq own (some w.heap.size) ds k fun k1 p=>μ k1++p) H' w' K):
 Moved F own w (Cq own (some w.heap.size) ds k fun k1 p=>μ k1++p) w' (F.S w' (Cq own (some w.heap.size) ds k fun k1 p=>μ k1++p)) t ds k μ:=by
 refine⟨?_,fun fl b h1 _ h3=>st.sS inv fl b h1 h3⟩
 intro b k1 p hk1 hb
 have hlt:=(inv.ownb b _ hb).1
 refine⟨?_,by rw[hh,Array.getElem?_push,if_neg (by omega)]⟩
 unfold Cq
 rw[if_neg (by simp;omega),hb]
 simp[hk1]
theorem QK (inv:Inv F β own H w) {Hm:Hp} (hm:∀k,Hm k=H k∨Hm k= .dead) {ev:Src->V} {ρ:Operand->Value} {t:TypeId} {k e len:Nat} (ht:slB P t e=true) (hlen:len*e<=2 ^ 24) (hlen2:len<=2 ^ 24)
 (hz:∀et,P.underlying t=some (.slice et)->∃z,(P.info? et).bind (·.zero)=some z/\z.cells.size=e) {parts:List Src} {qs:Array (Nat×Operand)}
 (hidx:qs.toList.map (·.1)=List.range len) (hpl:parts.length=qs.toList.length)
 (hev:∀(j:Nat) (s:Src) (q:Nat×Operand),parts[j]? =some s->qs.toList[j]? =some q->VR F β own H w (ev s) (ρ q.2))
 {v:V} {u:DL} (h:Ii Hm ev k e len parts=some (v,u)):
 ∃(x:Value) (cells:Array Value) (et:TypeId) (cs:List V) (t':Nat) (ks:List Nat) (μ:Nat->List Nat),v= .arr k/\u=C8 ks++ [(k,.arr e t' len cs)]/\H k= .free/\(∀j,j∈ks->(Ac (Hm j)).isSome=true)/\(∀k1,∃i,μ k1=[i])/\
  ((do pure (.value (<-Instr.buildSlice t len (qs.map fun(i,x)=>(i,ρ x)))):Sem Next).run P w)= .ok (.value x) {w with heap:=w.heap.push (.cells cells et)}/\
  (∀z y,VR F β own H w z y->VR F (fun j=>if j=k then⟨some ⟨w.heap.size,0,none⟩,len⟩else β j) (Cq own (some w.heap.size) ks k fun k1 p=>μ k1++p) (Al H u) {w with heap:=w.heap.push (.cells cells et)} z y)/\
  Inv F (fun j=>if j=k then⟨some ⟨w.heap.size,0,none⟩,len⟩else β j) (Cq own (some w.heap.size) ks k fun k1 p=>μ k1++p) (Al H u) {w with heap:=w.heap.push (.cells cells et)}/\
  VR F (fun j=>if j=k then⟨some ⟨w.heap.size,0,none⟩,len⟩else β j) (Cq own (some w.heap.size) ks k fun k1 p=>μ k1++p) (Al H u) {w with heap:=w.heap.push (.cells cells et)} v x:=by
 obtain⟨et,hu,hsz,he⟩:=NS ht
 obtain⟨z,hz1,hz2⟩:=hz et hu
 unfold Ii at h
 split at h
 ·rename_i cs t' ks hf hb
  split at h
  ·rename_i hpl2
   cases h
   have hk:=RD hm hf
   have hxl:parts.length=(qs.toList.map fun q=>ρ q.2).length:=by simpa using hpl
   obtain⟨b0,b1,b2,b3,b4,b4',μ,b5,b6⟩:=AhT inv (xs:=qs.toList.map fun q=>ρ q.2) 0 hm hxl (by
    intro j s x hs hx
    simp only[List.getElem?_map,Option.map_eq_some_iff]at hx
    obtain⟨q,hq,rfl⟩:=hx
    exact hev j s q hs hq) hb
   have hn:(qs.toList.map fun q=>ρ q.2).length=len:=by rw[<-hxl,hpl2]
   have hpair:(qs.map fun(i,x)=>(i,ρ x)).toList=((qs.toList.map fun q=>ρ q.2).zipIdx 0).map fun p=>(p.2,p.1):=by
    apply List.ext_getElem?
    intro i
    simp only[Array.toList_map,List.getElem?_map,List.getElem?_zipIdx,Option.map_map]
    cases hq:qs.toList[i]? with
    | none=>simp
    | some q=>
     have:(qs.toList.map (·.1))[i]? =some q.1:=by simp[hq]
     rw[hidx]at this
     have hi:q.1=i:=by
      have h1:=List.getElem?_eq_some_iff.1 this
      obtain⟨h1,h2⟩:=h1
      simpa using h2.symm
     simp[<-hi]
   obtain⟨cells',h1,h2⟩:=Afx (e:=e) (n:=len) (qs.toList.map fun q=>ρ q.2) 0 [] ((Array.range (len*e)).map fun i=>(if len*e=0 then #[]else z.cells)[i % (if len*e=0 then #[]else z.cells:Array Value).size]!)
    b0 (by simp) (by simp) (by simp only[Array.size_map,Array.size_range,Nat.zero_add];rw[hn])
   have hcs:cells'.size=len*e:=by have:=congrArg List.length h2;simp only[List.nil_append,Array.length_toList]at this;rw[this,b4',hn]
   have hd:∀j,j∈ks->(Ac (H j)).isSome=true:=by
    intro j hj
    obtain⟨r,hr⟩:=Option.isSome_iff_exists.1 (b1 j hj)
    rw[Fe hm hr];rfl
   let w1:World:={w with heap:=w.heap.push (.cells cells' et)}
   have hμ:∀k1 p,p≠ []->(fun k1 p=>μ k1++p) k1 p≠ []:=fun k1 p hp=>by simp[hp]
   have st:=Step.new (w':=w1) inv hk rfl rfl rfl rfl hd hμ (.arr e t' len cs) ⟨some ⟨w.heap.size,0,none⟩,len⟩
   have mv:=Agy (w':=w1) (t:=t') inv rfl st
   refine⟨.slice (some ⟨w.heap.size,0,none⟩) len len,cells',et,cs,t',ks,μ,rfl,rfl,hk,b1,b5,?_,Ahe inv hk hd hμ (vs:=(qs.toList.map fun q=>ρ q.2).flatMap fun x=>x.cells.toList) (cap:=len) (obj:=cells') (et:=et) (w':=w1) rfl rfl rfl rfl ?_ b3 hcs ?_ ?_ ⟨Nat.le_refl _,by omega⟩ ?_⟩
   rotate_left
   ·rw[h2,List.nil_append,List.take_length]
   ·rw[b4,hn]
   ·rw[b4',b4]
   ·intro i v x hv hx
    have:=b6 (k:=k) (Nat.le_refl t') (fun _ _=>rfl) mv i v x hv hx
    simpa using this
   ·have hnot:¬(len*e>2 ^ 24):=by omega
    rw[<-hpair]at h1
    have hzv:(zeroValue et).run P w= .ok z w:=by
     unfold zeroValue typeInfo
     cases hi:P.info? et with
     | none=>simp[hi]at hz1
     | some i=>simp[hi]at hz1;simp[hi,hz1]
    by_cases h0:len*e=0
    ·simp only[h0,if_true]at h1
     simp only[Instr.buildSlice,Sem.run_bind,run_underlying hu,Result.andThen_ok,Et hsz,Sem.run_ite,h0,if_true,Sem.run_pure]
     rw[h1]
     rfl
    ·simp only[h0,if_false]at h1
     simp only[Instr.buildSlice,Sem.run_bind,run_underlying hu,Result.andThen_ok,Et hsz,Sem.run_ite,hnot,if_false,h0,hzv,Sem.run_pure]
     rw[h1]
     rfl
  ·cases h
 ·cases h
theorem Acn (inv:Inv F β own H w) {Hm:Hp} (hm:∀k,Hm k=H k∨Hm k= .dead) {ev:Src->V} {ρ:Operand->Value} {t:TypeId} {k e len:Nat} (ht:slB P t e=true) (hlen:len*e<=2 ^ 24) (hlen2:len<=2 ^ 24)
 (hz:∀et,P.underlying t=some (.slice et)->∃z,(P.info? et).bind (·.zero)=some z/\z.cells.size=e) {parts:List Src} {qs:Array (Nat×Operand)}
 (hidx:qs.toList.map (·.1)=List.range len) (hpl:parts.length=qs.toList.length)
 (hev:∀(j:Nat) (s:Src) (q:Nat×Operand),parts[j]? =some s->qs.toList[j]? =some q->VR F β own H w (ev s) (ρ q.2))
 {v:V} {u:DL} (h:Ii Hm ev k e len parts=some (v,u)):
 Z8 F β own H w ((do pure (.value (<-Instr.buildSlice t len (qs.map fun(i,x)=>(i,ρ x)))):Sem Next).run P w) v u:=by
 obtain⟨x,cells,et,cs,t',ks,μ,_,_,_,_,_,hr,h1⟩:=QK inv hm ht hlen hlen2 hz hidx hpl hev h
 exact⟨x,_,_,_,.inl hr,h1⟩
end
end Go.Eng
