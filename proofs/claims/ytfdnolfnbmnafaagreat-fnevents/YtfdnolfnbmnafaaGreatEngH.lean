/- Own work: part 8 of the proof of FnEvents. -/
import Derived.Test.YtfdnolfnbmnafaaGreatEngG
import Derived.Laws.BytesString
set_option linter.unusedSimpArgs false
set_option linter.unusedVariables false
namespace Go.Eng
section
variable {P:Program} {F:Fr} {β:Nat→Base} {own:Nat→Option (Nat×List Nat)} {H:Hp} {w w':World}
theorem Pz {a:Value} {x:Value} (h:VR F β own H w (.sc a) x):x=a:=by cases h;rfl
theorem AMT {op : BinOp} {t : TypeId} {xo yo : Operand} {a b : Value} {va vb v : V} (ha : VR F β own H w va a) (hb : VR F β own H w vb b) (h : ADd op va vb = some v) :
    ∃ x, (do eqGuard op t xo yo a b; binOp op t a b : Sem Value).run P w = .ok x w ∧ VR F β own H w v x := by
  unfold ADd at h
  split at h
  · rename_i a' b'
    have := Pz ha; subst this
    have := Pz hb; subst this
    cases hr : AsB op a b with
    | none => simp [hr] at h
    | some r =>
      simp [hr] at h
      subst h
      suffices r.oneCell' = true ∧ (do eqGuard op t xo yo a b; binOp op t a b : Sem Value).run P w = .ok r w from ⟨r, this.2, .sc this.1⟩
      cases a with
      | int k x =>
        cases b with
        | int k' y =>
          rw [eqGuard_at_int]
          simp only [pure_bind]
          simp only [AsB] at hr
          by_cases h1 : op = .shl
          · subst h1
            simp only [if_true] at hr
            split at hr
            · cases hr
            · cases hr
              refine ⟨rfl, ?_⟩
              rename_i hy
              simp [binOp, Op.shift, hy]
          · rw [if_neg h1] at hr
            by_cases h2 : op = .shr
            · subst h2
              simp only [if_true] at hr
              split at hr
              · cases hr
              · cases hr
                refine ⟨rfl, ?_⟩
                rename_i hy
                simp [binOp, Op.shift, hy]
            · rw [if_neg h2] at hr
              split at hr
              · rename_i hk
                subst hk
                cases op <;> first
                  | (simp at h1; done)
                  | (simp at h2; done)
                  | (simp at hr; done)
                  | (simp only [Option.some.injEq] at hr; subst hr; exact ⟨rfl, by simp [binOp, Op.intArith, Op.intBits, Op.intCmp]⟩)
                  | (simp only at hr; split at hr
                     · cases hr
                     · rename_i hy; simp only [Option.some.injEq] at hr; subst hr; exact ⟨rfl, by simp [binOp, Op.intDiv, hy]⟩)
              · cases hr
        | _ => simp [AsB] at hr
      | string x =>
        cases b with
        | string y =>
          rw [eqGuard_at_string]
          simp only [pure_bind]
          cases op <;> first
            | (simp [AsB] at hr; done)
            | (simp only [AsB, Option.some.injEq] at hr; subst hr; exact ⟨rfl, by simp [binOp, Op.stringOp]⟩)
            | (simp only [AsB] at hr; split at hr
               · rename_i hy
                 cases hr
                 refine ⟨rfl, ?_⟩
                 have : ¬ (((x.size + y.size : Nat) : Int) > IntKind.i64.max) := by rw [IntKind.max_i64]; omega
                 simp only [binOp, Op.stringOp, this, if_false, Sem.run_pure]
               · cases hr)
        | _ => simp [AsB] at hr
      | _ => simp [AsB] at hr
  · cases h
theorem AMN {ne:Bool} {t:TypeId} (ht:P.underlying t=some .bool) {xo yo:Operand} {a b:Value} {va vb v:V} (ha:VR F β own H w va a) (hb:VR F β own H w vb b) (h:ADT ne va vb=some v):
 ∃x,(do eqGuard (if ne then .neq else .eql) t xo yo a b;binOp (if ne then .neq else .eql) t a b:Sem Value).run P w= .ok x w∧VR F β own H w v x:=by
 unfold ADT at h
 split at h
 ·have:=Pz ha;subst this
  have:=Pz hb;subst this
  cases a with
  | bool x=>
   cases b with
   | bool y=>
    simp[AIm]at h
    subst h
    rw[eqGuard_at_bool]
    simp only[pure_bind]
    cases ne
    ·exact⟨_,run_eql_bool w t x y ht,.sc rfl⟩
    ·exact⟨_,run_neq_bool w t x y ht,.sc rfl⟩
   | _=>simp[AIm]at h
  | _=>simp[AIm]at h
 ·cases h
theorem ANE {op:UnOp} {a:Value} {va v:V} (ha:VR F β own H w va a) (h:AJ9 op va=some v):
 ∃x,(Op.unary op a).run P w= .ok x w∧VR F β own H w v x:=by
 unfold AJ9 at h
 split at h
 ·have:=Pz ha;subst this
  cases a with
  | int k n=>cases op<;>simp[unV]at h;subst h;exact⟨_,by simp[Op.unary,Op.intArith],.sc rfl⟩
  | bool b=>cases op<;>simp[unV]at h;subst h;exact⟨_,by simp[Op.unary],.sc rfl⟩
  | _=>simp[unV]at h
 ·cases h
theorem AK6 {k:IntKind} {src dst:TypeId} (hs:∃d,P.underlying src=some d) (hd:P.underlying dst=some (.int k)) {a:Value} {va v:V} (ha:VR F β own H w va a) (h:ADZ k va=some v):
 ∃x,(convert src dst a).run P w= .ok x w∧VR F β own H w v x:=by
 obtain⟨d,hs⟩:=hs
 unfold ADZ at h
 split at h
 ·have:=Pz ha;subst this
  cases h
  refine⟨_,?_,.sc rfl⟩
  simp[convert,run_underlying hs,run_underlying hd,Conv.intToInt]
 ·cases h
theorem ACr {mx:Bool} {a b r:Value} (h:mmV mx a b=some r):(if mx then Builtin.max2 a b else Builtin.min2 a b).run P w= .ok r w∧r.oneCell' =true:=by
 cases a with
 | int k x=>
  cases b with
  | int k' y=>
   simp only[mmV]at h
   split at h
   ·rename_i hk;subst hk;cases h
    cases mx<;>simp[Builtin.max2,Builtin.min2,Value.oneCell']
   ·cases h
  | _=>simp[mmV]at h
 | _=>simp[mmV]at h
theorem AFz {mx:Bool} {ev:Src→V}:∀ {ys:List Src} {bs:List Value} {va v:V} {a:Value},VR F β own H w va a→ys.length=bs.length→
 (∀(i:Nat) (s:Src) (x:Value),ys[i]? =some s→bs[i]? =some x→VR F β own H w (ev s) x)→AF6 ev mx va ys=some v→
 ∃x,(bs.foldlM (if mx then Builtin.max2 else Builtin.min2) a).run P w= .ok x w∧VR F β own H w v x:=by
 intro ys
 induction ys with
 | nil=>
  intro bs va v a ha hl _ h
  cases bs with
  | nil=>simp[AF6]at h;subst h;exact⟨a,by simp,ha⟩
  | cons=>simp at hl
 | cons y ys ih=>
  intro bs va v a ha hl hs h
  cases bs with
  | nil=>simp at hl
  | cons b bs=>
   simp only[AF6]at h
   have hb:=hs 0 y b (by simp) (by simp)
   split at h
   ·rename_i u z he
    rw[he]at hb
    have:=Pz ha;subst this
    have:=Pz hb;subst this
    cases hr:mmV mx a b with
    | none=>simp[hr]at h
    | some r=>
     simp only[hr]at h
     obtain⟨h1,h2⟩:=ACr (P:=P) (w:=w) hr
     obtain⟨x,h3,h4⟩:=ih (bs:=bs) (a:=r) (.sc h2) (by simpa using hl) (fun i s x h5 h6=>hs (i+1) s x (by simpa using h5) (by simpa using h6)) h
     refine⟨x,?_,h4⟩
     rw[List.foldlM_cons,Sem.run_bind]
     have h1':((if mx then Builtin.max2 else Builtin.min2) a b:Sem Value).run P w= .ok r w:=by cases mx<;>simpa using h1
     rw[h1']
     exact h3
   ·cases h
theorem AEP {t:TypeId} (ht:P.underlying t=some .string) {a ix:Value} {va vi v:V} {i:Int} (ha:VR F β own H w va a) (hi:VR F β own H w vi ix) (hii:asI vi=some i)
 (h:Yp va i=some v):∃x,(Instr.index t a ix).run P w= .ok x w∧VR F β own H w v x:=by
 obtain⟨ik,rfl⟩:=Abw hi hii
 cases va with
 | sc a'=>
  have:=Pz ha;subst this
  cases a with
  | string s=>
   simp only[Yp]at h
   split at h
   ·rename_i h0
    cases hc:s.data[i.toNat]? with
    | none=>simp[hc]at h
    | some c=>
     simp[hc]at h;subst h
     refine⟨_,?_,.sc rfl⟩
     have hlt:i.toNat<s.data.size:=by
      rcases Nat.lt_or_ge i.toNat s.data.size with g | g
      ·exact g
      ·simp[Array.getElem?_eq_none g]at hc
     have hc':s[i.toNat]? =some c:=by
      have hlt':i.toNat<s.size:=hlt
      rw[getElem?_pos s i.toNat hlt']
      rw[Array.getElem?_eq_getElem hlt]at hc
      exact hc
     simp only[Instr.index,asIntOf,Sem.run_bind,Sem.run_pure,Result.andThen_ok,run_underlying ht,h0,if_true,hc']
   ·cases h
  | _=>simp[Yp]at h
 | _=>simp[Yp]at h
def AL3 (P:Program) (t:TypeId) (n e:Nat):Bool:=
 match P.underlying t with
 | some (.array m et)=>m==n&&szB P et==some e&&Aqs P et==some false
 | _=>false
theorem AFm {t:TypeId} {n e:Nat} (ht:AL3 P t n e=true) {a ix:Value} {va vi v:V} {i:Int} (ha:VR F β own H w va a) (hi:VR F β own H w vi ix) (hii:asI vi=some i)
 (h:Agc n e va i=some v):∃x,(Instr.index t a ix).run P w= .ok x w∧VR F β own H w v x:=by
 obtain⟨ik,rfl⟩:=Abw hi hii
 unfold Agc at h
 split at h
 ·split at h
  ·rename_i cs _ hc
   obtain⟨h0,h1,rfl⟩:=hc
   unfold AL3 at ht
   split at ht
   ·rename_i m et hu
    simp only[Bool.and_eq_true,beq_iff_eq]at ht
    obtain⟨⟨rfl,hs⟩,hag⟩:=ht
    cases ha with
    | agg h1' hv hcc=>
     rename_i vs
     have hlt:i.toNat<vs.length:=by rw[hv];exact(List.getElem?_eq_some_iff.1 h).1
     refine⟨vs[i.toNat],?_,hcc _ _ _ h (by simp[hlt])⟩
     simp only[Instr.index,asIntOf,Sem.run_bind,Sem.run_pure,Result.andThen_ok,run_underlying hu,h0,h1,and_self,if_true,Sem.run_ite,Hf hs,Go.part,Ur hag,
      Bool.false_eq_true,if_false,Nat.mul_one]
     simp[hlt]
   ·cases ht
  ·cases h
 ·cases h
def Axe (P:Program) (s:TypeId) (f:Nat) (n:Option Nat) (off:Nat):Bool:=
 match P.underlying s with
 | some (.struct fs)=>match fs[f]? with
  | some fd=>fd.offset==off&&nB P fd.type n
  | none=>false
 | _=>false
theorem AHJ {t:TypeId} {f off:Nat} {n:Option Nat} (ht:Axe P t f n off=true) {a:Value} {va v:V} (ha:VR F β own H w va a)
 (h:Avp n va off=some v):∃x,(Instr.field t a f).run P w= .ok x w∧VR F β own H w v x:=by
 unfold Axe at ht
 split at ht
 ·rename_i fs hu
  cases hfd:fs[f]? with
  | none=>simp[hfd]at ht
  | some fd=>
   simp only[hfd,Bool.and_eq_true,beq_iff_eq]at ht
   obtain⟨rfl,hn⟩:=ht
   unfold Avp at h
   split at h
   ·cases ha with
    | agg h1' hv hcc=>
     rename_i cs vs
     cases n with
     | none=>
      simp only[nB,beq_iff_eq]at hn
      simp only at h
      have hlt:fd.offset<vs.length:=by rw[hv];exact(List.getElem?_eq_some_iff.1 h).1
      refine⟨vs[fd.offset],?_,hcc _ _ _ h (by simp[hlt])⟩
      simp only[Instr.field,Sem.run_bind,Sem.run_pure,Result.andThen_ok,run_underlying hu,hfd,asAgg,Go.part,Ur hn,Bool.false_eq_true,if_false]
      simp[hlt]
     | some m=>
      simp only[nB,Bool.and_eq_true,beq_iff_eq]at hn
      simp only at h
      cases hg:Iy cs fd.offset m with
      | none=>simp[hg]at h
      | some c=>
       simp[hg]at h;subst h
       obtain⟨hle,rfl⟩:=Yo hg
       refine⟨.agg ((vs.drop fd.offset).take m).toArray,?_,.agg (Aoj h1' _ _) (by simp;omega) ?_⟩
       ·simp only[Instr.field,Sem.run_bind,Sem.run_pure,Result.andThen_ok,run_underlying hu,hfd,asAgg,Go.part,Ur hn.1,if_true,Hf hn.2]
        congr 2
        simp[List.extract_eq_take_drop]
       ·intro i v x hv' hx
        rw[Ie]at hv' hx
        split at hx
        ·rename_i hi;rw[if_pos hi]at hv';exact hcc _ _ _ hv' hx
        ·cases hx
   ·cases h
 ·cases ht
theorem ACc {i:Nat} {a:Value} {va v:V} (ha:VR F β own H w va a) (h:AfR va i=some v):
 ∃x,(Instr.extract a i).run P w= .ok x w∧VR F β own H w v x:=by
 unfold AfR at h
 split at h
 ·cases ha with
  | tup hv hcc=>
   rename_i vs' vs
   have hlt:i<vs.length:=by rw[hv];exact(List.getElem?_eq_some_iff.1 h).1
   exact⟨vs[i],by simp[Instr.extract,hlt],hcc _ _ _ h (by simp[hlt])⟩
 ·cases h
theorem AOb {c a b:Value} {vc va vb v:V} (hc:VR F β own H w vc c) (ha:VR F β own H w va a) (hb:VR F β own H w vb b) (h:AtZ vc va vb=some v):
 ∃x,(do pure (if←asBool c then a else b):Sem Value).run P w= .ok x w∧VR F β own H w v x:=by
 unfold AtZ at h
 split at h
 ·have:=Pz hc;subst this
  cases h
  rename_i t
  cases t
  ·exact⟨b,by simp[asBool],by simpa using hb⟩
  ·exact⟨a,by simp[asBool],by simpa using ha⟩
 ·cases h
end
end Go.Eng
