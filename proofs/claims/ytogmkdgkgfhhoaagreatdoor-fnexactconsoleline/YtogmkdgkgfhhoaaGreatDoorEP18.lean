/- Own work: part 18 of the proof of FnExactConsoleLine. -/
import Derived.Test.YtogmkdgkgfhhoaaGreatDoorEP14
import Derived.Test.YtogmkdgkgfhhoaaGreatDoorEP16
import Derived.Test.YtogmkdgkgfhhoaaGreatDoorEP17
set_option linter.unusedSimpArgs false
set_option linter.unusedVariables false
namespace Go.Eng.T
set_option maxRecDepth 20000
set_option maxHeartbeats 1000000
theorem AKl {D:Dn} {c:Cf} {a:SC} {Q:Out->St->Prop} {s:St} (h:swp D c a (fun o s'=>match o with | .normal=>False | o=>Q o s') s):swp D c (.loop a) Q s:=⟨1,h⟩
def inB (t:Int):Bool:=decide (M6 t 0 255)
def Abb (b:List Int) (t:Int):Bool:= !decide (t∈b)&&inB t
def JN (h x:Hello):List Int:=leftOf h.versions x.versions++((Ba h.exts).filter (Abb (Ba x.exts))).map (fun t=>1000+t)
theorem AJD (a b:List Int):(leftOf a b).filter inB=a.filter (Abb b):=by
 unfold leftOf
 rw[List.filter_filter]
 congr 1
 funext t
 unfold Abb
 cases inB t<;>cases decide (t∈b)<;>rfl
variable (R:Rel)
abbrev UC:Prop:=∀h x:Hello,hB h->hB x->R [arg (Ck h),arg (Ck x)] [] (.sl 0 1 (JN h x).length (ints (JN h x))) []
theorem Alm {p:Int->Bool} {a l:List Int} {j:Nat} (h:j<l.length):
 a++((l.take (j+1)).filter p).map (fun t=>1000+t)=(a++((l.take j).filter p).map (fun t=>1000+t))++(if p l[j]then [1000+l[j]]else []):=by
 rw[LD h,List.map_append,List.append_assoc]
 split<;>simp
theorem Al1 {p:Int->Bool} {a l:List Int} {j:Nat}:(a++((l.take j).filter p).map (fun t=>1000+t)).length<=a.length+j:=by
 have:=Oa (p:=p) (xs:=l) (j:=j)
 simp only[List.length_append,List.length_map];omega
variable (D:Dn)
theorem AiW (hL:AfF (D 223)) (hX:Rj (D 309)) (hI:Vf (D 71)):UC (Body D Nb):=by
 intro h x hh hx
 have hxl:=hx.2.1
 have hhl:=hh.2.1
 have hvl:=hh.1
 simp -implicitDefEqProofs
 refine Aa (hL h.versions x.versions hh.1 hx.1) ?_
 have hal:=PE h.versions x.versions
 have e:JN h x=leftOf h.versions x.versions++((Ba h.exts).filter (Abb (Ba x.exts))).map (fun t=>1000+t):=rfl
 rw[e]
 have hpd:∀t,Abb (Ba x.exts) t=(!decide (t∈Ba x.exts)&&inB t):=fun t=>rfl
 generalize leftOf h.versions x.versions=a at hal
 generalize Abb (Ba x.exts)=p at hpd
 have htl:(Ba h.exts).length=h.exts.length:=QA _
 have hte:∀j (hj:j<h.exts.length),(Ba h.exts)[j]'(by omega)=h.exts[j].tag:=fun j hj=>by simp[Ba]
 obtain⟨l,hl⟩:∃l,l=Ba h.exts:=⟨_,rfl⟩
 rw[<-hl]at htl⊢
 simp -implicitDefEqProofs
 refine Ag (fun k s=>∃j o3 o4,j+k=h.exts.length/\s=⟨[.undef,.undef,.ptr 0 0,.ptr 1 0,.undef,.arr 5,I j,.undef,.undef],[.var ((Ck h).map (AO 1)),.var ((Ck x).map (AO 1)),.free,o3,o4,.arr 1 0 (a++((l.take j).filter p).map (fun t=>1000+t)).length (ints (a++((l.take j).filter p).map (fun t=>1000+t)))]⟩) ?_ (h.exts.length) _ ⟨0,.free,.free,by simp,by simp⟩
 intro k s ⟨j,o3,o4,hj,hs⟩
 subst hs
 by_cases hjn:j<h.exts.length
 ·have hw:=Cv (j:=j) (by omega)
  have hjl:j<l.length:=by omega
  have hlt:l[j]=h.exts[j].tag:=by subst hl;exact hte j hjn
  have hst:=Alm (p:=p) (a:=a) hjl
  have hfl:=Al1 (p:=p) (a:=a) (l:=l) (j:=j)
  have hb1:((a++((l.take j).filter p).map (fun t=>1000+t)).length+1)*8<=1099511627776:=by omega
  have hpt:=hpd l[j]
  rw[hlt]at hst hpt
  generalize a++((l.take j).filter p).map (fun t=>1000+t)=r at hst hfl hb1
  simp -implicitDefEqProofs [hjn]
  refine Aa (hX x.exts h.exts[j].tag (by unfold maxLen;omega)) ?_
  by_cases h1:h.exts[j].tag∈Ba x.exts
  ·have h3:¬p h.exts[j].tag=true:=by rw[hpt];simp[h1]
   have h1':¬K7 x.exts h.exts[j].tag<0:=by rw[LA];simpa using h1
   rw[if_neg h3,List.append_nil]at hst
   simp -implicitDefEqProofs [h1']
   have hsl:=congrArg List.length hst
   simp only[List.length_append,List.length_map]at hsl
   exact⟨k-1,by omega,j+1,by omega,by simp[hw],by omega,by rw[hst]⟩
  have h1':K7 x.exts h.exts[j].tag<0:=by rw[LA];exact h1
  simp -implicitDefEqProofs [h1',hjn]
  refine Aa (hI _ _ _) ?_
  by_cases h2:M6 h.exts[j].tag 0 255
  ·have h3:p h.exts[j].tag=true:=by rw[hpt];simp[h1,inB,h2]
   rw[if_pos h3]at hst
   have hw2:IntKind.i64.wrap (1000+h.exts[j].tag)=1000+h.exts[j].tag:=Ad (by have:=h2.1;omega) (by have:=h2.2;omega)
   simp -implicitDefEqProofs [h2,hjn,hb1,hw2]
   have hsl:=congrArg List.length hst
   simp only[List.length_append,List.length_map,List.length_cons,List.length_nil]at hsl
   exact⟨k-1,by omega,j+1,by omega,by simp[hw],by omega,by rw[hst]⟩
  ·have h3:¬p h.exts[j].tag=true:=by rw[hpt];simp[h1,inB,h2]
   rw[if_neg h3,List.append_nil]at hst
   simp -implicitDefEqProofs [h2]
   have hsl:=congrArg List.length hst
   simp only[List.length_append,List.length_map]at hsl
   exact⟨k-1,by omega,j+1,by omega,by simp[hw],by omega,by rw[hst]⟩
 ·have e2:=N7 (p:=p) (xs:=l) (j:=j) (by omega)
  simp -implicitDefEqProofs [hjn,e2]
theorem AHJ (hL:AfF (D 189)) (hT:UX (D 317)) (hI:Vf (D 114)):UC (Body D AwP):=by
 intro h x hh hx
 have hxl:=hx.2.1
 have hhl:=hh.2.1
 have hvl:=hh.1
 simp -implicitDefEqProofs
 refine Aa (hL h.versions x.versions hh.1 hx.1) ?_
 have hal:=PE h.versions x.versions
 have e:JN h x=leftOf h.versions x.versions++((Ba h.exts).filter (Abb (Ba x.exts))).map (fun t=>1000+t):=rfl
 rw[e,<-AJD]
 generalize leftOf h.versions x.versions=a at hal
 simp -implicitDefEqProofs
 refine Aa (hT h.exts hh.2.1) ?_
 simp -implicitDefEqProofs
 refine Aa (hT x.exts hx.2.1) ?_
 simp -implicitDefEqProofs
 refine Aa (hL (Ba h.exts) (Ba x.exts) (by rw[QA];omega) (by rw[QA];omega)) ?_
 have hll:=PE (Ba h.exts) (Ba x.exts)
 rw[QA]at hll
 generalize leftOf (Ba h.exts) (Ba x.exts)=l at hll
 generalize hpd:inB=p
 simp -implicitDefEqProofs
 refine Ag (fun k s=>∃j v6 o6 o7,j+k=l.length/\s=⟨[.undef,.undef,.undef,.undef,.undef,.arr 8,v6,.arr 5,I l.length,I j,.undef,.undef],[.var ((Ck h).map (AO 1)),.var ((Ck x).map (AO 1)),.free,.arr 1 0 (Ba h.exts).length (ints (Ba h.exts)),.arr 1 0 (Ba x.exts).length (ints (Ba x.exts)),.arr 1 0 l.length (ints l),o6,o7,.arr 1 0 (a++((l.take j).filter p).map (fun t=>1000+t)).length (ints (a++((l.take j).filter p).map (fun t=>1000+t)))]⟩) ?_ (l.length) _ ⟨0,.undef,.free,.free,by simp,by simp⟩
 intro k s ⟨j,v6,o6,o7,hj,hs⟩
 subst hs
 by_cases hjn:j<l.length
 ·have hw:=Cv (j:=j) (by omega)
  have hst:=Alm (p:=p) (a:=a) hjn
  have hfl:=Al1 (p:=p) (a:=a) (l:=l) (j:=j)
  have hb1:((a++((l.take j).filter p).map (fun t=>1000+t)).length+1)*8<=1099511627776:=by omega
  have hpt:p l[j]=inB l[j]:=by rw[hpd]
  generalize a++((l.take j).filter p).map (fun t=>1000+t)=r at hst hfl hb1
  simp -implicitDefEqProofs [hjn]
  refine Aa (hI _ _ _) ?_
  by_cases h2:M6 l[j] 0 255
  ·have h3:p l[j]=true:=by rw[hpt];simp[inB,h2]
   rw[if_pos h3]at hst
   have hw2:IntKind.i64.wrap (1000+l[j])=1000+l[j]:=Ad (by have:=h2.1;omega) (by have:=h2.2;omega)
   simp -implicitDefEqProofs [h2,hjn,hb1,hw2]
   have hsl:=congrArg List.length hst
   simp only[List.length_append,List.length_map,List.length_cons,List.length_nil]at hsl
   exact⟨k-1,by omega,j+1,by omega,by simp[hw],by omega,by rw[hst]⟩
  ·have h3:¬p l[j]=true:=by rw[hpt];simp[inB,h2]
   rw[if_neg h3,List.append_nil]at hst
   simp -implicitDefEqProofs [h2]
   have hsl:=congrArg List.length hst
   simp only[List.length_append,List.length_map]at hsl
   exact⟨k-1,by omega,j+1,by omega,by simp[hw],by omega,by rw[hst]⟩
 ·have e2:=N7 (p:=p) (xs:=l) (j:=j) (by omega)
  simp -implicitDefEqProofs [hjn,e2]
def E9:Aaf:=⟨false,0,[]⟩
def O1 (h seen:Hello) (vs tags:List Int) (key:Int):Aaf:=
 if(Bb vs tags seen).2&&(Fu h (Bb vs tags seen).1&&(!decide (G6 key [Du h,Ci (Bb vs tags seen).1] 1=0)&&
  decide (G6 key [Du h,Ci (Bb vs tags seen).1] 1=G6 key [Du seen,Ci (Bb vs tags seen).1] 1)))
 then⟨true,(Bb vs tags seen).1.version,Ba (Bb vs tags seen).1.exts⟩else E9
theorem Ahx (h:Hello):(Du h).length<=47:=by
 unfold Du
 have:=MW h.exts
 split
 ·rename_i hc
  have:=AgB (Adj hc)
  simp only[List.length_append,List.length_cons];omega
 ·simp
theorem Aml (h:Hello) (a:Nw):GR [Du h,Ci a]<=4194304:=by
 have h1:=Ahx h
 have h2:=YK a
 simp[GR,Cr]
 omega
theorem AhS {vs tags:List Int} {h:Hello} (hh:hB h):OD (Bb vs tags h).1.exts:=by
 unfold Bb
 split
 ·exact QV (QV hh.2 (fun t=>decide (t∈tags))) (fun t=> !BH t)
 ·exact Afg
def Hl (h:Hello) (path:List EG) (vs tags:List Int) (key:Int):Aaf:=if(Bd path h).2=true then O1 h (Bd path h).1 vs tags key else E9
abbrev RY:Prop:=∀(h:Hello) (path:List EG) (vs tags:List Int) (key:Int),hB h->lnS Kh path->vs.length<=4194304->tags.length<=4194304->
 R [arg (Ck h),.sl 1 4 path.length (path.flatMap DT),.sl 1 1 vs.length (ints vs),.sl 1 1 tags.length (ints tags),I key] [] (.agg (AfJ (Hl h path vs tags key))) []
theorem AgV (hP:Jj (D 286)) (hC:Zx (D 303)) (hFi:PY (D 304)) (hHB:MV (D 305)) (hAB:Lb (D 306))
 (hF:ZE (D 307)) (hT:UX (D 308)):RY (Body D LM):=by
 intro h path vs tags key hh hb hv ht
 simp -implicitDefEqProofs
 refine Aa (hP path h hb hh) ?_
 have hr:=QY (path:=path) hh
 unfold Hl
 generalize Bd path h=r at hr
 by_cases g1:r.2=true
 rotate_left
 ·simp -implicitDefEqProofs [g1,E9]
 obtain⟨seen,ok⟩:=r
 obtain rfl:ok=true:=g1
 dsimp only at hr⊢
 simp -implicitDefEqProofs
 refine Aa (hC vs tags seen hv ht hr) ?_
 have ha:=AhS (vs:=vs) (tags:=tags) hr
 unfold O1
 generalize Bb vs tags seen=q at ha
 obtain⟨a,fine⟩:=q
 dsimp only at ha⊢
 by_cases g2:fine=true
 rotate_left
 ·simp -implicitDefEqProofs [g2,E9]
 simp -implicitDefEqProofs [g2]
 refine Aa (hFi h a hh ha) ?_
 by_cases g3:Fu h a=true
 rotate_left
 ·simp -implicitDefEqProofs [g3,E9]
 simp -implicitDefEqProofs [g3]
 refine Aa (hHB h hh) ?_
 simp -implicitDefEqProofs
 refine Aa (hAB a ha) ?_
 simp -implicitDefEqProofs
 have hf:=hF key [Du h,Ci a] 1 (Aml h a)
 simp -implicitDefEqProofs [KZ,I8]at hf
 refine Aa (hf) ?_
 generalize G6 key [Du h,Ci a] 1=m
 by_cases g4:m=0
 ·simp -implicitDefEqProofs [g4,E9]
 simp -implicitDefEqProofs [g4]
 refine Aa (hHB seen hr) ?_
 simp -implicitDefEqProofs [g4]
 refine Aa (hAB a ha) ?_
 simp -implicitDefEqProofs [g4]
 have hf2:=hF key [Du seen,Ci a] 1 (Aml seen a)
 simp -implicitDefEqProofs [KZ,I8]at hf2
 refine Aa (hf2) ?_
 generalize G6 key [Du seen,Ci a] 1=m2
 by_cases g5:m=m2
 rotate_left
 ·simp -implicitDefEqProofs [g4,g5,E9]
 subst g5
 simp -implicitDefEqProofs [g4]
 refine Aa (hT a.exts ha.1) ?_
 simp -implicitDefEqProofs [g4]
abbrev AFu:Prop:=∀(h seen:Hello) (vs tags:List Int) (key:Int),hB h->hB seen->vs.length<=4194304->tags.length<=4194304->
 R [arg (Ck h),arg (Ck seen),.sl 1 1 vs.length (ints vs),.sl 1 1 tags.length (ints tags),I key,.sl 1 2 0 []] [] (.agg (AfJ (O1 h seen vs tags key))) []
theorem AKL (hC:Zx (D 343)) (hFi:PY (D 348)) (hHB:MV (D 345)) (hAB:Lb (D 346))
 (hF:ZE (D 347)) (hK:AxF (D 349)) (hT:UX (D 317)):AFu (Body D AxB):=by
 intro h seen vs tags key hh hr hv ht
 simp -implicitDefEqProofs
 refine Aa (hC vs tags seen hv ht hr) ?_
 have ha:=AhS (vs:=vs) (tags:=tags) hr
 unfold O1
 generalize Bb vs tags seen=q at ha
 obtain⟨a,fine⟩:=q
 dsimp only at ha⊢
 have e:(!decide (G6 key [Du h,Ci a] 1=0)&&decide (G6 key [Du h,Ci a] 1=G6 key [Du seen,Ci a] 1))=
  AvW key [Du h,Ci a] 1 (G6 key [Du seen,Ci a] 1):=by
  unfold AvW
  by_cases e1:G6 key [Du h,Ci a] 1=G6 key [Du seen,Ci a] 1
  ·rw[e1]
  ·have e2:¬G6 key [Du seen,Ci a] 1=G6 key [Du h,Ci a] 1:=fun h=>e1 h.symm
   simp[e1,e2]
 rw[e]
 by_cases g2:fine=true
 rotate_left
 ·simp -implicitDefEqProofs [g2,E9]
 simp -implicitDefEqProofs [g2]
 refine AKl ?_
 simp -implicitDefEqProofs
 refine Aa (hHB seen hr) ?_
 simp -implicitDefEqProofs
 refine Aa (hAB a ha) ?_
 simp -implicitDefEqProofs
 have hf2:=hF key [Du seen,Ci a] 1 (Aml seen a)
 simp -implicitDefEqProofs [KZ,I8]at hf2
 refine Aa (hf2) ?_
 generalize G6 key [Du seen,Ci a] 1=m2
 simp -implicitDefEqProofs
 refine Aa (hFi h a hh ha) ?_
 by_cases g3:Fu h a=true
 rotate_left
 ·simp -implicitDefEqProofs [g3,E9]
 simp -implicitDefEqProofs [g3]
 refine Aa (hHB h hh) ?_
 simp -implicitDefEqProofs
 refine Aa (hAB a ha) ?_
 simp -implicitDefEqProofs
 have hk:=hK key [Du h,Ci a] 1 m2 (Aml h a)
 simp -implicitDefEqProofs [KZ,I8]at hk
 refine Aa (hk) ?_
 generalize AvW key [Du h,Ci a] 1 m2=c
 by_cases g5:c=true
 rotate_left
 ·simp -implicitDefEqProofs [g5,E9]
 simp -implicitDefEqProofs [g5]
 refine Aa (hT a.exts ha.1) ?_
 simp -implicitDefEqProofs
theorem AGS (hP:Jj (D 274)) (hD:AFu (D 316)):RY (Body D Awl):=by
 intro h path vs tags key hh hb hv ht
 simp -implicitDefEqProofs
 refine Aa (hP path h hb hh) ?_
 have hr:=QY (path:=path) hh
 unfold Hl
 generalize Bd path h=r at hr
 by_cases g1:r.2=true
 rotate_left
 ·simp -implicitDefEqProofs [g1,E9]
 simp -implicitDefEqProofs [g1]
 refine Aa (hD h r.1 vs tags key hh hr hv ht) ?_
 simp -implicitDefEqProofs
def Xh (h:Hello) (path:List EG) (vs tags:List Int) (key:Int):BP:=
 if(Bg h path).2.2=true then⟨Hl (Bg h path).1 path vs tags key,(Bg h path).2.1,JN h (Bg h path).1⟩else⟨E9,(Bg h path).2.1,[]⟩
abbrev AfC:Prop:=∀(h:Hello) (path:List EG) (vs tags:List Int) (key:Int),hB h->lnS Kh path->vs.length<=4194304->tags.length<=4194304->
 R [arg (Ck h),.sl 1 4 path.length (path.flatMap DT),.sl 1 1 vs.length (ints vs),.sl 1 1 tags.length (ints tags),I key] [] (.agg (AB (Xh h path vs tags key))) []
theorem AoD (hH:Rs (D 280)) (hO:RY (D 281)) (hG:UC (D 282)):AfC (Body D TQ):=by
 intro h path vs tags key hh hb hv ht
 simp -implicitDefEqProofs
 refine Aa (hH h path hh hb) ?_
 have hr:=An3 (path:=path) hh
 unfold Xh
 generalize Bg h path=r at hr
 obtain⟨x,n,ok⟩:=r
 dsimp only at hr⊢
 by_cases g1:ok=true
 rotate_left
 ·simp -implicitDefEqProofs [g1,E9]
 simp -implicitDefEqProofs [g1]
 refine Aa (hO x path vs tags key hr hb hv ht) ?_
 simp -implicitDefEqProofs
 refine Aa (hG h x hh hr) ?_
 simp -implicitDefEqProofs [g1]
theorem AKF (hH:Rs (D 287)) (hO:RY (D 288)) (hG:UC (D 289)):AfC (Body D Azx):=by
 intro h path vs tags key hh hb hv ht
 simp -implicitDefEqProofs
 refine Aa (hH h path hh hb) ?_
 have hr:=An3 (path:=path) hh
 unfold Xh
 generalize Bg h path=r at hr
 obtain⟨x,n,ok⟩:=r
 dsimp only at hr⊢
 by_cases g1:ok=true
 rotate_left
 ·simp -implicitDefEqProofs [g1,E9]
 simp -implicitDefEqProofs [g1]
 refine Aa (hO x path vs tags key hr hb hv ht) ?_
 simp -implicitDefEqProofs
 refine Aa (hG h x hh hr) ?_
 simp -implicitDefEqProofs [g1]
set_option maxHeartbeats 1000000
theorem AfD {l:List Ext} {k:Nat} (h:k<=l.length):part (GL (l.flatMap Cc) 2 0 k) 2 k (l.length-k)=(l.drop k).flatMap Cc:=by
 have h0:(l.flatMap Cc).length=l.length*2:=LF l
 have e1:l.flatMap Cc=(l.take k).flatMap Cc++(l.drop k).flatMap Cc:=by rw[<-List.flatMap_append,List.take_append_drop]
 have h1:((l.take k).flatMap Cc).length=k*2:=by rw[LF];simp;omega
 have h2:((l.drop k).flatMap Cc).length=(l.length-k)*2:=by rw[LF];simp
 unfold part GL
 rw[e1]
 simp only[Nat.zero_mul,List.take_zero,List.nil_append,Nat.zero_add]
 rw[List.drop_left' h1,List.drop_left' (by simp),List.take_of_length_le (by omega)]
theorem Akd {l:List Ext} {k:Nat} (h:k<=l.length):part (l.flatMap Cc) 2 0 k=(l.take k).flatMap Cc:=by
 have e1:l.flatMap Cc=(l.take k).flatMap Cc++(l.drop k).flatMap Cc:=by rw[<-List.flatMap_append,List.take_append_drop]
 have h1:((l.take k).flatMap Cc).length=k*2:=by rw[LF];simp;omega
 unfold part
 rw[e1,Nat.zero_mul,List.drop_zero,List.take_left' h1]
def Ag6 (seed:Int):List Int:=List.replicate (pick seed 2 3).toNat (pick seed 3 256)
def AiL (l:List Ext) (seed:Int):Nat:=(pick seed 1 (l.length+1)).toNat
def Ew (l:List Ext) (seed:Int):List Ext:=
 if Ej l&&(decide (l.length<6)&& !decide (Oh seed∈Ba l))then l.take (AiL l seed)++⟨Oh seed,Ag6 seed⟩::l.drop (AiL l seed)else l
theorem AoS (l:List Ext) (seed:Int) (h:l.length<=6):AiL l seed<=l.length:=by
 have:=UK seed 1 (n:=l.length+1) ⟨by omega,by omega⟩
 unfold AiL;omega
theorem AhF (seed:Int):(Ag6 seed).length<=2:=by
 have:=UK seed 2 (n:=3) ⟨by omega,by omega⟩
 unfold Ag6;simp;omega
abbrev O8:Prop:=∀(l:List Ext) (seed:Int),OD l->R [.sl 1 2 l.length (l.flatMap Cc),I seed] [] (.sl 0 2 (Ew l seed).length ((Ew l seed).flatMap Cc)) []
theorem Ad4 (hG:O4 (D 310)) (hC:U5 (D 311)) (hA:JX (D 312)) (hX:Rj (D 309)) (hP:Ahf (D 313)):O8 (Body D KR):=by
 intro l seed hl
 have hll:=hl.1
 simp -implicitDefEqProofs
 refine Aa (hG seed) ?_
 obtain⟨t,ht⟩:∃t,t=Oh seed:=⟨_,rfl⟩
 rw[<-ht]
 simp -implicitDefEqProofs
 refine Aa (hC l hl) ?_
 simp -implicitDefEqProofs
 refine Aa (hA l hl) ?_
 by_cases h1:Ej l=true
 rotate_left
 ·simp -implicitDefEqProofs [h1,Ew]
 by_cases h2:l.length<6
 rotate_left
 ·have h2':(6:Int)<=l.length:=by omega
  simp -implicitDefEqProofs [h1,h2,h2',Ew]
 have h2':¬(6:Int)<=l.length:=by omega
 simp -implicitDefEqProofs [h1,h2']
 refine Aa (hX l t (by unfold maxLen;omega)) ?_
 by_cases h3:t∈Ba l
 ·have h3':0<=K7 l t:=by
   by_cases h:K7 l t<0
   ·rw[LA]at h;exact absurd h3 h
   ·omega
  simp -implicitDefEqProofs [h1,h2,h3',h3,Ew,<-ht]
 have h3':¬0<=K7 l t:=by
  have:K7 l t<0:=by rw[LA];exact h3
  omega
 have e:Ew l seed=l.take (AiL l seed)++⟨t,Ag6 seed⟩::l.drop (AiL l seed):=by
  unfold Ew
  rw[if_pos]
  ·rw[ht]
  ·simp[h1,h2,<-ht,h3]
 have hgp:=AoS l seed (by omega)
 have hgb:=AhF seed
 rw[e]
 simp -implicitDefEqProofs [h3']
 refine Aa (hP seed 2 3) ?_
 have hp2:=UK seed 2 (n:=3) ⟨by omega,by omega⟩
 have eb:Ag6 seed=List.replicate (pick seed 2 3).toNat (pick seed 3 256):=rfl
 obtain⟨n,hn⟩:∃n:Nat,pick seed 2 3=n:=⟨(pick seed 2 3).toNat,by omega⟩
 rw[hn]at eb hp2⊢
 rw[Int.toNat_natCast]at eb
 rw[eb]at hgb⊢
 generalize hv:pick seed 3 256=v at *
 simp -implicitDefEqProofs
 refine Ag (fun k s=>∃j o2 o3,j+k=n/\s=⟨[.sl 1 2 l.length (l.flatMap Cc),I seed,.undef,.undef,.arr 0,.ptr 1 0,I k,.undef,.undef,.undef],[.arr 2 0 l.length (l.flatMap Cc),.var [I t,.arr 9],o2,o3,.free,.free,.free,.free,.free,.arr 1 0 j (ints (List.replicate j v))]⟩) ?_ (n) _ ⟨0,.free,.free,by simp,by simp[ints]⟩
 intro k s ⟨j,o2,o3,hj,hs⟩
 subst hs
 by_cases hjn:j<n
 ·have hk0:0<k:=by omega
  have hb1:(j+1)*8<=1099511627776:=by omega
  have hwk:IntKind.i64.wrap ((k:Int)-1)=(k-1:Nat):=by rw[Ad (by omega) (by omega)];omega
  simp -implicitDefEqProofs [hk0]
  refine Aa (hP seed 3 256) ?_
  rw[hv]
  simp -implicitDefEqProofs [hb1]
  exact⟨k-1,by omega,j+1,by omega,by simp[hwk],by simp[ints,List.replicate_succ']⟩
 have hk0:k=0:=by omega
 obtain rfl:j=n:=by omega
 subst hk0
 have hwl:IntKind.i64.wrap ((l.length:Int)+1)=(l.length:Int)+1:=Ad (by omega) (by omega)
 simp -implicitDefEqProofs [hwl]
 refine Aa (hP seed 1 (l.length+1)) ?_
 have hp1:=UK seed 1 (n:=(l.length:Int)+1) ⟨by omega,by omega⟩
 have eg:AiL l seed=(pick seed 1 (l.length+1)).toNat:=rfl
 generalize pick seed 1 (l.length+1)=k1 at hp1 eg
 obtain⟨kk,rfl⟩:∃kk:Nat,k1=kk:=⟨k1.toNat,by omega⟩
 rw[Int.toNat_natCast]at eg
 rw[eg]at hgp⊢
 have hk1:(kk:Int)<=l.length:=by omega
 have hb2:kk*32<=1099511627776:=by omega
 have hb3:(kk+1)*32<=1099511627776:=by omega
 have hb4:(kk+1+(l.length-kk))*32<=1099511627776:=by omega
 simp -implicitDefEqProofs [hk1,hgp,hb2,hb3,hb4,AfD hgp,Akd hgp]
 all_goals omega
theorem Aig {l:List Ext} (hl:OD l) (h6:l.length<=4194303) (seed:Int):OD (Ew l seed):=by
 unfold Ew
 split
 ·refine⟨?_,?_⟩
  ·simp;omega
  ·intro x hx
   rcases List.mem_append.1 hx with h | h
   ·exact hl.2 x (List.mem_of_mem_take h)
   ·rcases List.mem_cons.1 h with h | h
    ·subst h;have:=AhF seed;dsimp only;omega
    ·exact hl.2 x (List.mem_of_mem_drop h)
 ·exact hl
def bare (ts:List Int):List Ext:=ts.map fun t=>⟨t,[]⟩
theorem Om (ts:List Int):(bare ts).length=ts.length:=by simp[bare]
theorem Af4 {ts:List Int} (h:ts.length<=4194304):OD (bare ts):=⟨by rw[Om];exact h,fun x hx=>by
 obtain⟨t,_,rfl⟩:=List.mem_map.1 hx;simp⟩
theorem Aly {ts:List Int} {j:Nat} (h:j<ts.length):(bare (ts.take j)).flatMap Cc++ [.sc (.int .i64 ts[j]),.sl 0 1 0 []]=(bare (ts.take (j+1))).flatMap Cc:=by
 have e:ts.take (j+1)=ts.take j++ [ts[j]]:=by simp
 rw[e]
 unfold bare
 rw[List.map_append,List.flatMap_append]
 rfl
def Ho (e:Ai) (seed:Int):Hello:=if Au e=true then⟨e.versions,Ew (bare e.tags) seed⟩else AU
abbrev U7:Prop:=∀(e:Ai) (seed:Int),Am e<=4194304->R [arg (Ah e),I seed] [] (.agg (Ck (Ho e seed))) []
theorem Uh {e:Ai} (h:Au e=true):e.tags.length<=5:=by
 unfold Au at h
 simp only[Bool.and_eq_true,decide_eq_true_eq]at h
 exact h.2.1
theorem Air {e:Ai} (hsz:Am e<=4194304) (seed:Int):hB (Ho e seed):=by
 unfold Ho
 split
 ·rename_i h
  have:=Uh h
  exact⟨Adq hsz,Aig (Af4 (by omega)) (by rw[Om];omega) seed⟩
 ·exact Aba
theorem AhY (hE:Ij (D 207)) (hG:O8 (D 283)):U7 (Body D NF):=by
 intro e seed hsz
 have hl:=AhO hsz
 have hv:=Adq hsz
 simp -implicitDefEqProofs
 refine Aa (hE e hl) ?_
 by_cases h1:Au e=true
 rotate_left
 ·simp -implicitDefEqProofs [h1,Ho,AU]
 have h5:=Uh h1
 have he:Ho e seed=⟨e.versions,Ew (bare e.tags) seed⟩:=by unfold Ho;rw[if_pos h1]
 rw[he]
 have hb2:e.versions.length*8<=1099511627776:=by omega
 simp -implicitDefEqProofs [h1]
 refine Ag (fun k s=>∃j o3 o4,j+k=e.tags.length/\s=⟨[.undef,I seed,.ptr 0 0,.ptr 1 0,.arr 8,I j,.undef,.undef],[.var ((Ah e).map (AO 1)),.var [.nil 1,.nil 2],.free,o3,o4,.free,.free,.free,.arr 2 0 j ((bare (e.tags.take j)).flatMap Cc)]⟩) ?_ (e.tags.length) _ ⟨0,.free,.free,by simp,by simp[bare]⟩
 intro k s ⟨j,o3,o4,hj,hs⟩
 subst hs
 by_cases hjn:j<e.tags.length
 ·have hw:=Cv (j:=j) (by omega)
  have hst:=Aly hjn
  have hb1:(j+1)*32<=1099511627776:=by omega
  have hlen:(bare (e.tags.take j)).length=j:=by rw[Om];simp;omega
  have hlen2:(bare (e.tags.take (j+1))).length=j+1:=by rw[Om];simp;omega
  simp -implicitDefEqProofs [hjn,hb1]
  exact⟨k-1,by omega,j+1,by omega,by simp[hw],by rw[<-hst];exact⟨rfl,rfl⟩⟩
 have e2:e.tags.take j=e.tags:=List.take_of_length_le (by omega)
 obtain rfl:j=e.tags.length:=by omega
 simp -implicitDefEqProofs [hjn,e2,hb2]
 have hq:=hG (bare e.tags) seed (Af4 (by omega))
 rw[Om]at hq
 refine Aa (hq) ?_
 simp -implicitDefEqProofs
theorem AH6 (hE:Ij (D 239)) (hG:O8 (D 290)):U7 (Body D Aw2):=by
 intro e seed hsz
 have hl:=AhO hsz
 have hv:=Adq hsz
 simp -implicitDefEqProofs
 refine Aa (hE e hl) ?_
 by_cases h1:Au e=true
 rotate_left
 ·simp -implicitDefEqProofs [h1,Ho,AU]
 have h5:=Uh h1
 have he:Ho e seed=⟨e.versions,Ew (bare e.tags) seed⟩:=by unfold Ho;rw[if_pos h1]
 rw[he]
 have hb2:e.versions.length*8<=1099511627776:=by omega
 simp -implicitDefEqProofs [h1]
 refine Ag (fun k s=>∃j o3 o4,j+k=e.tags.length/\s=⟨[.undef,I seed,.ptr 0 0,.ptr 1 0,.arr 8,.undef,.undef,.sl 1 1 e.tags.length (ints e.tags),I e.tags.length,I j,.undef],[.var ((Ah e).map (AO 1)),.var [.nil 1,.nil 2],.free,o3,o4,.free,.free,.free,.arr 2 0 j ((bare (e.tags.take j)).flatMap Cc)]⟩) ?_ (e.tags.length) _ ⟨0,.free,.free,by simp,by simp[bare]⟩
 intro k s ⟨j,o3,o4,hj,hs⟩
 subst hs
 by_cases hjn:j<e.tags.length
 ·have hw:=Cv (j:=j) (by omega)
  have hst:=Aly hjn
  have hb1:(j+1)*32<=1099511627776:=by omega
  have hlen:(bare (e.tags.take j)).length=j:=by rw[Om];simp;omega
  have hlen2:(bare (e.tags.take (j+1))).length=j+1:=by rw[Om];simp;omega
  simp -implicitDefEqProofs [hjn,hb1]
  exact⟨k-1,by omega,j+1,by omega,by simp[hw],by rw[<-hst];exact⟨rfl,rfl⟩⟩
 have e2:e.tags.take j=e.tags:=List.take_of_length_le (by omega)
 obtain rfl:j=e.tags.length:=by omega
 simp -implicitDefEqProofs [hjn,e2,hb2]
 have hq:=hG (bare e.tags) seed (Af4 (by omega))
 rw[Om]at hq
 refine Aa (hq) ?_
 simp -implicitDefEqProofs
def Md:BP:=⟨E9,0,[]⟩
def MO (e:Ai) (vs tags:List Int) (key seed:Int):BP:=if Au e=true then Xh (Ho e seed) e.path vs tags key else Md
abbrev Uj:Prop:=∀(e:Ai) (vs tags:List Int) (key seed:Int),Am e<=4194304->vs.length<=4194304->tags.length<=4194304->
 R [arg (Ah e),.sl 1 1 vs.length (ints vs),.sl 1 1 tags.length (ints tags),I key,I seed] [] (.agg (AB (MO e vs tags key seed))) []
theorem AiM (hE:Ij (D 207)) (hH:U7 (D 251)) (hD:AfC (D 252)):Uj (Body D NH):=by
 intro e vs tags key seed hsz hv ht
 have hl:=AhO hsz
 simp -implicitDefEqProofs
 refine Aa (hE e hl) ?_
 by_cases h1:Au e=true
 rotate_left
 ·simp -implicitDefEqProofs [h1,MO,Md,E9]
 simp -implicitDefEqProofs [h1]
 refine Aa (hH e seed hsz) ?_
 have hh:=Air hsz seed
 have he:MO e vs tags key seed=Xh (Ho e seed) e.path vs tags key:=by unfold MO;rw[if_pos h1]
 rw[he]
 generalize Ho e seed=h at hh
 simp -implicitDefEqProofs
 refine Aa (hD h e.path vs tags key hh hl.2.2 hv ht) ?_
 simp -implicitDefEqProofs
theorem AIb (hE:Ij (D 239)) (hH:U7 (D 261)) (hD:AfC (D 262)):Uj (Body D AwE):=by
 intro e vs tags key seed hsz hv ht
 have hl:=AhO hsz
 simp -implicitDefEqProofs
 refine Aa (hE e hl) ?_
 by_cases h1:Au e=true
 rotate_left
 ·simp -implicitDefEqProofs [h1,MO,Md,E9]
 simp -implicitDefEqProofs [h1]
 refine Aa (hH e seed hsz) ?_
 have hh:=Air hsz seed
 have he:MO e vs tags key seed=Xh (Ho e seed) e.path vs tags key:=by unfold MO;rw[if_pos h1]
 rw[he]
 generalize Ho e seed=h at hh
 simp -implicitDefEqProofs
 refine Aa (hD h e.path vs tags key hh hl.2.2 hv ht) ?_
 simp -implicitDefEqProofs
def clip (n:Int):Int:=max (-100000) (min 100000 n)
abbrev AjP:Prop:=∀n:Int,R [I n] [] (I (clip n)) []
theorem Akx (hM:Afz (D 215)) (hN:Ajq (D 253)):AjP (Body D Ny):=by
 intro n
 simp -implicitDefEqProofs
 refine Aa (hN _ _) ?_
 simp -implicitDefEqProofs
 refine Aa (hM _ _) ?_
 simp -implicitDefEqProofs [clip]
def KI (w:World) (i:Int):BP:=if NJ i 0 ((w.ends.length:Int)-1)then(match w.ends[i.toNat]? with | some e=>MO e w.server w.tags w.key (16*clip w.now+i) | none=>Md)else Md
abbrev ZL:Prop:=∀(w:World) (i:Int),Af w<=4194304->R [arg (Bu w),I i] [] (.agg (AB (KI w i))) []
theorem An9 (n:Int):-100000<=clip n/\clip n<=100000:=by unfold clip;omega
theorem Akz (hI:Vf (D 71)) (hC:AjP (D 212)) (hB:Uj (D 213)):ZL (Body D OE):=by
 intro w i hsz
 have he:=FE hsz
 have hw:IntKind.i64.wrap ((w.ends.length:Int)-1)=(w.ends.length:Int)-1:=Ad (by omega) (by omega)
 simp -implicitDefEqProofs [hw]
 refine Aa (hI _ _ _) ?_
 by_cases h1:NJ i 0 ((w.ends.length:Int)-1)
 rotate_left
 ·simp -implicitDefEqProofs [h1,KI,Md,E9]
 obtain⟨n,rfl⟩:∃n:Nat,i=n:=⟨i.toNat,by have:=h1.1;omega⟩
 have hn:n<w.ends.length:=by have:=h1.2;omega
 have hb:=Od hsz
 have hes:=AdH hsz hn
 have e:KI w n=MO w.ends[n] w.server w.tags w.key (16*clip w.now+n):=by unfold KI;rw[if_pos h1];simp[hn]
 rw[e]
 simp -implicitDefEqProofs [h1,hn]
 refine Aa (hC w.now) ?_
 have hcl:=An9 w.now
 generalize clip w.now=c at hcl
 have hw1:IntKind.i64.wrap (16*c)=16*c:=Ad (by omega) (by omega)
 have hw2:IntKind.i64.wrap (16*c+n)=16*c+n:=Ad (by omega) (by omega)
 simp -implicitDefEqProofs [hw1,hw2]
 refine Aa (hB w.ends[n] w.server w.tags w.key _ hes hb.1 hb.2.1) ?_
 simp -implicitDefEqProofs
theorem AJE (hI:Au5 (D 117)) (hB:Uj (D 227)):ZL (Body D AxC):=by
 intro w i hsz
 have he:=FE hsz
 simp -implicitDefEqProofs
 refine Aa (hI w i he) ?_
 by_cases h1:NJ i 0 ((w.ends.length:Int)-1)
 rotate_left
 ·simp -implicitDefEqProofs [h1,KI,Md,E9]
 obtain⟨n,rfl⟩:∃n:Nat,i=n:=⟨i.toNat,by have:=h1.1;omega⟩
 have hn:n<w.ends.length:=by have:=h1.2;omega
 have hb:=Od hsz
 have hes:=AdH hsz hn
 have e:KI w n=MO w.ends[n] w.server w.tags w.key (16*clip w.now+n):=by unfold KI;rw[if_pos h1];simp[hn]
 rw[e]
 simp -implicitDefEqProofs [h1,hn]
 have hc:(if(if 100000<w.now then 100000 else w.now)< -100000 then -100000 else if 100000<w.now then 100000 else w.now)=clip w.now:=by
  unfold clip
  split<;>split<;>omega
 rw[hc]
 have hcl:=An9 w.now
 generalize clip w.now=c at hcl
 have hw1:IntKind.i64.wrap (16*c)=16*c:=Ad (by omega) (by omega)
 have hw2:IntKind.i64.wrap (16*c+n)=16*c+n:=Ad (by omega) (by omega)
 rw[hw1,hw2]
 refine Aa (hB w.ends[n] w.server w.tags w.key _ hes hb.1 hb.2.1) ?_
 simp -implicitDefEqProofs
set_option maxHeartbeats 4000000
def Ca (w:World) (r:AX):World:={w with rollout:=r}
def BS (w:World):World×Bool:=
 if w.reached=0 then(w,false)
 else if LB w=1 then(if(Bp w.rollout).2=true then(enter (Ca w (Bp w.rollout).1),true)else(w,false))
 else if LB w=2 then(if(BI w.rollout).2=true then(leave (Ca w (BI w.rollout).1),true)else(w,false))
 else(w,false)
abbrev Pk:Prop:=∀w:World,Af w<=4194304->R [arg (Bu w)] [] (.tup [.agg (Bu (BS w).1),B (BS w).2]) []
theorem AjU (r:AX):Db (Bp r).1=Db r:=by unfold Bp;split<;>rfl
theorem Aoc (r:AX):Db (BI r).1=Db r:=by unfold BI;split<;>rfl
theorem Abi (r:AX):(BI r).1.version=r.version:=by unfold BI;split<;>rfl
theorem AgZ {w:World} {r:AX} (h:Db r=Db w.rollout):Af (Ca w r)=Af w:=by simp only[Af,Ca,h]
theorem Ah7 {w:World} {r:AX} (h:r.version=w.rollout.version):leave (Ca w r)=Ca (leave w) r:=by
 have e:Ev (Ca w r)=Ev w:=by
  funext x
  unfold Ev Ca
  rw[h]
 unfold leave
 rw[e]
 rfl
theorem AFA (hC:EF (D 38)) (hN:Pq (D 127)) (hX:PX (D 178)) (hE:J3 (D 177)) (hB:Pj (D 179)) (hL:JG (D 180)):Pk (Body D Avn):=by
 intro w hsz
 have hr:=XH hsz
 simp -implicitDefEqProofs
 refine Aa (hC w hsz) ?_
 by_cases h0:w.reached=0
 ·have e:BS w=(w,false):=by unfold BS;rw[if_pos h0]
  simp -implicitDefEqProofs [h0,e]
 simp -implicitDefEqProofs [h0]
 refine Aa (hN w hsz) ?_
 by_cases g1:LB w=1
 ·simp -implicitDefEqProofs [g1]
  refine Aa (hX w.rollout hr) ?_
  have hs:=AjU w.rollout
  by_cases hk:(Bp w.rollout).2=true
  ·have e:BS w=(enter (Ca w (Bp w.rollout).1),true):=by unfold BS;rw[if_neg h0,if_pos g1,if_pos hk]
   rw[e]
   generalize(Bp w.rollout).1=r at hs
   simp -implicitDefEqProofs [hk]
   refine Aa (hE (Ca w r) (by rw[AgZ hs];exact hsz)) ?_
   simp -implicitDefEqProofs
  ·have e:BS w=(w,false):=by unfold BS;rw[if_neg h0,if_pos g1,if_neg hk]
   rw[e]
   generalize(Bp w.rollout).1=r
   simp -implicitDefEqProofs [hk]
   refine Aa (hC w hsz) ?_
   simp -implicitDefEqProofs
 simp -implicitDefEqProofs [g1]
 by_cases g2:LB w=2
 ·simp -implicitDefEqProofs [g2]
  refine Aa (hB w.rollout hr) ?_
  have hs:=Aoc w.rollout
  by_cases hk:(BI w.rollout).2=true
  ·have e:BS w=(leave (Ca w (BI w.rollout).1),true):=by unfold BS;rw[if_neg h0,if_neg g1,if_pos g2,if_pos hk]
   rw[e]
   generalize(BI w.rollout).1=r at hs
   simp -implicitDefEqProofs [hk]
   refine Aa (hL (Ca w r) (by rw[AgZ hs];exact hsz)) ?_
   simp -implicitDefEqProofs
  ·have e:BS w=(w,false):=by unfold BS;rw[if_neg h0,if_neg g1,if_pos g2,if_neg hk]
   rw[e]
   generalize(BI w.rollout).1=r
   simp -implicitDefEqProofs [hk]
   refine Aa (hC w hsz) ?_
   simp -implicitDefEqProofs
 have e:BS w=(w,false):=by unfold BS;rw[if_neg h0,if_neg g1,if_neg g2]
 rw[e]
 simp -implicitDefEqProofs [g2]
 refine Aa (hC w hsz) ?_
 simp -implicitDefEqProofs
theorem AeE (hC:EF (D 22)) (hN:Pq (D 82)) (hX:PX (D 147)) (hE:J3 (D 146)) (hB:Pj (D 148)) (hL:JG (D 149)):Pk (Body D Kz):=by
 intro w hsz
 have hr:=XH hsz
 simp -implicitDefEqProofs
 refine Aa (hC w hsz) ?_
 by_cases h0:w.reached=0
 ·have e:BS w=(w,false):=by unfold BS;rw[if_pos h0]
  simp -implicitDefEqProofs [h0,e]
 simp -implicitDefEqProofs [h0]
 refine Aa (hN w hsz) ?_
 by_cases g1:LB w=1
 ·simp -implicitDefEqProofs [g1]
  refine Aa (hX w.rollout hr) ?_
  have hs:=AjU w.rollout
  by_cases hk:(Bp w.rollout).2=true
  ·have e:BS w=(enter (Ca w (Bp w.rollout).1),true):=by unfold BS;rw[if_neg h0,if_pos g1,if_pos hk]
   rw[e]
   generalize(Bp w.rollout).1=r at hs
   simp -implicitDefEqProofs [hk]
   refine Aa (hE (Ca w r) (by rw[AgZ hs];exact hsz)) ?_
   simp -implicitDefEqProofs
  ·have e:BS w=(w,false):=by unfold BS;rw[if_neg h0,if_pos g1,if_neg hk]
   rw[e]
   generalize(Bp w.rollout).1=r
   simp -implicitDefEqProofs [hk]
 simp -implicitDefEqProofs [g1]
 by_cases g2:LB w=2
 ·simp -implicitDefEqProofs [g2]
  refine Aa (hB w.rollout hr) ?_
  have hv:=Abi w.rollout
  by_cases hk:(BI w.rollout).2=true
  ·have e:BS w=(Ca (leave w) (BI w.rollout).1,true):=by unfold BS;rw[if_neg h0,if_neg g1,if_pos g2,if_pos hk,Ah7 hv]
   rw[e]
   generalize(BI w.rollout).1=r
   simp -implicitDefEqProofs [hk]
   refine Aa (hL w hsz) ?_
   simp -implicitDefEqProofs [Ca]
  ·have e:BS w=(w,false):=by unfold BS;rw[if_neg h0,if_neg g1,if_pos g2,if_neg hk]
   rw[e]
   generalize(BI w.rollout).1=r
   simp -implicitDefEqProofs [hk]
 have e:BS w=(w,false):=by unfold BS;rw[if_neg h0,if_neg g1,if_neg g2]
 rw[e]
 simp -implicitDefEqProofs [g2]
set_option maxHeartbeats 2000000
theorem Zu (p:Int->Bool) (l:List Ext):(kept p l).length<=l.length:=List.length_filter_le _ _
theorem AiX (b:EG) (h:Hello):(BV b h).1.exts.length<=h.exts.length:=by
 unfold BV
 split
 ·exact Zu _ _
 ·simp[AU]
theorem AdX:∀(path:List EG) (h:Hello),(Gd path h).1.exts.length<=h.exts.length
 | [],h=>by simp[Gd]
 | b::r,h=>by
  have h1:=AiX b h
  have h2:=AdX r (BV b h).1
  unfold Gd
  split
  ·omega
  ·simp[AU]
theorem AfM (path:List EG) (h:Hello):(Bd path h).1.exts.length<=h.exts.length:=by
 unfold Bd
 split
 ·exact AdX _ _
 ·simp[AU]
theorem Apd (h:Hello) (a b:List Int):(ET h a b).1.exts.length<=h.exts.length:=by
 unfold ET
 split
 ·exact Zu (fun t=> !decide (t∈b)) h.exts
 ·simp[AU]
theorem Aov (h:Hello) (path:List EG):(Bg h path).1.exts.length<=h.exts.length:=by
 unfold Bg fallback
 have:=Apd h (BZ path h.versions) (FZ path (leftOf h.versions (BZ path h.versions)) h.exts)
 repeat' split
 all_goals simp[AU]<;>omega
theorem AlG (h seen:Hello) (vs tags:List Int) (key:Int):(O1 h seen vs tags key).tags.length<=seen.exts.length:=by
 unfold O1
 split
 ·have:(Bb vs tags seen).1.exts.length<=seen.exts.length:=by
   unfold Bb
   split
   ·exact Nat.le_trans (Zu (fun t=> !BH t) (JP seen.exts tags)) (Zu (fun t=>decide (t∈tags)) seen.exts)
   ·simp
  simpa[Ba]using this
 ·simp[E9]
theorem AoR (h:Hello) (path:List EG) (vs tags:List Int) (key:Int):Cb (Xh h path vs tags key)<=2*h.exts.length+h.versions.length:=by
 unfold Xh
 split
 ·have h1:=Aov h path
  have h2:=AfM path (Bg h path).1
  have h3:(Hl (Bg h path).1 path vs tags key).tags.length<=h.exts.length:=by
   unfold Hl
   split
   ·have:=AlG (Bg h path).1 (Bd path (Bg h path).1).1 vs tags key;omega
   ·simp[E9]
  have h4:(JN h (Bg h path).1).length<=h.exts.length+h.versions.length:=by
   unfold JN leftOf
   have a1:=List.length_filter_le (fun v=> !decide (v∈(Bg h path).1.versions)) h.versions
   have a2:=List.length_filter_le (Abb (Ba (Bg h path).1.exts)) (Ba h.exts)
   have a3:(Ba h.exts).length=h.exts.length:=QA _
   simp only[List.length_append,List.length_map]
   omega
  simp only[Cb,ND]
  omega
 ·simp[Cb,ND,E9]
theorem Ak5 (l:List Ext) (seed:Int) (h:l.length<=5):(Ew l seed).length<=6:=by
 unfold Ew
 split
 ·simp;omega
 ·omega
theorem AiU (e:Ai) (vs tags:List Int) (key seed:Int):Cb (MO e vs tags key seed)<=21:=by
 unfold MO
 split
 ·rename_i h1
  have h5:=Uh h1
  have e1:Ho e seed=⟨e.versions,Ew (bare e.tags) seed⟩:=by unfold Ho;rw[if_pos h1]
  have h2:=AoR (Ho e seed) e.path vs tags key
  have h3:=Ak5 (bare e.tags) seed (by rw[Om];exact h5)
  have h4:e.versions.length<=9:=by
   unfold Au at h1
   simp only[Bool.and_eq_true,decide_eq_true_eq]at h1
   exact AgB h1.1
  rw[e1]at h2⊢
  dsimp only at h2⊢
  omega
 ·simp[Cb,ND,Md,E9]
theorem AdR (w:World) (i:Int):Cb (KI w i)<=21:=by
 unfold KI
 repeat' split
 all_goals first | exact AiU _ _ _ _ _ | simp[Cb,ND,Md,E9]
def Hu (w:World) (i:Int) (d:BP) (on:Bool):World:=
 {w with log:=w.log++ [⟨i,w.now,on,d⟩],stage:=(if on=true then w.stage++ [d]else w.stage),hurt:=(if(on&&Lj w.rollout.version d)=true then IntKind.i64.wrap (w.hurt+1)else w.hurt)}
def Lu (w:World) (i:Int):Bool:=decide (NJ i 0 ((w.ends.length:Int)-1))&&(decide (w.log.length<60)&&decide (w.stage.length<60))
def CR (w:World) (i:Int):World×Bool:=if Lu w i=true then(Hu w i (KI w i) (Pg w i),true)else(w,false)
abbrev RZ:Prop:=∀(w:World) (i:Int),Af w<=4194304->R [arg (Bu w),I i] [] (.tup [.agg (Bu (CR w i).1),B (CR w i).2]) []
theorem Ahi (hC:EF (D 22)) (hI:Vf (D 71)) (hDo:ZL (D 142)) (hOn:Vw (D 143)) (hCd:NY (D 67)) (hB:PN (D 144)):RZ (Body D Mx):=by
 intro w i hsz
 have he:=FE hsz
 have hw:IntKind.i64.wrap ((w.ends.length:Int)-1)=(w.ends.length:Int)-1:=Ad (by omega) (by omega)
 simp -implicitDefEqProofs
 refine Aa (hC w hsz) ?_
 simp -implicitDefEqProofs [hw]
 refine Aa (hI _ _ _) ?_
 by_cases h1:NJ i 0 ((w.ends.length:Int)-1)
 rotate_left
 ·simp -implicitDefEqProofs [h1,CR,Lu]
 by_cases h2:w.log.length<60
 rotate_left
 ·have h2':(60:Int)<=w.log.length:=by omega
  simp -implicitDefEqProofs [h1,h2,h2',CR,Lu]
 have h2':¬(60:Int)<=w.log.length:=by omega
 by_cases h3:w.stage.length<60
 rotate_left
 ·have h3':(60:Int)<=w.stage.length:=by omega
  simp -implicitDefEqProofs [h1,h2,h2',h3,h3',CR,Lu]
 have h3':¬(60:Int)<=w.stage.length:=by omega
 have e:CR w i=(Hu w i (KI w i) (Pg w i),true):=by unfold CR Lu;rw[if_pos (by simp[h1,h2,h3])]
 rw[e]
 have hds:=AdR w i
 simp -implicitDefEqProofs [h1,h2',h3']
 refine Aa (hDo w i hsz) ?_
 generalize KI w i=d at hds
 simp -implicitDefEqProofs
 refine Aa (hOn w i hsz) ?_
 generalize Pg w i=on
 have b1:(w.log.length+1)*96<=1099511627776:=by omega
 have b2:(w.stage.length+1)*72<=1099511627776:=by omega
 have b3:d.up.length<=maxLen:=by unfold Cb at hds;unfold maxLen;omega
 by_cases g:on=true
 rotate_left
 ·simp -implicitDefEqProofs [g,b1,Hu,Az]
 simp -implicitDefEqProofs [g,b1]
 trace_state
 refine Aa (hCd d (by omega)) ?_
 simp -implicitDefEqProofs [g,b1,b2]
 refine Aa (hB d _ b3) ?_
 by_cases g2:Lj w.rollout.version d=true
 ·simp -implicitDefEqProofs [g,g2,b1,b2,Hu,Az,AB]
 ·simp -implicitDefEqProofs [g,g2,b1,b2,Hu,Az,AB]
theorem AGZ (hC:EF (D 38)) (hI:Au5 (D 117)) (hDo:ZL (D 173)) (hOn:Vw (D 174)) (hCd:NY (D 103)) (hB:PN (D 175)):RZ (Body D Av8):=by
 intro w i hsz
 have he:=FE hsz
 simp -implicitDefEqProofs
 refine Aa (hC w hsz) ?_
 simp -implicitDefEqProofs
 refine Aa (hI w i he) ?_
 by_cases h1:NJ i 0 ((w.ends.length:Int)-1)
 rotate_left
 ·simp -implicitDefEqProofs [h1,CR,Lu]
 by_cases h2:w.log.length<60
 rotate_left
 ·have h2':(60:Int)<=w.log.length:=by omega
  simp -implicitDefEqProofs [h1,h2,h2',CR,Lu]
 have h2':¬(60:Int)<=w.log.length:=by omega
 by_cases h3:w.stage.length<60
 rotate_left
 ·have h3':(60:Int)<=w.stage.length:=by omega
  simp -implicitDefEqProofs [h1,h2,h2',h3,h3',CR,Lu]
 have h3':¬(60:Int)<=w.stage.length:=by omega
 have e:CR w i=(Hu w i (KI w i) (Pg w i),true):=by unfold CR Lu;rw[if_pos (by simp[h1,h2,h3])]
 rw[e]
 have hds:=AdR w i
 simp -implicitDefEqProofs [h1,h2',h3']
 refine Aa (hDo w i hsz) ?_
 generalize KI w i=d at hds
 simp -implicitDefEqProofs
 refine Aa (hOn w i hsz) ?_
 generalize Pg w i=on
 have b1:(w.log.length+1)*96<=1099511627776:=by omega
 have b2:(w.stage.length+1)*72<=1099511627776:=by omega
 have b3:d.up.length<=maxLen:=by unfold Cb at hds;unfold maxLen;omega
 by_cases g:on=true
 rotate_left
 ·simp -implicitDefEqProofs [g,b1,Hu,Az]
 simp -implicitDefEqProofs [g,b1]
 trace_state
 refine Aa (hCd d (by omega)) ?_
 simp -implicitDefEqProofs [g,b1,b2]
 refine Aa (hB d _ b3) ?_
 by_cases g2:Lj w.rollout.version d=true
 ·simp -implicitDefEqProofs [g,g2,b1,b2,Hu,Az,AB]
 ·simp -implicitDefEqProofs [g,g2,b1,b2,Hu,Az,AB]
theorem AdZ (w:World) (i:Int):Af (CR w i).1+(60-(CR w i).1.log.length)*50<=Af w+(60-w.log.length)*50/\(CR w i).1.ends=w.ends/\(CR w i).1.rollout=w.rollout:=by
 unfold CR
 split
 ·rename_i h
  unfold Lu at h
  simp only[Bool.and_eq_true,decide_eq_true_eq]at h
  have hd:=AdR w i
  refine⟨?_,rfl,rfl⟩
  unfold Hu
  simp only[Af,Cr,List.length_append,List.length_cons,List.length_nil,List.map_append,List.map_cons,List.map_nil,List.sum_append,List.sum_cons,List.sum_nil,Ip]
  split
  ·simp only[List.length_append,List.length_cons,List.length_nil,List.map_append,List.map_cons,List.map_nil,List.sum_append,List.sum_cons,List.sum_nil];omega
  ·omega
 ·exact⟨Nat.le_refl _,rfl,rfl⟩
def Apu (w:World):Nat->World
 | 0=>w
 | n+1=>(CR (Apu w n) n).1
def AGj (w:World):World:=Apu w w.ends.length
theorem AFh (w:World):∀n,Af (Apu w n)+(60-(Apu w n).log.length)*50<=Af w+(60-w.log.length)*50
 | 0=>Nat.le_refl _
 | n+1=>Nat.le_trans (AdZ (Apu w n) n).1 (AFh w n)
theorem AKm (w:World) (n:Nat):Af (Apu w n)<=Af w+3000:=by have:=AFh w n;omega
abbrev AC8:Prop:=∀w:World,Af w<=4190000->R [arg (Bu w)] [] (.agg (Bu (AGj w))) []
theorem APd (hC:EF (D 22)) (hD:RZ (D 72)):AC8 (Body D AMi):=by
 intro w hsz
 have he:=FE (w:=w) (by omega)
 simp -implicitDefEqProofs
 refine Aa (hC w (by omega)) ?_
 simp -implicitDefEqProofs
 refine Ag (fun k s=>∃j,j+k=w.ends.length/\s=⟨[.undef,.ptr 0 0,.ptr 1 0,.ptr 8 0,I j,.undef],[.var ((Bu w).map (AO 1)),.var [.nil 1,.nil 1,I 0,.nil 4,I 0,.nil 1,I 0,B false,I 0,I 0,.nil 5,.nil 8,I 0,I 0,I 0],.free,.free,.free,.free,.free,.free,.var [.arr 15,.arr 16,I (Apu w j).key,.arr 17,I (Apu w j).rollout.version,.arr 18,I (Apu w j).rollout.pos,B (Apu w j).rollout.off,I (Apu w j).least,I (Apu w j).percent,.arr 19,.arr 20,I (Apu w j).now,I (Apu w j).hurt,I (Apu w j).reached],.free,.free,.free,.free,.free,.free,.arr 1 0 (Apu w j).server.length (ints (Apu w j).server),.arr 1 0 (Apu w j).tags.length (ints (Apu w j).tags),.arr 4 0 (Apu w j).ends.length ((Apu w j).ends.flatMap Ah),.arr 1 0 (Apu w j).rollout.stages.length (ints (Apu w j).rollout.stages),.arr 5 0 (Apu w j).stage.length ((Apu w j).stage.flatMap AB),.arr 8 0 (Apu w j).log.length ((Apu w j).log.flatMap Az)]⟩) ?_ (w.ends.length) _ ⟨0,by simp,by simp[Apu]⟩
 intro k s ⟨j,hj,hs⟩
 subst hs
 by_cases hjn:j<w.ends.length
 ·have hw:=Cv (j:=j) (by omega)
  simp -implicitDefEqProofs [hjn]
  refine Aa (hD (Apu w j) j (by have:=AKm w j;omega)) ?_
  have e:(CR (Apu w j) j).1=Apu w (j+1):=rfl
  rw[e]
  simp -implicitDefEqProofs
  exact⟨k-1,by omega,j+1,by omega,by simp[hw]⟩
 ·obtain rfl:j=w.ends.length:=by omega
  simp -implicitDefEqProofs [AGj]
theorem AJq (hC:EF (D 38)) (hD:RZ (D 106)):AC8 (Body D Axp):=by
 intro w hsz
 have he:=FE (w:=w) (by omega)
 simp -implicitDefEqProofs
 refine Aa (hC w (by omega)) ?_
 simp -implicitDefEqProofs
 refine Ag (fun k s=>∃j,j+k=w.ends.length/\s=⟨[.undef,.undef,.ptr 1 0,.ptr 8 0,.undef,I w.ends.length,I j,.undef],[.var ((Bu w).map (AO 1)),.var [.nil 1,.nil 1,I 0,.nil 4,I 0,.nil 1,I 0,B false,I 0,I 0,.nil 5,.nil 8,I 0,I 0,I 0],.free,.free,.free,.free,.free,.free,.var [.arr 15,.arr 16,I (Apu w j).key,.arr 17,I (Apu w j).rollout.version,.arr 18,I (Apu w j).rollout.pos,B (Apu w j).rollout.off,I (Apu w j).least,I (Apu w j).percent,.arr 19,.arr 20,I (Apu w j).now,I (Apu w j).hurt,I (Apu w j).reached],.free,.free,.free,.free,.free,.free,.arr 1 0 (Apu w j).server.length (ints (Apu w j).server),.arr 1 0 (Apu w j).tags.length (ints (Apu w j).tags),.arr 4 0 (Apu w j).ends.length ((Apu w j).ends.flatMap Ah),.arr 1 0 (Apu w j).rollout.stages.length (ints (Apu w j).rollout.stages),.arr 5 0 (Apu w j).stage.length ((Apu w j).stage.flatMap AB),.arr 8 0 (Apu w j).log.length ((Apu w j).log.flatMap Az)]⟩) ?_ (w.ends.length) _ ⟨0,by simp,by simp[Apu]⟩
 intro k s ⟨j,hj,hs⟩
 subst hs
 by_cases hjn:j<w.ends.length
 ·have hw:=Cv (j:=j) (by omega)
  simp -implicitDefEqProofs [hjn]
  refine Aa (hD (Apu w j) j (by have:=AKm w j;omega)) ?_
  have e:(CR (Apu w j) j).1=Apu w (j+1):=rfl
  rw[e]
  simp -implicitDefEqProofs
  exact⟨k-1,by omega,j+1,by omega,by simp[hw]⟩
 ·obtain rfl:j=w.ends.length:=by omega
  simp -implicitDefEqProofs [AGj]
set_option maxHeartbeats 2000000
def apart (w:World) (j:Nat):Bool:=match w.ends[j]? with
 | some e=>AfS e.path&&(!(KI w j).deal.ok|| !decide ((KI w j).deal.version=AJ w.server e.versions))
 | none=>false
def AtY (w:World):Bool:=FY w.server (Fh w)&&Oj (fun j=> !apart w j) w.ends.length
theorem AJT {w:World} {j:Nat} (h:j<w.ends.length) (ha:apart w j=true):AtY w=false:=by
 unfold AtY
 rw[AhE (q:=fun j=> !apart w j) h (by simp[ha])]
 simp
abbrev AwB:Prop:=∀w:World,Af w<=4194304->R [arg (Bu w)] [] (B (AtY w)) []
theorem AN4 (hD:ZL (D 142)) (hK:AvU (D 220)) (hB:FQ (D 168)) (hL:Q8 (D 95)) (hA:RP (D 211)):AwB (Body D AJH):=by
 intro w hsz
 have he:=FE hsz
 have hws:=Od hsz
 simp -implicitDefEqProofs
 refine Ag (fun k s=>∃j o1 o2 o3 o4,j+k=w.ends.length/\Oj (fun j=> !apart w j) j=true/\s=⟨[.undef,.ptr 0 0,.undef,I j,.undef,.undef,.undef,.undef],[.var ((Bu w).map (AO 1)),o1,o2,o3,o4,.free]⟩) ?_ (w.ends.length) _ ⟨0,.free,.free,.free,.free,by simp,by simp,by simp⟩
 intro k s ⟨j,o1,o2,o3,o4,hj,hp,hs⟩
 subst hs
 by_cases hjn:j<w.ends.length
 ·have hw:=Cv (j:=j) (by omega)
  have hst:=LY (fun j=> !apart w j) j
  have hes:=AdH hsz hjn
  simp -implicitDefEqProofs [hjn]
  refine Aa (hD w j hsz) ?_
  generalize hd:KI w j=d
  have hap:apart w j=(AfS w.ends[j].path&&(!d.deal.ok|| !decide (d.deal.version=AJ w.server w.ends[j].versions))):=by unfold apart;simp[hjn,hd]
  simp -implicitDefEqProofs
  refine Aa (hK w.ends[j].path (AhO hes).2.2) ?_
  by_cases g1:AfS w.ends[j].path=true
  rotate_left
  ·have ha:apart w j=false:=by rw[hap];simp[g1]
   rw[ha]at hst
   simp -implicitDefEqProofs [g1,hjn]
   exact⟨k-1,by omega,j+1,by omega,by rw[hst,hp];rfl,by simp[hw]⟩
  by_cases g2:d.deal.ok=true
  rotate_left
  ·have ha:apart w j=true:=by rw[hap];simp[g1,g2]
   simp -implicitDefEqProofs [g1,g2,hjn,AJT hjn ha]
  simp -implicitDefEqProofs [g1,g2,hjn]
  refine Aa (hB w.server w.ends[j].versions hws.1 (Adq hes)) ?_
  generalize AJ w.server w.ends[j].versions=b at hap
  by_cases g3:d.deal.version=b
  ·have ha:apart w j=false:=by rw[hap];simp[g1,g2,g3]
   rw[ha]at hst
   simp -implicitDefEqProofs [g1,g2,g3,hjn]
   exact⟨k-1,by omega,j+1,by omega,by rw[hst,hp];rfl,by simp[hw]⟩
  ·have ha:apart w j=true:=by rw[hap];simp[g1,g2,g3]
   simp -implicitDefEqProofs [g1,g2,g3,hjn,AJT hjn ha]
 ·obtain rfl:j=w.ends.length:=by omega
  simp -implicitDefEqProofs
  refine Aa (hL w hsz) ?_
  simp -implicitDefEqProofs
  refine Aa (hA w.server (Fh w) hws.1 (Ahj hsz)) ?_
  simp -implicitDefEqProofs [AtY,hp]
theorem AEQ (hD:ZL (D 173)) (hK:AvU (D 246)) (hB:FQ (D 190)) (hL:Q8 (D 123)) (hA:RP (D 234)):AwB (Body D AuG):=by
 intro w hsz
 have he:=FE hsz
 have hws:=Od hsz
 simp -implicitDefEqProofs
 refine Aa (hL w hsz) ?_
 simp -implicitDefEqProofs
 refine Aa (hA w.server (Fh w) hws.1 (Ahj hsz)) ?_
 by_cases g0:FY w.server (Fh w)=true
 rotate_left
 ·simp -implicitDefEqProofs [AtY,g0]
 simp -implicitDefEqProofs [g0]
 refine Ag (fun k s=>∃j o2 o3 o4 o5,j+k=w.ends.length/\Oj (fun j=> !apart w j) j=true/\s=⟨[.undef,.ptr 0 0,.undef,.undef,.undef,.undef,.undef,.sl 1 4 w.ends.length (w.ends.flatMap Ah),I w.ends.length,I j,.undef,.undef],[.var ((Bu w).map (AO 1)),.arr 1 0 (Fh w).length (I8 (Fh w)),o2,o3,o4,o5]⟩) ?_ (w.ends.length) _ ⟨0,.free,.free,.free,.free,by simp,by simp,by simp⟩
 intro k s ⟨j,o2,o3,o4,o5,hj,hp,hs⟩
 subst hs
 by_cases hjn:j<w.ends.length
 ·have hw:=Cv (j:=j) (by omega)
  have hst:=LY (fun j=> !apart w j) j
  have hes:=AdH hsz hjn
  simp -implicitDefEqProofs [hjn]
  refine Aa (hD w j hsz) ?_
  generalize hd:KI w j=d
  have hap:apart w j=(AfS w.ends[j].path&&(!d.deal.ok|| !decide (d.deal.version=AJ w.server w.ends[j].versions))):=by unfold apart;simp[hjn,hd]
  simp -implicitDefEqProofs
  refine Aa (hK w.ends[j].path (AhO hes).2.2) ?_
  by_cases g1:AfS w.ends[j].path=true
  rotate_left
  ·have ha:apart w j=false:=by rw[hap];simp[g1]
   rw[ha]at hst
   simp -implicitDefEqProofs [g1,hjn]
   exact⟨k-1,by omega,j+1,by omega,by rw[hst,hp];rfl,by simp[hw]⟩
  by_cases g2:d.deal.ok=true
  rotate_left
  ·have ha:apart w j=true:=by rw[hap];simp[g1,g2]
   simp -implicitDefEqProofs [g1,g2,hjn,AJT hjn ha]
  simp -implicitDefEqProofs [g1,g2,hjn]
  refine Aa (hB w.server w.ends[j].versions hws.1 (Adq hes)) ?_
  generalize AJ w.server w.ends[j].versions=b at hap
  by_cases g3:d.deal.version=b
  ·have ha:apart w j=false:=by rw[hap];simp[g1,g2,g3]
   rw[ha]at hst
   simp -implicitDefEqProofs [g1,g2,g3,hjn]
   exact⟨k-1,by omega,j+1,by omega,by rw[hst,hp];rfl,by simp[hw]⟩
  ·have ha:apart w j=true:=by rw[hap];simp[g1,g2,g3]
   simp -implicitDefEqProofs [g1,g2,g3,hjn,AJT hjn ha]
 ·obtain rfl:j=w.ends.length:=by omega
  simp -implicitDefEqProofs [AtY,g0,hp]
def Atx (w:World):ByteArray:=
 if Ap w=true then(if AyU w=true then(if AtY w=true then(if w.hurt=cntF (Avc w) w.log then(if w.log.any Ayi=true then⟨#[115,111,98,101,114]⟩else⟨#[]⟩)else⟨#[99,111,117,110,116]⟩)else⟨#[116,111,103,101,116,104,101,114]⟩)else⟨#[98,111,117,110,100]⟩)else⟨#[119,111,114,108,100]⟩
abbrev AA0:Prop:=∀w:World,Af w<=4194304->R [arg (Bu w)] [] (S (Atx w)) []
theorem AOR (hW:U3 (D 141)) (hB:AxJ (D 161)) (hT:AwB (D 162)) (hC:AxG (D 163)) (hS:AAr (D 164)):AA0 (Body D AMc):=by
 intro w hsz
 simp -implicitDefEqProofs
 refine Aa (hW w hsz) ?_
 by_cases g1:Ap w=true
 rotate_left
 ·simp -implicitDefEqProofs [g1,Atx]
 simp -implicitDefEqProofs [g1]
 refine Aa (hB w hsz) ?_
 by_cases g2:AyU w=true
 rotate_left
 ·simp -implicitDefEqProofs [g1,g2,Atx]
 simp -implicitDefEqProofs [g2]
 refine Aa (hT w hsz) ?_
 by_cases g3:AtY w=true
 rotate_left
 ·simp -implicitDefEqProofs [g1,g2,g3,Atx]
 simp -implicitDefEqProofs [g3]
 refine Aa (hC w hsz) ?_
 by_cases g4:w.hurt=cntF (Avc w) w.log
 rotate_left
 ·simp -implicitDefEqProofs [g1,g2,g3,g4,Atx]
 simp -implicitDefEqProofs [<-g4]
 refine Aa (hS w hsz) ?_
 by_cases g5:w.log.any Ayi=true
 ·simp -implicitDefEqProofs [g1,g2,g3,g5,<-g4,Atx]
 ·simp -implicitDefEqProofs [g1,g2,g3,g5,<-g4,Atx]
theorem AH7 (hW:U3 (D 184)) (hB:AxJ (D 200)) (hT:AwB (D 201)) (hC:AxG (D 202)) (hS:AAr (D 203)):AA0 (Body D AwL):=by
 intro w hsz
 simp -implicitDefEqProofs
 refine Aa (hW w hsz) ?_
 by_cases g1:Ap w=true
 rotate_left
 ·simp -implicitDefEqProofs [g1,Atx]
 simp -implicitDefEqProofs [g1]
 refine Aa (hB w hsz) ?_
 by_cases g2:AyU w=true
 rotate_left
 ·simp -implicitDefEqProofs [g1,g2,Atx]
 simp -implicitDefEqProofs [g2]
 refine Aa (hT w hsz) ?_
 by_cases g3:AtY w=true
 rotate_left
 ·simp -implicitDefEqProofs [g1,g2,g3,Atx]
 simp -implicitDefEqProofs [g3]
 refine Aa (hC w hsz) ?_
 by_cases g4:w.hurt=cntF (Avc w) w.log
 rotate_left
 ·simp -implicitDefEqProofs [g1,g2,g3,g4,Atx]
 simp -implicitDefEqProofs [<-g4]
 refine Aa (hS w hsz) ?_
 by_cases g5:w.log.any Ayi=true
 ·simp -implicitDefEqProofs [g1,g2,g3,g5,<-g4,Atx]
 ·simp -implicitDefEqProofs [g1,g2,g3,g5,<-g4,Atx]
end Go.Eng.T
