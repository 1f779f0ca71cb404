/- Own work: part 21 of the proof of FnExactRunConsole. -/
import Derived.Test.YtogmkdgkgfhhoaaGreatDoorDP12
import Derived.Test.YtogmkdgkgfhhoaaGreatDoorDP14
import Derived.Test.YtogmkdgkgfhhoaaGreatDoorDP15
import Derived.Test.YtogmkdgkgfhhoaaGreatDoorDP17
import Derived.Test.YtogmkdgkgfhhoaaGreatDoorDP19
import Derived.Test.YtogmkdgkgfhhoaaGreatDoorDP20
import Derived.Lib.AtoiAll
import Derived.Lib.Slices
import Derived.Lib.RowBridge
set_option linter.unusedSimpArgs false
set_option linter.unusedVariables false
namespace Go.Eng.T
open Go.Lib
set_option maxRecDepth 20000
set_option maxHeartbeats 8000000
def As7 (t:List UInt8):List (List UInt8):=if(Go.Eng.As9 10 t []).getLast? =some []then(Go.Eng.As9 10 t []).dropLast else Go.Eng.As9 10 t []
def AII (p:World×List (List UInt8)) (l:List UInt8):World×List (List UInt8):=((AsN p.1 l).1,p.2++ [(AsN p.1 l).2])
def ApE (ls:List (List UInt8)):World×List (List UInt8):=ls.foldl AII (Wl,[])
theorem AyS {ls:List (List UInt8)} {j:Nat} (h:j<ls.length):ApE (ls.take (j+1))=AII (ApE (ls.take j)) ls[j]:=by
 unfold ApE
 rw[<-List.take_append_getElem h,List.foldl_append];rfl
theorem Awi {ls:List (List UInt8)}:∀j,j<=ls.length->(ApE (ls.take j)).2.length=j
 | 0,_=>rfl
 | j+1,h=>by
  rw[AyS (by omega)]
  show((ApE (ls.take j)).2++ [_]).length=_
  rw[List.length_append,Awi j (by omega)];rfl
theorem AFq {ls:List (List UInt8)}:∀j,j<=ls.length->CI (ApE (ls.take j)).1 j
 | 0,_=>AIK
 | j+1,h=>by
  rw[AyS (by omega)]
  exact AIE (AFq j (by omega)) _
def AhK (t:List UInt8):List (List UInt8)×Bool:=if(As7 t).length>60 then([],false)else((ApE (As7 t)).2,true)
theorem AFl (t:List UInt8):(AhK t).1.length<=60:=by
 unfold AhK
 split
 ·simp
 ·have:=Awi (ls:=As7 t) (As7 t).length (Nat.le_refl _)
  rw[List.take_length]at this
  show(ApE (As7 t)).2.length<=60
  omega
abbrev AC4 (R:Rel):Prop:=∀t:List UInt8,t.length<=4194000->R [Sb t] [] (.tup [.sl 0 1 (AhK t).1.length (strs (AhK t).1),B (AhK t).2]) []
theorem AyZ (c:UInt8):∀(l w:List UInt8) (x:List UInt8),x∈Go.Eng.As9 c l w->x.length<=w.length+l.length
 | [],w,x,h=>by
  simp only[Go.Eng.As9,List.mem_singleton]at h
  subst h;simp
 | b::r,w,x,h=>by
  rw[Go.Eng.As9]at h
  split at h
  ·rcases List.mem_cons.1 h with rfl | h
   ·simp
   ·have:=AyZ c r [] x h
    simp at this⊢;omega
  ·have:=AyZ c r (w++ [b]) x h
   simp at this⊢;omega
theorem AJC {t:List UInt8} {x:List UInt8} (h:x∈As7 t):x.length<=t.length:=by
 unfold As7 at h
 split at h
 ·have:=AyZ 10 t [] x (List.dropLast_subset _ h);simpa using this
 ·have:=AyZ 10 t [] x h;simpa using this
theorem APR {l:List UInt8} {j:Nat} (h:j<l.length) (c:UInt8) (w:List UInt8):Go.Eng.As9 c (l.drop j) w=if l[j]=c then w::Go.Eng.As9 c (l.drop (j+1)) []else Go.Eng.As9 c (l.drop (j+1)) (w++ [l[j]]):=by
 rw[List.drop_eq_getElem_cons h,Go.Eng.As9]
theorem APn {t:List UInt8} {a j:Nat} (ha:a<=j) (h:j<t.length):(t.take (j+1)).drop a=(t.take j).drop a++ [t[j]]:=by
 rw[<-List.take_append_getElem h,List.drop_append_of_le_length (by simp;omega)]
theorem APt {t:List UInt8} {out:List (List UInt8)} {w:List UInt8} (h:out++ [w]=Go.Eng.As9 10 t []):As7 t=if w=[]then out else out++ [w]:=by
 unfold As7
 rw[<-h]
 simp only[List.getLast?_concat,Option.some.injEq,List.dropLast_concat]
theorem AOg (D:Dn) (hC:AGB (D 9)):AC4 (Body D AKp):=by
 intro t ht
 simp -implicitDefEqProofs
 refine F5 _ (Q:=fun o s'=>o= .exit 0/\∃v4 v5 o1 o2,s' =⟨[Sb t,.undef,.undef,.arr 15,v4,v5,.undef,.undef,.undef,.undef,.undef,.undef,.undef,.undef,.undef,.undef],[.free,o1,o2,.free,.free,.free,.free,.free,.free,.free,.free,.free,.free,.free,.free,.arr 1 0 (As7 t).length (strs (As7 t)),.free,.free,.free,.free,.free,.free,.free]⟩) ?_ ?_
 ·intro o s ⟨ho,v4,v5,o1,o2,hs⟩
  subst ho hs
  have hll:∀x,x∈As7 t->x.length<=4194000:=fun x hx=>Nat.le_trans (AJC hx) ht
  by_cases h60:(As7 t).length>60
  ·have h60':60<((As7 t).length:Int):=by omega
   simp -implicitDefEqProofs [AhK,h60,h60']
  ·have h60':¬60<((As7 t).length:Int):=by omega
   have er:AhK t=((ApE (As7 t)).2,true):=by unfold AhK;rw[if_neg h60]
   rw[er]
   clear er
   generalize As7 t=ls at hll h60 h60'
   simp -implicitDefEqProofs [h60']
   refine Ag (fun k s=>∃j o1 o2 o12 o13,j+k=ls.length/\s=⟨[.undef,.undef,.undef,.arr 15,.undef,.undef,.ptr 4 0,.arr 16,I j,.undef,.undef,.undef,.undef,.undef,.undef,.undef],[.free,o1,o2,.free,.var [.arr 17,.arr 18,I (ApE (ls.take j)).1.key,.arr 19,I (ApE (ls.take j)).1.rollout.version,.arr 20,I (ApE (ls.take j)).1.rollout.pos,B (ApE (ls.take j)).1.rollout.off,I (ApE (ls.take j)).1.least,I (ApE (ls.take j)).1.percent,.arr 21,.arr 22,I (ApE (ls.take j)).1.now,I (ApE (ls.take j)).1.hurt,I (ApE (ls.take j)).1.reached],.free,.free,.free,.free,.free,.free,.free,o12,o13,.free,.arr 1 0 ls.length (strs ls),.arr 1 0 j (strs (ApE (ls.take j)).2),.arr 1 0 (ApE (ls.take j)).1.server.length (ints (ApE (ls.take j)).1.server),.arr 1 0 (ApE (ls.take j)).1.tags.length (ints (ApE (ls.take j)).1.tags),.arr 4 0 (ApE (ls.take j)).1.ends.length ((ApE (ls.take j)).1.ends.flatMap Ah),.arr 1 0 (ApE (ls.take j)).1.rollout.stages.length (ints (ApE (ls.take j)).1.rollout.stages),.arr 5 0 (ApE (ls.take j)).1.stage.length ((ApE (ls.take j)).1.stage.flatMap AB),.arr 8 0 (ApE (ls.take j)).1.log.length ((ApE (ls.take j)).1.log.flatMap Az)]⟩) ?_ (ls.length) _ ⟨0,_,_,.free,.free,by simp,rfl⟩
   intro k s ⟨j,o1,o2,o12,o13,hj,hs⟩
   subst hs
   by_cases hjn:j<ls.length
   ·have hw:=Cv (j:=j) (by omega)
    have hst:=AyS hjn
    have hci:=AFq (ls:=ls) j (by omega)
    have hcl:=Awi (ls:=ls) j (by omega)
    obtain⟨hok,hsz⟩:=AF6 hci (by omega)
    have b1:(j+1)*16<=1099511627776:=by omega
    generalize ApE (ls.take j)=p at hst hci hcl hok hsz
    obtain⟨w,as⟩:=p
    dsimp only at hcl hok hsz
    simp -implicitDefEqProofs [hjn]
    refine Aa (hC w ls[j] hok hsz (hll _ (List.getElem_mem hjn))) ?_
    unfold AII at hst
    dsimp only at hst
    generalize AsN w ls[j]=q at hst
    obtain⟨w',a⟩:=q
    dsimp only at hst
    simp -implicitDefEqProofs [hcl,b1]
    exact⟨k-1,by omega,j+1,by omega,by simp[hw],by simp[hst]⟩
   ·obtain rfl:j=ls.length:=by omega
    have hcl:=Awi (ls:=ls) ls.length (Nat.le_refl _)
    rw[List.take_length]at hcl
    simp -implicitDefEqProofs [hcl]
 ·refine Ag (fun k s=>∃j a out o1 o2,j+k=(t.length+1)/\(j<=t.length->a<=j/\out++Go.Eng.As9 10 (t.drop j) ((t.take j).drop a)=Go.Eng.As9 10 t [])/\(j=t.length+1->out=As7 t)/\out.length<=j/\s=⟨[Sb t,.undef,.undef,.arr 15,I ((a:Nat):Int),I j,.undef,.undef,.undef,.undef,.undef,.undef,.undef,.undef,.undef,.undef],[.free,o1,o2,.free,.free,.free,.free,.free,.free,.free,.free,.free,.free,.free,.free,.arr 1 0 out.length (strs out),.free,.free,.free,.free,.free,.free,.free]⟩) ?_ ((t.length+1)) _ ⟨0,0,([]),.free,.free,by simp,fun _=>by simp,fun h=>absurd h (by omega),by simp,by simp⟩
  intro k s ⟨j,a,out,o1,o2,hj,hq,hr,hol,hs⟩
  subst hs
  by_cases hjn:j<=t.length
  rotate_left
  ·obtain rfl:j=t.length+1:=by omega
   have e:=hr rfl
   have c1:¬((t.length:Int)+1<=t.length):=by omega
   simp -implicitDefEqProofs [e,c1]
  have hw:=Cv (j:=j) (by omega)
  obtain⟨haj,hq⟩:=hq hjn
  have b1:(out.length+1)*16<=1099511627776:=by omega
  by_cases hlt:j<t.length
  ·have hne:¬((j:Int)=t.length):=by omega
   have hne':¬j=t.length:=by omega
   have hat:=APR hlt 10 ((t.take j).drop a)
   rw[hat]at hq
   by_cases hc:t[j]=10
   ·rw[if_pos hc]at hq
    have hcut:=AOC t a j
    have c2:(a:Int)<=j:=by omega
    have c3:(j:Int)<=t.length:=by omega
    simp -implicitDefEqProofs [hlt,hne,hne',hc,hjn,haj,c2,c3,hcut,b1,hw]
    have hq':(out++ [(t.take j).drop a])++Go.Eng.As9 10 (t.drop (j+1)) []=Go.Eng.As9 10 t []:=by simpa using hq
    exact⟨k-1,by omega,j+1,by omega,j+1,out++ [(t.take j).drop a],fun _=>⟨Nat.le_refl _,by rw[show(t.take (j+1)).drop (j+1)=[]from List.drop_of_length_le (by simp;omega)];exact hq'⟩,fun h=>absurd h (by omega),by simp;omega,by simp⟩
   ·rw[if_neg hc,<-APn haj hlt]at hq
    have hc':¬((t[j].toNat:Int)=10):=fun h=>hc (by apply UInt8.toNat_inj.1;simpa using Int.ofNat.inj h)
    simp -implicitDefEqProofs [hlt,hne,hne',hc',hjn,hw]
    exact⟨k-1,by omega,j+1,by omega,a,out,fun _=>⟨by omega,hq⟩,fun h=>absurd h (by omega),by omega,by simp⟩
  ·obtain rfl:j=t.length:=by omega
   rw[List.drop_of_length_le (Nat.le_refl _),List.take_length]at hq
   have hlo:=APt (w:=t.drop a) (out:=out) (by rw[<-hq];simp[Go.Eng.As9])
   by_cases ha:a=t.length
   ·subst ha
    rw[if_pos (by simp)]at hlo
    simp -implicitDefEqProofs [hlo]
   ·have ha':¬((a:Int)=t.length):=by omega
    have hcut:=AOC t a t.length
    rw[List.take_length]at hcut
    have c2:(a:Int)<=t.length:=by omega
    rw[if_neg (by intro h;have:=congrArg List.length h;simp at this;omega)]at hlo
    simp -implicitDefEqProofs [ha,ha',haj,c2,hcut,b1,hw]
    exact⟨k-1,by omega,t.length+1,by omega,t.length+1,out++ [t.drop a],fun h=>absurd h (by omega),fun _=>hlo.symm,by simp;omega,by simp⟩
end Go.Eng.T
namespace Go.Eng.T
open Go.Lib
end Go.Eng.T
namespace Go.Eng.T
set_option maxRecDepth 20000
set_option maxHeartbeats 2000000
abbrev AHe (R:Rel):Prop:=∀(aText:ByteArray),R [S aText] [] (B true) []
theorem AMF (D:Dn) (hs:AC4 (D 1)) (hi:AC4 (D 2)) (heqStringS:AMn (D 3)) (hmarkStringS:ALV (D 4)) (hheldStringS:ALU (D 5)):AHe (Body D AEg):=by
 intro aText
 obtain⟨l,rfl⟩:∃l,aText=Ww l:=⟨bl aText,(ALc _).symm⟩
 by_cases g1:(1048576:Int)<((l.length:Nat):Int)
 ·simp -implicitDefEqProofs [g1]
 simp -implicitDefEqProofs [g1]
 have hs':=hs l (by omega)
 have hi':=hi l (by omega)
 obtain⟨b0,c0⟩:((AhK l).1).length<=4194304/\((AhK l).1).length<=4194304:=(by have a1:=AFl l;exact⟨by omega,by omega⟩)
 generalize(AhK l).1=r0 at hs' hi' b0 c0
 refine Aa (hs') ?_
 simp -implicitDefEqProofs [g1]
 refine Aa (hi') ?_
 simp -implicitDefEqProofs [g1]
 refine Aa (heqStringS r0 r0 (by omega) (by omega)) ?_
 simp -implicitDefEqProofs [g1]
 refine Aa (hmarkStringS r0 (1) (by omega) (by omega)) ?_
 simp -implicitDefEqProofs [g1]
 have pq0:¬1+((r0.length:Nat):Int)<0:=by omega
 refine Aa (hheldStringS r0.length (1) (by omega) (by omega)) ?_
 simp -implicitDefEqProofs [g1,pq0]
 refine Aa (hi') ?_
 simp -implicitDefEqProofs [g1,pq0]
 refine Aa (heqStringS r0 r0 (by omega) (by omega)) ?_
 simp -implicitDefEqProofs [g1,pq0]
 refine Aa (hheldStringS r0.length (1) (by omega) (by omega)) ?_
 simp -implicitDefEqProofs [g1,pq0]
open Go.Lib
theorem AIP:∀(l:List UInt8) (a:Nat),a<=l.foldl (fun a c=>10*a+(c.toNat-48)) a
 | [],a=>Nat.le_refl a
 | c::r,a=>by
  have:=AIP r (10*a+(c.toNat-48))
  simp only[List.foldl_cons]
  omega
theorem ADw:∀(l:List UInt8) (a:Nat),l.all AIy=true->l.foldl (fun a c=>10*a+(c.toNat-48)) a<=1000000000000->parseUint10 a l= .ok (l.foldl (fun a c=>10*a+(c.toNat-48)) a)
 | [],a,_,_=>rfl
 | c::r,a,h,hb=>by
  simp only[List.all_cons,Bool.and_eq_true,AIy,decide_eq_true_eq]at h
  simp only[List.foldl_cons]at hb⊢
  have h1:=AIP r (10*a+(c.toNat-48))
  have ih:=ADw r (10*a+(c.toNat-48)) h.2 hb
  unfold parseUint10
  rw[if_pos (by omega),if_neg (by omega),if_neg (by omega),Nat.mul_comm a 10]
  exact ih
theorem AHt {l:List UInt8} (h:AsY l=true):atoiAll l= .ok (AEb l:Int):=by
 simp only[AsY,Bool.and_eq_true,decide_eq_true_eq]at h
 obtain⟨⟨⟨h1,h2⟩,h3⟩,_⟩:=h
 have hp:=ADw l 0 h2 h3
 cases l with
 | nil=>simp at h1
 | cons c r=>
  have hc:=h2
  simp only[List.all_cons,Bool.and_eq_true,AIy,decide_eq_true_eq]at hc
  have hne:¬(c.toNat=43∨c.toNat=45):=by omega
  have hn:¬c.toNat=45:=by omega
  have hd:AEb (c::r)<=1000000000000:=h3
  have hm:parseMag (c::r)= .ok (AEb (c::r)):=by
   unfold parseMag
   rw[if_neg (by simp)]
   exact hp
  unfold atoiAll
  simp only[if_neg hne,hm,if_neg hn]
  rw[if_neg (by omega),if_neg (by omega)]
theorem ADM:∀(k n:Nat),n<10 ^ (k+1)->(decDigits n).all AIy=true/\AEb (decDigits n)=n/\1<=(decDigits n).length/\(decDigits n).length<=k+1
 | k,n,hn=>by
  have hone:∀d:Nat,d<10->AIy (UInt8.ofNat (48+d))=true/\(UInt8.ofNat (48+d)).toNat-48=d:=by
   intro d hd
   have:(UInt8.ofNat (48+d)).toNat=48+d:=by
    rw[UInt8.toNat_ofNat']
    exact Nat.mod_eq_of_lt (by omega)
   refine⟨?_,by omega⟩
   unfold AIy
   rw[this]
   simp;omega
  by_cases h:n<10
  ·rw[decDigits_one h]
   have:=hone n h
   refine⟨by rw[List.all_cons,this.1];rfl,?_,by simp,by simp⟩
   show 10*0+_=n
   omega
  ·cases k with
   | zero=>simp at hn;omega
   | succ k=>
    have ih:=ADM k (n / 10) (by rw[Nat.pow_succ]at hn;omega)
    have hd:=hone (n % 10) (Nat.mod_lt _ (by omega))
    rw[decDigits,dif_neg h]
    refine⟨?_,?_,by simp,by simp;omega⟩
    ·rw[List.all_append,ih.1,List.all_cons,hd.1];rfl
    ·have e:=ih.2.1
     unfold AEb at e⊢
     rw[List.foldl_append,e]
     show 10*(n / 10)+_=n
     rw[hd.2];omega
theorem ALg {l:List UInt8} {v:Int} (h0:0<=v) (h1:v<=1000000000000) (h:itoa v=l):AsY l=true/\(AEb l:Int)=v:=by
 obtain⟨n,rfl⟩:∃n:Nat,v=n:=⟨v.toNat,by omega⟩
 have e:itoa (n:Int)=decDigits n:=by unfold itoa;rw[if_neg (by omega)];rfl
 have hd:=ADM 12 n (by omega)
 rw[e]at h
 subst h
 refine⟨?_,by rw[hd.2.1]⟩
 simp only[AsY,Bool.and_eq_true,decide_eq_true_eq]
 refine⟨⟨⟨by omega,hd.1⟩,by rw[hd.2.1];omega⟩,?_⟩
 rw[hd.2.1,e]
theorem AKE {l:List UInt8} {v:Int} (h:atoiAll l= .ok v):(if 0<=v/\v<=1000000000000/\itoa v=l then(v,true)else((0:Int),false))=(Ave l,AsY l):=by
 by_cases hn:AsY l=true
 ·have h2:=AHt hn
  rw[h]at h2
  cases h2
  have h3:=AIV l
  have h4:Ave l=AEb l:=by unfold Ave;rw[if_pos hn]
  have h5:itoa (AEb l)=l:=by
   simp only[AsY,Bool.and_eq_true,decide_eq_true_eq]at hn
   exact hn.2
  rw[h4]at h3
  rw[if_pos ⟨h3.2.1,h3.2.2,h5⟩,h4,hn]
 ·have hp:Ave l=0:=by unfold Ave;rw[if_neg hn]
  rw[if_neg,hp,show AsY l=false by simpa using hn]
  rintro ⟨a,b,c⟩
  exact hn (ALg a b c).1
theorem AKs {l:List UInt8} (h:∀v,atoiAll l≠ .ok v):Ave l=0/\AsY l=false:=by
 by_cases hn:AsY l=true
 ·exact absurd (AHt hn) (h _)
 ·exact⟨by unfold Ave;rw[if_neg hn],by simpa using hn⟩
end Go.Eng.T
namespace Go.Eng.T
open Go.Lib
set_option maxRecDepth 20000
set_option maxHeartbeats 8000000
theorem AKR {ps:List (List UInt8)} (h:ps≠ []):(strs ps)[ps.length-1]? =some (Sb (ps.getLast h)):=by
 have hl:0<ps.length:=List.length_pos_iff.2 h
 rw[ADW,List.getElem?_eq_getElem (by omega),List.getLast_eq_getElem];rfl
theorem AET (D:Dn) (hSp:Go.Eng.AF3 (D 14)) (hC:AGB (D 10)):AC4 (Body D AuO):=by
 intro t ht
 have hcut:=Go.Eng.ADN t 10
 have hne:=(Go.Eng.AxE 10 t []).2
 have hpl:=(Go.Eng.AxE 10 t []).1
 rw[<-hcut]at hne hpl
 have hlo:As7 t=if(Go.Eng.pieces t 10).getLast? =some []then(Go.Eng.pieces t 10).dropLast else Go.Eng.pieces t 10:=by rw[hcut];rfl
 have hll:∀x,x∈As7 t->x.length<=4194000:=fun x hx=>Nat.le_trans (AJC hx) ht
 simp -implicitDefEqProofs
 refine Aa (show _ from hSp t 10 (by omega)) ?_
 generalize Go.Eng.pieces t 10=ps at hne hpl hlo
 have hl1:0<ps.length:=List.length_pos_iff.2 hne
 have hla:=AKR hne
 have hlast? :ps.getLast? =some (ps.getLast hne):=List.getLast?_eq_some_getLast hne
 have hw1:IntKind.i64.wrap ((ps.length:Int)-1)=((ps.length-1:Nat):Int):=by rw[Ad (by omega) (by omega)];omega
 have hlt:ps.length-1<ps.length:=by omega
 generalize ps.getLast hne=la at hla hlast?
 obtain⟨ls,hls⟩:∃ls,ls=As7 t:=⟨_,rfl⟩
 rw[<-hls]at hlo hll
 by_cases hle:la=[]
 ·subst hle
  rw[if_pos hlast?]at hlo
  have hlen:ps.length-1=ls.length:=by rw[hlo,List.length_dropLast]
  have hget:∀(j:Nat) (h:j<ls.length),(strs ps)[j]? =some (Sb ls[j]):=by
   intro j h
   have e:ls[j]? =ps[j]? :=by rw[hlo,List.getElem?_dropLast,if_pos (by omega)]
   rw[ADW,<-e,List.getElem?_eq_getElem h];rfl
  have hlp:∀j,j<ls.length->j<ps.length:=fun j h=>by omega
  have hgp:∀(j:Nat) (h:j<ls.length),ps[j]'(hlp j h)=ls[j]:=by
   intro j h
   have e:ls[j]? =ps[j]? :=by rw[hlo,List.getElem?_dropLast,if_pos (by omega)]
   rw[List.getElem?_eq_getElem h,List.getElem?_eq_getElem (hlp j h)]at e
   exact(Option.some.inj e).symm
  clear hlo
  rw[hlen]at hw1 hla hlt
  have hla2:ps[ls.length]'hlt=[]:=by
   rw[List.getLast?_eq_getElem?,hlen,List.getElem?_eq_getElem hlt]at hlast?
   exact Option.some.inj hlast?
  have hle3:ls.length<=ps.length:=by omega
  by_cases h60:ls.length>60
  ·have h60':60<(ls.length:Int):=by omega
   have er:AhK t=([],false):=by unfold AhK;rw[<-hls,if_pos h60]
   simp -implicitDefEqProofs [hw1,hlt,hla,hla2,hle3,h60,h60',er]
  ·have h60':¬60<(ls.length:Int):=by omega
   have er:AhK t=((ApE ls).2,true):=by unfold AhK;rw[<-hls,if_neg h60]
   rw[er]
   clear er hls
   simp -implicitDefEqProofs [hw1,hlt,hla,hla2,hle3,h60']
   refine Ag (fun k s=>∃j o9 o10,j+k=ls.length/\s=⟨[.undef,.undef,.undef,.undef,.undef,.ptr 2 0,.arr 12,.undef,.undef,.undef,.undef,.undef,.sub 0 0 ls.length,I ls.length,I j,.undef],[.arr 1 0 ps.length (strs ps),.free,.var [.arr 13,.arr 14,I (ApE (ls.take j)).1.key,.arr 15,I (ApE (ls.take j)).1.rollout.version,.arr 16,I (ApE (ls.take j)).1.rollout.pos,B (ApE (ls.take j)).1.rollout.off,I (ApE (ls.take j)).1.least,I (ApE (ls.take j)).1.percent,.arr 17,.arr 18,I (ApE (ls.take j)).1.now,I (ApE (ls.take j)).1.hurt,I (ApE (ls.take j)).1.reached],.free,.free,.free,.free,.free,.free,o9,o10,.free,.arr 1 0 j (strs (ApE (ls.take j)).2),.arr 1 0 (ApE (ls.take j)).1.server.length (ints (ApE (ls.take j)).1.server),.arr 1 0 (ApE (ls.take j)).1.tags.length (ints (ApE (ls.take j)).1.tags),.arr 4 0 (ApE (ls.take j)).1.ends.length ((ApE (ls.take j)).1.ends.flatMap Ah),.arr 1 0 (ApE (ls.take j)).1.rollout.stages.length (ints (ApE (ls.take j)).1.rollout.stages),.arr 5 0 (ApE (ls.take j)).1.stage.length ((ApE (ls.take j)).1.stage.flatMap AB),.arr 8 0 (ApE (ls.take j)).1.log.length ((ApE (ls.take j)).1.log.flatMap Az)]⟩) ?_ (ls.length) _ ⟨0,.free,.free,by simp,rfl⟩
   intro k s ⟨j,o9,o10,hj,hs⟩
   subst hs
   by_cases hjn:j<ls.length
   ·have hw:=Cv (j:=j) (by omega)
    have hst:=AyS hjn
    have hci:=AFq (ls:=ls) j (by omega)
    have hcl:=Awi (ls:=ls) j (by omega)
    obtain⟨hok,hsz⟩:=AF6 hci (by omega)
    have b1:(j+1)*16<=1099511627776:=by omega
    have hgj:=hget j hjn
    have hpj:=hgp j hjn
    have hjp:=hlp j hjn
    have hjn':(j:Int)<ls.length:=by omega
    generalize ApE (ls.take j)=p at hst hci hcl hok hsz
    obtain⟨w,as⟩:=p
    dsimp only at hcl hok hsz
    simp -implicitDefEqProofs [hjn',hjn,hgj,hjp,hpj]
    refine Aa (hC w ls[j] hok hsz (hll _ (List.getElem_mem hjn))) ?_
    unfold AII at hst
    dsimp only at hst
    generalize AsN w ls[j]=q at hst
    obtain⟨w',a⟩:=q
    dsimp only at hst
    simp -implicitDefEqProofs [hcl,b1]
    exact⟨k-1,by omega,j+1,by omega,by simp[hw],by simp[hst]⟩
   ·obtain rfl:j=ls.length:=by omega
    have hcl:=Awi (ls:=ls) ls.length (Nat.le_refl _)
    rw[List.take_length]at hcl
    simp -implicitDefEqProofs [hcl]
 ·rw[if_neg (by rw[hlast?];simpa using hle)]at hlo
  subst hlo
  have hlen:ls.length=ls.length:=rfl
  have hget:∀(j:Nat) (h:j<ls.length),(strs ls)[j]? =some (Sb ls[j]):=by
   intro j h
   rw[ADW,List.getElem?_eq_getElem h];rfl
  have hlp:∀j,j<ls.length->j<ls.length:=fun j h=>h
  have hla2:¬ls[ls.length-1]'hlt=[]:=by
   rw[List.getLast?_eq_getElem?,List.getElem?_eq_getElem hlt]at hlast?
   rw[Option.some.inj hlast?];exact hle
  by_cases h60:ls.length>60
  ·have h60':60<(ls.length:Int):=by omega
   have er:AhK t=([],false):=by unfold AhK;rw[<-hls,if_pos h60]
   simp -implicitDefEqProofs [hw1,hlt,hla,hle,hla2,h60,h60',er]
  ·have h60':¬60<(ls.length:Int):=by omega
   have er:AhK t=((ApE ls).2,true):=by unfold AhK;rw[<-hls,if_neg h60]
   rw[er]
   clear er hls
   simp -implicitDefEqProofs [hw1,hlt,hla,hle,hla2,h60']
   refine Ag (fun k s=>∃j o9 o10,j+k=ls.length/\s=⟨[.undef,.undef,.undef,.undef,I (ls.length-1:Nat),.ptr 2 0,.arr 12,.undef,.undef,.undef,.undef,.undef,.arr 0,I ls.length,I j,.undef],[.arr 1 0 ls.length (strs ls),.free,.var [.arr 13,.arr 14,I (ApE (ls.take j)).1.key,.arr 15,I (ApE (ls.take j)).1.rollout.version,.arr 16,I (ApE (ls.take j)).1.rollout.pos,B (ApE (ls.take j)).1.rollout.off,I (ApE (ls.take j)).1.least,I (ApE (ls.take j)).1.percent,.arr 17,.arr 18,I (ApE (ls.take j)).1.now,I (ApE (ls.take j)).1.hurt,I (ApE (ls.take j)).1.reached],.free,.free,.free,.free,.free,.free,o9,o10,.free,.arr 1 0 j (strs (ApE (ls.take j)).2),.arr 1 0 (ApE (ls.take j)).1.server.length (ints (ApE (ls.take j)).1.server),.arr 1 0 (ApE (ls.take j)).1.tags.length (ints (ApE (ls.take j)).1.tags),.arr 4 0 (ApE (ls.take j)).1.ends.length ((ApE (ls.take j)).1.ends.flatMap Ah),.arr 1 0 (ApE (ls.take j)).1.rollout.stages.length (ints (ApE (ls.take j)).1.rollout.stages),.arr 5 0 (ApE (ls.take j)).1.stage.length ((ApE (ls.take j)).1.stage.flatMap AB),.arr 8 0 (ApE (ls.take j)).1.log.length ((ApE (ls.take j)).1.log.flatMap Az)]⟩) ?_ (ls.length) _ ⟨0,.free,.free,by simp,rfl⟩
   intro k s ⟨j,o9,o10,hj,hs⟩
   subst hs
   by_cases hjn:j<ls.length
   ·have hw:=Cv (j:=j) (by omega)
    have hst:=AyS hjn
    have hci:=AFq (ls:=ls) j (by omega)
    have hcl:=Awi (ls:=ls) j (by omega)
    obtain⟨hok,hsz⟩:=AF6 hci (by omega)
    have b1:(j+1)*16<=1099511627776:=by omega
    have hgj:=hget j hjn
    have hjp:=hlp j hjn
    have hjn':(j:Int)<ls.length:=by omega
    generalize ApE (ls.take j)=p at hst hci hcl hok hsz
    obtain⟨w,as⟩:=p
    dsimp only at hcl hok hsz
    simp -implicitDefEqProofs [hjn',hjn,hgj,hjp]
    refine Aa (hC w ls[j] hok hsz (hll _ (List.getElem_mem hjn))) ?_
    unfold AII at hst
    dsimp only at hst
    generalize AsN w ls[j]=q at hst
    obtain⟨w',a⟩:=q
    dsimp only at hst
    simp -implicitDefEqProofs [hcl,b1]
    exact⟨k-1,by omega,j+1,by omega,by simp[hw],by simp[hst]⟩
   ·obtain rfl:j=ls.length:=by omega
    have hcl:=Awi (ls:=ls) ls.length (Nat.le_refl _)
    rw[List.take_length]at hcl
    simp -implicitDefEqProofs [hcl]
end Go.Eng.T
namespace Go.Eng.T
set_option maxRecDepth 20000
set_option maxHeartbeats 2000000
variable (R:Rel)
abbrev AJZ:Prop:=∀n:Nat,n<=16777216->R [.sc (.slice none 0 0),I n] [] (.sl 0 1 0 []) []
def Axk (ls:List (List Int)):List Int:=ls.flatten
abbrev ABa:Prop:=∀ls:List (List Int),GR ls<=8388608->R [KZ ls] [] (.sl 0 1 (Axk ls).length (ints (Axk ls))) []
theorem AE9 {ls:List (List Int)} {j:Nat} (h:j<ls.length):Axk (ls.take (j+1))=Axk (ls.take j)++ls[j]:=by
 have e:ls.take (j+1)=ls.take j++ [ls[j]]:=by simp
 unfold Axk
 rw[e,List.flatten_append];simp
theorem AGk (ls:List (List Int)) (j:Nat):(Axk (ls.take j)).length<=GR ls:=by
 unfold Axk
 have h1:(ls.take j).flatten.length<=ls.flatten.length:=by
  conv=>rhs;rw[<-List.take_append_drop j ls,List.flatten_append,List.length_append]
  omega
 have h2:ls.flatten.length<=GR ls:=by
  unfold GR Cr
  rw[List.length_flatten]
  omega
 omega
variable (D:Dn)
theorem AJR (hG:AJZ (D 419)):ABa (Body D AsF):=by
 intro ls hl
 have hll:=Ms (xs:=ls)
 simp -implicitDefEqProofs
 refine Ag (fun k s=>∃j,j+k=ls.length/\s=⟨[KZ ls,.undef,I ((Axk (ls.take j)).length:Nat),.undef,.undef,.undef,KZ ls,I ls.length,I j,.undef,.undef,.undef,.undef,.undef,.undef],[.free,.free,.free]⟩) ?_ (ls.length) _ ⟨0,by simp,by simp[Axk]⟩
 intro k s ⟨j,hj,hs⟩
 subst hs
 by_cases hjn:j<ls.length
 ·have hw:=Cv (j:=j) (by omega)
  have hst:=congrArg List.length (AE9 hjn)
  rw[List.length_append]at hst
  have hle:=AGk ls (j+1)
  obtain⟨n2,hn2⟩:∃n2,n2=(Axk (ls.take (j+1))).length:=⟨_,rfl⟩
  obtain⟨n1,hn1⟩:∃n1,n1=(Axk (ls.take j)).length:=⟨_,rfl⟩
  rw[<-hn2]at hst hle
  rw[<-hn1]at hst⊢
  have hw2:IntKind.i64.wrap ((n1:Int)+(ls[j].length:Nat))=(n2:Int):=by rw[hst,Ad (by omega) (by omega)];omega
  have hneg:¬(n2:Int)<0:=by omega
  simp -implicitDefEqProofs [hjn,hw2,hneg]
  exact⟨k-1,by omega,j+1,by omega,by simp[hw,hn2]⟩
 ·have e:ls.take j=ls:=List.take_of_length_le (by omega)
  have hle:=AGk ls j
  simp -implicitDefEqProofs [hjn,e]
  rw[e]at hle
  refine Aa (hG (Axk ls).length (by omega)) ?_
  simp -implicitDefEqProofs
  refine Ag (fun k s=>∃j o1,j+k=ls.length/\s=⟨[.undef,.undef,.undef,.undef,.arr 2,.undef,.undef,.undef,.undef,.undef,.undef,KZ ls,I ls.length,I j,.undef],[.free,o1,.arr 1 0 (Axk (ls.take j)).length (ints (Axk (ls.take j)))]⟩) ?_ (ls.length) _ ⟨0,.free,by simp,by simp[Axk]⟩
  intro k s ⟨j,o1,hj,hs⟩
  subst hs
  clear hjn e
  by_cases hjn:j<ls.length
  ·have hw:=Cv (j:=j) (by omega)
   have hst:=AE9 hjn
   have hle2:=AGk ls (j+1)
   have hsl:=congrArg List.length hst
   rw[List.length_append]at hsl
   generalize(Axk (ls.take j))=r1 at *
   have hb1:(r1.length+ls[j].length)*8<=1099511627776:=by omega
   simp -implicitDefEqProofs [hjn,hb1]
   exact⟨k-1,by omega,j+1,by omega,by simp[hw],by rw[hst];simp[ints]⟩
  ·have e:ls.take j=ls:=List.take_of_length_le (by omega)
   simp -implicitDefEqProofs [hjn,e]
theorem AJO (hC:ABa (D 368)) (hH:AdJ (D 353)):AeA (Body D Avl):=by
 intro k xs hl
 simp -implicitDefEqProofs
 have hc:=hC [[k],xs,[k]] (by simp[GR,Cr];omega)
 simp -implicitDefEqProofs [KZ,I8,ints]at hc
 simp -implicitDefEqProofs [ints]
 refine Aa (hc) ?_
 have ek:Axk [[k],xs,[k]]=k::xs++ [k]:=by simp[Axk]
 rw[ek]
 have hlen:(k::xs++ [k]).length=xs.length+1+1:=by simp
 have hh:=hH (k::xs++ [k]) (by unfold maxLen;omega)
 rw[hlen]at hh
 simp -implicitDefEqProofs [ints]at hh
 simp -implicitDefEqProofs [ints]
 refine Aa (hh) ?_
 simp -implicitDefEqProofs [keyed]
theorem AE0 (hI:Gr (D 292)) (hE:Kg (D 367)) (hC:ABa (D 368)):MV (Body D AuP):=by
 intro h hh
 have hv:=hh.1
 simp -implicitDefEqProofs
 refine Aa (hI h hh) ?_
 by_cases h1:Dt h=true
 rotate_left
 ·simp -implicitDefEqProofs [h1,Du]
 have hl:=MW h.exts
 have e:Du h=((h.versions.length:Int)::h.versions)++(FV h.exts).1:=by unfold Du;rw[if_pos h1]
 rw[e]
 simp -implicitDefEqProofs [h1]
 refine Aa (hE h.exts hh.2) ?_
 generalize(FV h.exts).1=r at hl
 simp -implicitDefEqProofs [ints]
 have hc:=hC [[(h.versions.length:Int)],h.versions,r] (by simp[GR,Cr];omega)
 simp -implicitDefEqProofs [KZ,I8,ints]at hc
 refine Aa (hc) ?_
 have ek:Axk [[(h.versions.length:Int)],h.versions,r]=((h.versions.length:Int)::h.versions)++r:=by simp[Axk]
 rw[ek]
 simp -implicitDefEqProofs [ints]
abbrev AFL:Prop:=∀(v:Int) (n:Nat),n<=2->R [.sl 1 1 1 (ints [v]),I n] [] (.sl 0 1 n (ints (List.replicate n v))) []
abbrev AFY:Prop:=∀(l:List Ext) (i:Nat) (x:Ext),l.length<=4194304->i<=l.length->
 R [.arr 0,I i,.arr 1] [.arr 2 0 l.length (l.flatMap Cc),.arr 2 0 1 (Cc x)] (.sl 0 2 (l.length+1) ((l.take i++x::l.drop i).flatMap Cc)) [.dead,.dead]
theorem AFy (hC:U5 (D 318)) (hG:O4 (D 319)) (hA:JX (D 320)) (hX:Rj (D 321)) (hP:Ahf (D 322))
 (hR:AFL (D 323)) (hI:AFY (D 324)):O8 (Body D AuV):=by
 intro l seed hl
 have hll:=hl.1
 simp -implicitDefEqProofs
 refine Aa (hC l hl) ?_
 simp -implicitDefEqProofs
 refine Aa (hG seed) ?_
 obtain⟨t,ht⟩:∃t,t=Oh seed:=⟨_,rfl⟩
 rw[<-ht]
 simp -implicitDefEqProofs
 refine Aa (hA l hl) ?_
 by_cases h1:Ej l=true
 rotate_left
 ·simp -implicitDefEqProofs [h1,Ew]
 have h6:l.length<=6:=Adr h1
 by_cases h2:l.length=6
 ·have h2':((l.length:Nat):Int)=6:=by omega
  simp -implicitDefEqProofs [h1,h2',Ew,h2]
 have h2':¬((l.length:Nat):Int)=6:=by omega
 have h2l:l.length<6:=by omega
 simp -implicitDefEqProofs [h1,h2',h2]
 refine Aa (hX l t (by unfold maxLen;omega)) ?_
 by_cases h3:t∈Ba l
 ·have h3':0<=K7 l t:=by
   by_cases h:K7 l t<0
   ·rw[LA]at h;exact absurd h3 h
   ·omega
  simp -implicitDefEqProofs [h1,h2l,h2',h2,h3',h3,Ew,<-ht]
 have h3':¬0<=K7 l t:=by
  have:K7 l t<0:=by rw[LA];exact h3
  omega
 have e:Ew l seed=l.take (AiL l seed)++⟨t,Ag6 seed⟩::l.drop (AiL l seed):=by
  unfold Ew
  rw[if_pos]
  ·rw[ht]
  ·simp[h1,h2l,<-ht,h3]
 have hgp:=AoS l seed h6
 rw[e]
 simp -implicitDefEqProofs [h3',h2',h2]
 refine Aa (hP seed 3 256) ?_
 simp -implicitDefEqProofs
 refine Aa (hP seed 2 3) ?_
 have hp2:=UK seed 2 (n:=3) ⟨by omega,by omega⟩
 have eb:Ag6 seed=List.replicate (pick seed 2 3).toNat (pick seed 3 256):=rfl
 obtain⟨n,hn⟩:∃n:Nat,pick seed 2 3=n:=⟨(pick seed 2 3).toNat,by omega⟩
 rw[hn]at eb hp2⊢
 rw[Int.toNat_natCast]at eb
 rw[eb]
 generalize pick seed 3 256=v at *
 simp -implicitDefEqProofs [ints]
 have hr:=hR v n (by omega)
 simp -implicitDefEqProofs [ints]at hr
 refine Aa (hr) ?_
 have hwl:IntKind.i64.wrap ((l.length:Int)+1)=(l.length:Int)+1:=Ad (by omega) (by omega)
 simp -implicitDefEqProofs [hwl]
 refine Aa (hP seed 1 (l.length+1)) ?_
 have hp1:=UK seed 1 (n:=(l.length:Int)+1) ⟨by omega,by omega⟩
 have eg:AiL l seed=(pick seed 1 (l.length+1)).toNat:=rfl
 generalize pick seed 1 (l.length+1)=k1 at hp1 eg
 obtain⟨kk,rfl⟩:∃kk:Nat,k1=kk:=⟨k1.toNat,by omega⟩
 rw[Int.toNat_natCast]at eg
 rw[eg]at hgp⊢
 simp -implicitDefEqProofs
 have hi:=hI l kk ⟨t,List.replicate n v⟩ (by omega) hgp
 simp -implicitDefEqProofs [Cc,ints]at hi
 refine Aa (hi) ?_
 have hlen:(l.take kk++(⟨t,List.replicate n v⟩:Ext)::l.drop kk).length=l.length+1:=by simp;omega
 simp -implicitDefEqProofs [hlen,Cc,ints]
 omega
open Go.Lib Go.RowKit
theorem AFR {Ae:Nat->Option FuncId} {w:Go.World} {P:Nat->Prop} {l:List Int} {x:Value} (h:Rd Ae w P (.sl 1 1 l.length (ints l)) x):
 ∃a cap,x= .slice a l.length cap/\l.length<=cap/\(l=[]∨∃b o,a=some ⟨b,o,none⟩/\P b/\∀j,j<l.length->w.cell? ⟨b,o+j,none⟩=some (.int .i64 (l.getD j 0))):=by
 cases h with
 | @sl _ _ _ _ a cap vs hle hwd hvl hm hcs=>
  refine⟨a,cap,rfl,hle,?_⟩
  rcases hm with hm | ⟨b,o,rfl,hbk,hr⟩
  ·left
   cases l with
   | nil=>rfl
   | cons x r=>simp[ints]at hm
  ·right
   have hvlen:vs.length=l.length:=by rw[hvl];simp
   refine⟨b,o,rfl,hbk,fun j hj=> ?_⟩
   rw[hr.2 j (by omega)]
   have hv:vs[j]? =some vs[j]:=by simp
   rw[hv]
   have hrd:=hcs j (.sc (.int .i64 l[j])) vs[j] (by simp[ints,hj]) hv
   generalize vs[j]=y at hrd⊢
   cases hrd with
   | sc _=>simp[hj]
theorem AKU {P:Program} {Ae:Nat->Option FuncId} {G:Gl} {g k:Nat} (hid:Ae g=some k)
 (hc:∀(b off n c:Nat) (zs:List Int) (w:Go.World),0<n->n<=zs.length->n<=9223372036854775807->(∀j,j<zs.length->w.cell? ⟨b,off+j,none⟩=some (.int .i64 (zs.getD j 0)))->
  Calls P k #[.slice (some ⟨b,off,none⟩) n c] w fun e w'=>e= .returned (.int .i64 (Lib.maxOf (zs.take n)))/\w' =w):AK8 (Den P Ae G g):=by
 intro xs h1 h2
 refine AgE (v:= .int .i64 (AKX xs)) rfl (fun a ha=> ?_) ?_
 ·simp only[List.mem_singleton]at ha;subst ha;trivial
 intro id hi w hw ys hx
 rw[hid]at hi
 cases hi
 cases hx with
 | sl h3 h4=>
  cases h4
  obtain⟨a,cap,rfl,hle,hm⟩:=AFR h3
  rcases hm with rfl | ⟨b,o,rfl,hb,hcell⟩
  ·simp at h1
  ·refine(hc b o xs.length cap xs w h1 (Nat.le_refl _) (by omega) hcell).mono fun e w' ⟨he,hw'⟩=>⟨?_,by rw[hw'];exact Below.refl _ _⟩
   rw[he,List.take_length];rfl
theorem AIg {w:Go.World} {base:Nat} {t:TypeId} {v:Value} {l:List Int} (h:w.ownsRow base t 1 v l.length (iv l)):
 ∃a cap,v= .slice a l.length cap/\(l.length<=cap/\cap<=9223372036854775807)/\(cap=0∨∃b o,a=some ⟨b,o,none⟩/\Has w b o (iv l) cap/\base<=b):=by
 obtain⟨_,h | ⟨g,cap,cur,rfl,h1,h2,h3,h4,h5,h6⟩⟩:=h
 ·obtain⟨rfl,h⟩:=h
  exact⟨none,0,by rw[h],⟨by omega,by omega⟩,.inl rfl⟩
 ·refine⟨_,cap,rfl,⟨h3,by unfold maxLen at h4;omega⟩,.inr ⟨g,0,rfl,⟨AsZ l,cur,t,h2,by omega,by simpa using h3,fun i hi=> ?_⟩,h1⟩⟩
  rw[Nat.zero_add,<-h6,Nat.mul_one]
  simp only[AD3]at hi
  rw[List.getElem?_take,if_pos hi,Array.getElem?_toList]
theorem AHG {F:Fr} {w':Go.World} (h:Below F.w0.heap.size F.w0 w'):Kept F w':=⟨h.size,h.os,h.tape,h.output,fun b hb _=>h.block b hb⟩
theorem AJp {P:Program} {Ae:Nat->Option FuncId} {G:Gl} {g k:Nat} {t:TypeId} (hid:Ae g=some k)
 (hn:∀(n c:Nat) (w:Go.World),Calls P k #[.slice none n c] w fun e w'=>e= .returned (.slice none 0 0)/\w' =w)
 (hz:∀(a:Addr) (c:Nat) (w:Go.World),Calls P k #[.slice (some a) 0 c] w fun e w'=>∃v',e= .returned v'/\w'.ownsRow w.heap.size t 1 v' 0 []/\v'≠ .slice none 0 0/\Below w.heap.size w w')
 (hc:∀(b off n c:Nat) (zs:List Int) (w:Go.World),n<=zs.length->n*8<=140737488355328->(∀j,j<zs.length->w.cell? ⟨b,off+j,none⟩=some (.int .i64 (zs.getD j 0)))->
  Calls P k #[.slice (some ⟨b,off,none⟩) n c] w fun e w'=>∃v',e= .returned v'/\w'.ownsRow w.heap.size t 1 v' n ((zs.take n).map (Value.int .i64))/\v'≠ .slice none 0 0/\Below w.heap.size w w'):AIh (Den P Ae G g):=by
 intro l hl
 refine Axj (given:=[]) (l':=l) fun id hi F hF inv xs hx=> ?_
 rw[hid]at hi
 cases hi
 have hr:=Adt (F:=F) rfl (fun a ha=>by simp only[List.mem_singleton]at ha;subst ha;trivial) hx
 cases hr with
 | sl h3 h4=>
  cases h4
  obtain⟨a,cap,rfl,hle,hm⟩:=AFR h3
  have fin:∀ {v':Value} {w':Go.World},w'.ownsRow F.w0.heap.size t 1 v' l.length (iv l)->Below F.w0.heap.size F.w0 w'->
   ∃a cap,Ending.returned v' = .returned (.slice a l.length cap)/\(l.length<=cap/\cap<=9223372036854775807)/\(cap=0∨∃b o,a=some ⟨b,o,none⟩/\Has w' b o (iv l) cap/\(b<F.w0.heap.size->F.own0 b≠none))/\Kept F w':=by
   intro v' w' ho hb
   obtain⟨a,cap,rfl,h5,h6⟩:=AIg ho
   refine⟨a,cap,rfl,h5,?_,AHG hb⟩
   rcases h6 with h6 | ⟨b,o,h7,h8,h9⟩
   ·exact .inl h6
   ·exact .inr ⟨b,o,h7,h8,fun h=>absurd h (by omega)⟩
  rcases hm with rfl | ⟨b,o,rfl,hb,hcell⟩
  ·cases a with
   | none=>exact(hn _ _ _).mono fun e w' ⟨he,hw⟩=>⟨none,0,he,⟨by simp,by omega⟩,.inl rfl,by rw[hw];exact Kept.refl F⟩
   | some a=>exact(hz a cap F.w0).mono fun e w' ⟨v',he,hown,_,hbel⟩=>by subst he;exact fin hown hbel
  ·exact(hc b o l.length cap l F.w0 (Nat.le_refl _) (by omega) hcell).mono fun e w' ⟨v',he,hown,_,hbel⟩=>by
    subst he
    rw[List.take_length]at hown
    exact fin hown hbel
end Go.Eng.T
namespace Go.Eng
open Go.Lib Go.RowKit Go.Sort
def Atj:Nat->List Value->Array Value->Array Value
 | _,[],c=>c
 | o,v::r,c=>Atj (o+1) r (c.setIfInBounds o v)
theorem AkS:∀(vs:List Value) (o:Nat) (c:Array Value),(Atj o vs c).size=c.size
 | [],_,_=>rfl
 | v::r,o,c=>by rw[Atj,AkS r];simp
theorem Arq:∀(vs:List Value) (o k:Nat) (c:Array Value),k<o∨o+vs.length<=k->(Atj o vs c)[k]? =c[k]?
 | [],_,_,_,_=>rfl
 | v::r,o,k,c,h=>by
  simp only[List.length_cons]at h
  rw[Atj,Arq r (o+1) k _ (by omega),Array.getElem?_setIfInBounds,if_neg (by omega)]
theorem Aus:∀(vs:List Value) (o i:Nat) (c:Array Value),i<vs.length->o+vs.length<=c.size->(Atj o vs c)[o+i]? =vs[i]?
 | v::r,o,0,c,_,hc=>by
  simp only[List.length_cons]at hc
  rw[Atj,Arq r (o+1) (o+0) _ (by omega),Array.getElem?_setIfInBounds,if_pos (by omega),if_pos (by omega)]
  rfl
 | v::r,o,i+1,c,hi,hc=>by
  simp only[List.length_cons]at hc hi
  rw[Atj,show o+(i+1)=o+1+i by omega,Aus r (o+1) i _ (by omega) (by simp;omega)]
  simp
theorem AhJ (b:Nat):∀(vs:List Value) (o:Nat) (w:World),w.setCells b o vs=mapBlock w b (Atj o vs)
 | [],o,w=>(mapBlock_id w b _ fun _ _ _ _=>rfl).symm
 | v::r,o,w=>by
  rw[World.setCells,AhJ b r,setCell_eq,mapBlock_mapBlock]
  rfl
def ADS (l:List Int) (i:Nat) (v:Int):List Int:=l.take i++v::l.drop i
theorem AJ9 {l:List Int} {i:Nat} {v:Int} (hi:i<=l.length):(ADS l i v).length=l.length+1:=by simp[ADS];omega
theorem AJY {l:List Int} {i j:Nat} {v:Int} (hi:i<=l.length):(ADS l i v)[j]? =if j<i then l[j]? else if j=i then some v else l[j-1]? :=by
 unfold ADS
 have hm:min i l.length=i:=by omega
 rw[List.getElem?_append]
 simp only[List.length_take,hm]
 split
 ·rename_i h;rw[List.getElem?_take,if_pos h]
 ·split
  ·rename_i h1 h2;subst h2;simp
  ·rename_i h1 h2
   obtain⟨d,rfl⟩:∃d,j=i+(d+1):=⟨j-i-1,by omega⟩
   rw[show i+(d+1)-i=d+1 by omega,List.getElem?_cons_succ,List.getElem?_drop]
   congr 1
theorem AIq {l:List Int} {j:Nat}:(iv l)[j]? =(l[j]?).map (Value.int .i64):=by simp[iv]
theorem AJ6 {l:List Int} {i j:Nat} {v:Int} (hi:i<=l.length):(iv (ADS l i v))[j]? =if j<i then(iv l)[j]? else if j=i then some (.int .i64 v)else(iv l)[j-1]? :=by
 rw[AIq,AJY hi]
 split
 ·rw[AIq]
 ·split
  ·rfl
  ·rw[AIq]
theorem AA7 {w:World} {b o n:Nat} {vs:List Value} (h:Has w b o vs n) {j:Nat} {v:Value} (hj:vs[j]? =some v):w.cell? ⟨b,o+j,none⟩=some v:=by
 have hl:=(List.getElem?_eq_some_iff.1 hj).1
 rw[(DF h).2 j hl,hj]
theorem AAn {w:World} {b o n:Nat} {vs:List Value} (h:Has w b o vs n) {j:Nat} (hj:j<n):(w.cell? ⟨b,o+j,none⟩).isSome=true:=by
 obtain⟨_,c,et,hb,h2,_,_⟩:=h
 unfold World.cell?
 simp only[hb]
 have:o+j<c.size:=by omega
 simp[this]
theorem Au9 {w:World} {b o n:Nat} {vs:List Value} (h:Has w b o vs n) (x:Nat):w.frozen? ⟨b,x,none⟩=false:=by
 obtain⟨_,c,et,hb,_⟩:=h
 unfold World.frozen?
 simp only[hb]
 simp
theorem AyR {w:World} {b o n:Nat} {vs:List Value} (h:Has w b o vs n):∃t k,w.shape? b=some (t,k)/\o+n<=k:=by
 obtain⟨_,c,et,hb,h2,_⟩:=h
 exact⟨et,c.size,by unfold World.shape?;simp only[hb],h2⟩
theorem alloc_at (w:World) (o:Obj):(w.alloc o).heap[w.heap.size]? =some o:=by
 show(w.heap.push o)[w.heap.size]? =some o
 rw[Array.getElem?_push,if_pos rfl]
theorem AuW (w:World) (o:Obj) {k:Nat} (h:k<w.heap.size):(w.alloc o).heap[k]? =w.heap[k]? :=by
 show(w.heap.push o)[k]? =w.heap[k]?
 rw[Array.getElem?_push,if_neg (by omega)]
theorem Atm (w:World) (o:Obj):(w.alloc o).heap.size=w.heap.size+1:=Array.size_push _
theorem AAa (n:Nat):(Builtin.zeroCells (Value.int .i64 0).cells n).size=n:=by simp[Builtin.zeroCells,Value.cells]
theorem Aw6 {l:List Int} {off i n:Nat} {v:Int} (hi:i<=l.length) (hn:l.length+1<=n) (c:Array Value) (hc:off+n<=c.size) (hl:∀j,j<i->c[off+j]? =(iv l)[j]?) (j:Nat) (hj:j<l.length+1):
 (Atj (off+i) (iv [v]) (Atj (off+(i+1)) ((iv l).drop i) c))[off+j]? =(iv (ADS l i v))[j]? :=by
 rw[AJ6 hi]
 by_cases h1:j<i
 ·rw[if_pos h1,Arq _ _ _ _ (.inl (by omega)),Arq _ _ _ _ (.inl (by omega)),hl j h1]
 ·rw[if_neg h1]
  by_cases h2:j=i
  ·subst h2
   rw[if_pos rfl]
   have:=Aus (iv [v]) (off+j) 0 (Atj (off+(j+1)) ((iv l).drop j) c) (by simp) (by rw[AkS];simp;omega)
   simp only[Nat.add_zero]at this
   rw[this];rfl
  ·rw[if_neg h2,Arq _ _ _ _ (.inr (by simp;omega))]
   have:=Aus ((iv l).drop i) (off+(i+1)) (j-(i+1)) c (by simp;omega) (by simp;omega)
   rw[show off+(i+1)+(j-(i+1))=off+j by omega]at this
   rw[this,List.getElem?_drop]
   congr 1;omega
theorem AGJ {F:Fr} {b:Nat} {f:Array Value->Array Value} {w:World} (hh:w.heap=F.w0.heap) (ho:w.os=F.w0.os) (ht:w.tape=F.w0.tape) (hu:w.output=F.w0.output) (hb:F.own0 b≠none):Kept F (mapBlock w b f):=by
 refine⟨by rw[AsE,hh];exact Nat.le_refl _,ho,ht,hu,fun b' h1 h2=> ?_⟩
 have hne:b'≠b:=by intro e;rw[e]at h2;exact hb h2
 rw[Auh _ _ hne,hh]
theorem AH0 {P:Program} {Ae:Nat->Option FuncId} {G:Gl} {g k:Nat} {t3:TypeId} (hid:Ae g=some k)
 (hShift:∀(b off n c i vb voff m vc:Nat) (cs vs:List Value) (w:World),i<n->0<m->n+m<=c->c<=9223372036854775807->vb≠b->cs.length=n->vs.length=m->
  (∀j v,cs[j]? =some v->w.cell? ⟨b,off+j,none⟩=some v)->(∀j,j<n+m->(w.cell? ⟨b,off+j,none⟩).isSome=true)->(∀j,j<n+m->w.frozen? ⟨b,off+j,none⟩=false)->
  (∀j v,vs[j]? =some v->w.cell? ⟨vb,voff+j,none⟩=some v)->(∀v∈cs,v.oneCell' =true)->(∀v∈vs,v.oneCell' =true)->
  ∀(tA tB:TypeId) (kA kB:Nat),w.shape? vb=some (tA,kA)->w.shape? b=some (tB,kB)->kB≠0->w.frozen? ⟨vb,voff,none⟩=false->w.frozen? ⟨vb,kA,none⟩=false->
  Calls P k #[.slice (some ⟨b,off,none⟩) n c,.int .i64 i,.slice (some ⟨vb,voff,none⟩) m vc] w fun e w'=>
   e= .returned (.slice (some ⟨b,off,none⟩) (n+m) c)/\w' =(w.drew.setCells b (off+(i+m)) (cs.drop i)).setCells b (off+i) vs)
 (hEndRoom:∀(b off n c vb voff m vc:Nat) (vs:List Value) (w:World),0<m->n+m<=c->c<=9223372036854775807->vs.length=m->
  (∀j,j<m->(w.cell? ⟨b,off+n+j,none⟩).isSome=true)->(∀j,j<m->w.frozen? ⟨b,off+n+j,none⟩=false)->
  (∀j v,vs[j]? =some v->w.cell? ⟨vb,voff+j,none⟩=some v)->(∀v∈vs,v.oneCell' =true)->
  Calls P k #[.slice (some ⟨b,off,none⟩) n c,.int .i64 n,.slice (some ⟨vb,voff,none⟩) m vc] w fun e w'=>
   e= .returned (.slice (some ⟨b,off,none⟩) (n+m) c)/\w' =w.setCells b (off+n) vs)
 (hEndGrow:∀(base:Option Addr) (n c vb voff m vc:Nat) (cs vs:List Value) (w:World),0<m->n<=c->c<n+m->(n+m)*8<=140737488355328->cs.length=n->vs.length=m->(base=none->n=0)->
  (∀a,base=some a->∀j v,cs[j]? =some v->w.cell? (a.add j)=some v)->(∀j v,vs[j]? =some v->w.cell? ⟨vb,voff+j,none⟩=some v)->(∀v∈vs,v.oneCell' =true)->
  Calls P k #[.slice base n c,.int .i64 n,.slice (some ⟨vb,voff,none⟩) m vc] w fun e w'=>
   e= .returned (.slice (some ⟨w.heap.size,0,none⟩) (n+m) (grownCap w (n+m) c t3))/\
   w' =w.drew.alloc (.cells ((cs++vs).toArray++Builtin.zeroCells (Value.int .i64 0).cells (grownCap w (n+m) c t3-(n+m))) t3))
 (hGrow:∀(b off n c i vb voff m vc:Nat) (cs vs:List Value) (w:World),i<n->0<m->n<=c->c<n+m->(n+m)*8<=140737488355328->cs.length=n->vs.length=m->
  (∀j v,cs[j]? =some v->w.cell? ⟨b,off+j,none⟩=some v)->(∀j v,vs[j]? =some v->w.cell? ⟨vb,voff+j,none⟩=some v)->(∀v∈cs,v.oneCell' =true)->(∀v∈vs,v.oneCell' =true)->
  Calls P k #[.slice (some ⟨b,off,none⟩) n c,.int .i64 i,.slice (some ⟨vb,voff,none⟩) m vc] w fun e w'=>
   e= .returned (.slice (some ⟨w.heap.size,0,none⟩) (n+m) (grownCap w (n+m) c t3))/\
   w' =(((w.alloc (.cells ((cs.take i).toArray++Builtin.zeroCells (Value.int .i64 0).cells (n+m-i)++Builtin.zeroCells (Value.int .i64 0).cells (grownCap w (n+m) c t3-(n+m))) t3)).drew.setCells w.heap.size i vs).drew).setCells w.heap.size (i+m) (cs.drop i))
 (l:List Int) (i:Nat) (v:Int) (hl:l.length<=4194304) (hi:i<=l.length):
 Den P Ae G g [.arr 0,.sc (.int .i64 i),.arr 1] [.arr 1 0 l.length (T.ints l),.arr 1 0 1 (T.ints [v])] (.sl 0 1 (ADS l i v).length (T.ints (ADS l i v))) [.dead,.dead]:=by
 refine Axj (given:=[.arr 1 0 l.length (T.ints l),.arr 1 0 1 (T.ints [v])]) fun id hid' F hF inv xs hx=> ?_
 rw[hid]at hid'
 cases hid'
 obtain⟨x0,r0,rfl,h1,h2⟩:=hx.Nf
 obtain⟨x1,r1,rfl,h3,h4⟩:=h2.Nf
 obtain⟨x2,r2,rfl,h5,h6⟩:=h4.Nf
 obtain rfl:=h6.N8
 obtain⟨a,cap,rfl,hcap,_,_,hm⟩:=AAS (k:=0) inv rfl h1
 obtain⟨a2,cap2,rfl,hcap2,_,_,hm2⟩:=AAS (k:=1) (l:=[v]) inv rfl h5
 cases h3
 have hlen:=AJ9 (v:=v) hi
 rw[hlen]
 obtain⟨vb,vo,rfl,hvown,hvhas⟩:∃vb vo,a2=some ⟨vb,vo,none⟩/\F.own0 vb=some (1,[])/\Has F.w0 vb vo (iv [v]) cap2:=by
  rcases hm2 with h | h
  ·simp at hcap2;omega
  ·exact h
 have hvs:∀j x,(iv [v])[j]? =some x->F.w0.cell? ⟨vb,vo+j,none⟩=some x:=fun j x hj=>AA7 hvhas hj
 have hgc:=AfX F.w0 (l.length+1) cap t3
 have hgb:=AeI F.w0 (l.length+1) cap t3 (by omega)
 have hvne:F.own0 vb≠none:=by rw[hvown];simp
 have new:∀ {w':World} {o:Obj},(∀b,b<F.w0.heap.size->w'.heap[b]? =F.w0.heap[b]?)->F.w0.heap.size<=w'.heap.size->w'.os=F.w0.os->w'.tape=F.w0.tape->w'.output=F.w0.output->Kept F w':=
  fun h1 h2 h3 h4 h5=>⟨h2,h3,h4,h5,fun b hb _=>h1 b hb⟩
 have endGrow:cap<l.length+1->i=l.length->(∀a0,a=some a0->∀j x,(iv l)[j]? =some x->F.w0.cell? (a0.add j)=some x)->(a=none->l.length=0)->_:=fun hc hin hcells hnil=>
  (hEndGrow a l.length cap vb vo 1 cap2 (iv l) (iv [v]) F.w0 (by omega) hcap.1 hc (by omega) (by simp) rfl hnil hcells hvs (AsZ [v])).mono
   (R':=fun e w'=>∃a cap,e= .returned (.slice a (l.length+1) cap)/\(l.length+1<=cap/\cap<=9223372036854775807)/\(cap=0∨∃b o,a=some ⟨b,o,none⟩/\Has w' b o (iv (ADS l i v)) cap/\(b<F.w0.heap.size->F.own0 b≠none))/\Kept F w')
   fun e w' ⟨he,hw⟩=>by
    subst hw
    refine⟨_,_,he,⟨hgc,hgb⟩,.inr ⟨_,_,rfl,?_,fun h=>absurd h (by omega)⟩,?_⟩
    ·have e2:iv (ADS l i v)=iv l++iv [v]:=by subst hin;simp[ADS,iv]
     rw[e2]
     refine⟨by rw[<-e2];exact AsZ _,_,t3,alloc_at F.w0.drew _,?_,by simp;exact hgc,fun j hj=> ?_⟩
     ·simp[AAa];omega
     ·simp only[List.length_append,AD3]at hj
      rw[Nat.zero_add,Array.getElem?_append,if_pos (by simp;simp at hj;omega)]
      simp
    ·refine⟨by rw[Atm];simp,rfl,rfl,rfl,fun b hb _=>AuW F.w0.drew _ hb⟩
 rcases hm with hm | ⟨b,o,rfl,hown,hhas⟩
 ·subst hm
  have hl0:l=[]:=List.eq_nil_of_length_eq_zero (by omega)
  subst hl0
  obtain rfl:i=0:=by simpa using hi
  exact endGrow (by simp) rfl (fun a0 _ j x hj=>by simp[iv]at hj) (fun _=>rfl)
 ·have hbne:vb≠b:=by intro e;rw[e,hown]at hvown;cases hvown
  have hcs:∀j x,(iv l)[j]? =some x->F.w0.cell? ⟨b,o+j,none⟩=some x:=fun j x hj=>AA7 hhas hj
  have hob:F.own0 b≠none:=by rw[hown];simp
  by_cases hroom:l.length+1<=cap
  ·by_cases hin:i=l.length
   ·subst hin
    refine(hEndRoom b o l.length cap vb vo 1 cap2 (iv [v]) F.w0 (by omega) hroom hcap.2 rfl (fun j hj=> ?_) (fun j _=>Au9 hhas _) hvs (AsZ [v])).mono fun e w' ⟨he,hw⟩=> ?_
    ·have:=AAn hhas (j:=l.length+j) (by omega)
     rwa [<-Nat.add_assoc]at this
    ·rw[AhJ]at hw
     subst hw
     refine⟨_,_,he,⟨hroom,hcap.2⟩,.inr ⟨_,_,rfl,?_,fun _=>hob⟩,AGJ rfl rfl rfl rfl hob⟩
     refine AxA hhas (Auo _ _ _) (AkS _ _) (fun c h1 h2 j hj=> ?_) (AsZ _) (by simp[hlen];exact hroom)
     have:=Aw6 (v:=v) (Nat.le_refl l.length) hroom c h1 (fun j hj=>h2 j (by simpa using hj)) j (by simpa[hlen]using hj)
     rw[List.drop_eq_nil_of_le (by simp)]at this
     exact this
   ·obtain⟨tA,kA,hsa,_⟩:=AyR hvhas
    obtain⟨tB,kB,hsb,hkB⟩:=AyR hhas
    refine(hShift b o l.length cap i vb vo 1 cap2 (iv l) (iv [v]) F.w0 (by omega) (by omega) hroom hcap.2 hbne (by simp) rfl hcs (fun j hj=>AAn hhas (by omega)) (fun j _=>Au9 hhas _) hvs (AsZ l) (AsZ [v]) tA tB kA kB hsa hsb (by omega) (Au9 hvhas _) (Au9 hvhas _)).mono fun e w' ⟨he,hw⟩=> ?_
    rw[AhJ,AhJ,mapBlock_mapBlock]at hw
    subst hw
    refine⟨_,_,he,⟨hroom,hcap.2⟩,.inr ⟨_,_,rfl,?_,fun _=>hob⟩,AGJ rfl rfl rfl rfl hob⟩
    refine AxA hhas (Auo _ _ _) (fun c=>by rw[AkS,AkS]) (fun c h1 h2 j hj=> ?_) (AsZ _) (by simp[hlen];exact hroom)
    exact Aw6 (v:=v) hi hroom c h1 (fun j hj=>h2 j (by simp;omega)) j (by simpa[hlen]using hj)
  ·by_cases hin:i=l.length
   ·rw[hin]
    rw[hin]at endGrow
    refine endGrow (by omega) rfl (fun a0 ha j x hj=> ?_) (fun h=>by cases h)
    cases ha
    rw[Addr.add_lit]
    exact hcs j x hj
   ·refine(hGrow b o l.length cap i vb vo 1 cap2 (iv l) (iv [v]) F.w0 (by omega) (by omega) hcap.1 (by omega) (by omega) (by simp) rfl hcs hvs (AsZ l) (AsZ [v])).mono fun e w' ⟨he,hw⟩=> ?_
    rw[AhJ,AhJ]at hw
    have hsz:w'.heap.size=F.w0.heap.size+1:=by
     rw[hw,AsE];simp only[World.drew];rw[AsE,Atm]
    have hoff:∀b',b' <F.w0.heap.size->w'.heap[b']? =F.w0.heap[b']? :=by
     intro b' hb'
     rw[hw,Auh _ _ (by omega)]
     simp only[World.drew]
     rw[Auh _ _ (by omega)]
     exact AuW F.w0 _ hb'
    refine⟨_,_,he,⟨hgc,hgb⟩,.inr ⟨_,_,rfl,?_,fun h=>absurd h (by omega)⟩,⟨by omega,by rw[hw];rfl,by rw[hw];rfl,by rw[hw];rfl,fun b' hb' _=>hoff b' hb'⟩⟩
    have hat:w'.heap[F.w0.heap.size]? =some (.cells (Atj (i+1) ((iv l).drop i) (Atj i (iv [v]) (((iv l).take i).toArray++Builtin.zeroCells (Value.int .i64 0).cells (l.length+1-i)++Builtin.zeroCells (Value.int .i64 0).cells (grownCap F.w0 (l.length+1) cap t3-(l.length+1))))) t3 (0,0)):=by
     rw[hw,Auo]
     simp only[World.drew]
     rw[Auo]
     simp only[]
     rw[alloc_at]
     rfl
    refine⟨AsZ _,_,t3,hat,?_,by simp[hlen];exact hgc,fun j hj=> ?_⟩
    ·rw[AkS,AkS]
     simp[AAa];omega
    ·simp only[AD3,hlen]at hj
     rw[AJ6 hi,Nat.zero_add]
     by_cases q1:j<i
     ·rw[if_pos q1,Arq _ _ _ _ (.inl (by omega)),Arq _ _ _ _ (.inl q1),Array.getElem?_append,if_pos (by simp[AAa];omega),Array.getElem?_append,if_pos (by simp;omega)]
      simp[q1]
     ·rw[if_neg q1]
      by_cases q2:j=i
      ·subst q2
       rw[if_pos rfl,Arq _ _ _ _ (.inl (by omega))]
       have:=Aus (iv [v]) j 0 (((iv l).take j).toArray++Builtin.zeroCells (Value.int .i64 0).cells (l.length+1-j)++Builtin.zeroCells (Value.int .i64 0).cells (grownCap F.w0 (l.length+1) cap t3-(l.length+1))) (by simp) (by simp[AAa];omega)
       simp only[Nat.add_zero]at this
       rw[this];rfl
      ·rw[if_neg q2]
       have:=Aus ((iv l).drop i) (i+1) (j-(i+1)) (Atj i (iv [v]) (((iv l).take i).toArray++Builtin.zeroCells (Value.int .i64 0).cells (l.length+1-i)++Builtin.zeroCells (Value.int .i64 0).cells (grownCap F.w0 (l.length+1) cap t3-(l.length+1)))) (by simp;omega) (by rw[AkS];simp[AAa];omega)
       rw[show i+1+(j-(i+1))=j by omega]at this
       rw[this,List.getElem?_drop]
       congr 1;omega
end Go.Eng
namespace Go.Eng.T
open Go.Lib Go.RowKit Go.Sort
theorem AJe {P:Program} {Ae:Nat->Option FuncId} {G:Gl} {g k:Nat} (hid:Ae g=some k)
 (h0:∀(p:Option Addr) (cap:Nat) (w:Go.World),Calls P k #[.slice p 0 cap] w fun e w'=>e= .returned (.tuple #[])/\w' =w)
 (hc:∀(blk off cap:Nat) (zs:List Int) (w:Go.World),Holds (Value.int .i64) w blk off zs.toArray->blk<w.heap.size->zs.length<4611686018427387904->
  Calls P k #[.slice (some ⟨blk,off,none⟩) zs.length cap] w fun e w'=>e= .returned (.tuple #[])/\∃n os,w' =grow (putRow (Value.int .i64) (Sort.ahead w n) blk off (zs.mergeSort fun x y=>decide (x<=y)).toArray) os):
 AIN (Den P Ae G g):=fun l hl=>AJ0 hid h0 hc l hl
theorem AF9 {P:Program} {Ae:Nat->Option FuncId} {G:Gl} {g k:Nat} (hid:Ae g=some k)
 (h0:∀(p:Option Addr) (cap:Nat) (w:Go.World),Calls P k #[.slice p 0 cap] w fun e w'=>e= .returned (.slice p 0 cap)/\w' =w)
 (hc:∀(blk off cap:Nat) (zs:List Int) (w:Go.World),Holds (Value.int .i64) w blk off zs.toArray->zs.length<=9223372036854775807->zs.length<=cap->
  Calls P k #[.slice (some ⟨blk,off,none⟩) zs.length cap] w fun e w'=>e= .returned (.slice (some ⟨blk,off,none⟩) (compact zs).length cap)/\∃q,w' =putRow (Value.int .i64) (Sort.ahead w q) blk off (compact zs++List.replicate (zs.length-(compact zs).length) 0).toArray):
 CompactS (Den P Ae G g):=fun l hl=>AHm hid h0 hc l hl (compact_length_le l)
end Go.Eng.T
namespace Go.Eng
open Go.Lib Go.RowKit Go.Sort
theorem AIH {F:Fr} {given:List O} {k e len:Nat} {cs:List V} {x:Value} (inv:Inv F F.β0 F.own0 (hp given) F.w0) (hk:hp given k= .arr e 0 len cs) (h:VR F F.β0 F.own0 (hp given) F.w0 (.arr k) x):
 ∃a cap vs,x= .slice a len cap/\(len<=cap/\cap<=9223372036854775807)/\vs.length=cs.length/\cs.length=len*e/\
  (cap*e=0∨∃b o,a=some ⟨b,o,none⟩/\F.own0 b=some (k,[])/\Has F.w0 b o vs (cap*e))/\
  ∀(i:Nat) (v:V) (x:Value),cs[i]? =some v->vs[i]? =some x->Ow F.Ae F.w0 F.own0 (F.S F.w0 F.own0) 0 k [i] v x:=by
 have ho:=inv.objs k
 rw[hk]at ho
 obtain⟨vs,h1,h2,h3,h4,h5⟩:=ho
 cases h with
 | @arr _ e' t len' cs' he=>
  rw[hk]at he
  simp only[Ac,Option.some.injEq,Prod.mk.injEq]at he
  obtain⟨rfl,rfl,rfl,rfl⟩:=he
  exact⟨_,_,vs,rfl,h3,h1,h2,h4,h5⟩
 | goneA hd=>rw[hk]at hd;cases hd
def AK7 (P:Program) (k:Nat):Prop:=∀(a:Option Addr) (n cap i vb vo vc:Nat) (vs ds:List Value) (w:World),i<=n->n<=4194304->(n<=cap/\cap<=9223372036854775807)->vs.length=n*2->ds.length=2->
 (cap=0∨∃b o,a=some ⟨b,o,none⟩/\Has w b o vs (cap*2)/\b≠vb)->Has w vb vo ds (vc*2)->1<=vc->
 Calls P k #[.slice a n cap,.int .i64 i,.slice (some ⟨vb,vo,none⟩) 1 vc] w fun e w'=>∃b' o' cap',e= .returned (.slice (some ⟨b',o',none⟩) (n+1) cap')/\(n+1<=cap'/\cap'<=9223372036854775807)/\
  Has w' b' o' (vs.take (i*2)++ds++vs.drop (i*2)) (cap'*2)/\(w.heap.size<=b'∨∃o,a=some ⟨b',o,none⟩/\cap≠0)/\
  w.heap.size<=w'.heap.size/\w'.os=w.os/\w'.tape=w.tape/\w'.output=w.output/\∀b,b<w.heap.size->b≠b'->w'.heap[b]? =w.heap[b]?
def Ayo (own:Nat->Option (Nat×List Nat)) (b' i:Nat):Nat->Option (Nat×List Nat):=fun b=>
 if b=b' then some (2,[])else match own b with
 | some (0,j::q)=>some (2,(if j<i*2 then j else j+2)::q)
 | some (1,j::q)=>some (2,(i*2+j)::q)
 | _=>none
theorem AKe {P:Program} {Ae:Nat->Option FuncId} {G:Gl} {g k:Nat} (hid:Ae g=some k) (hC:AK7 P k) {cs ds:List V} {n i:Nat} (hn:n<=4194304) (hi:i<=n) (hcs:cs.length=n*2) (hds:ds.length=2):
 Den P Ae G g [.arr 0,.sc (.int .i64 i),.arr 1] [.arr 2 0 n cs,.arr 2 0 1 ds] (.sl 0 2 (n+1) (cs.take (i*2)++ds++cs.drop (i*2))) [.dead,.dead]:=by
 intro id hid' F hF hG hb ht hgn inv xs hx
 rw[hid]at hid'
 cases hid'
 obtain⟨x0,r0,rfl,h1,h2⟩:=hx.Nf
 obtain⟨x1,r1,rfl,h3,h4⟩:=h2.Nf
 obtain⟨x2,r2,rfl,h5,h6⟩:=h4.Nf
 obtain rfl:=h6.N8
 obtain⟨a,cap,vs,rfl,hcap,hv1,_,hm,hel⟩:=AIH (k:=0) inv rfl h1
 obtain⟨a2,cap2,ws,rfl,hcap2,hw1,_,hm2,hel2⟩:=AIH (k:=1) inv rfl h5
 cases h3
 obtain⟨vb,vo,rfl,hvown,hvhas⟩:∃vb vo,a2=some ⟨vb,vo,none⟩/\F.own0 vb=some (1,[])/\Has F.w0 vb vo ws (cap2*2):=by
  rcases hm2 with h | h
  ·omega
  ·exact h
 have hm':cap=0∨∃b o,a=some ⟨b,o,none⟩/\Has F.w0 b o vs (cap*2)/\b≠vb:=by
  rcases hm with h | ⟨b,o,e1,e2,e3⟩
  ·exact .inl (by omega)
  ·exact .inr ⟨b,o,e1,e3,fun e=>by rw[e,hvown]at e2;cases e2⟩
 refine(hC a n cap i vb vo cap2 vs ws F.w0 hi hn hcap (by omega) (by omega) hm' hvhas hcap2.1).mono fun e w' ⟨b',o',cap',he,hcap',hhas,hpl,hsz,hos,htp,hou,hkeep⟩=> ?_
 subst he
 have hb':b' <F.w0.heap.size->F.own0 b' =some (0,[]):=by
  intro hlt
  rcases hpl with h | ⟨o,e1,e0⟩
  ·omega
  ·rcases hm with h | ⟨b,o2,e2,e3,_⟩
   ·omega
   ·rw[e2]at e1;cases e1;exact e3
 have hne:∀b k j q,F.own0 b=some (k,j::q)->b≠b'/\b<F.w0.heap.size:=by
  intro b k j q h
  have hlt:=(inv.ownb b _ h).1
  refine⟨fun e=> ?_,hlt⟩
  subst e
  rw[hb' hlt]at h
  cases h
 refine⟨Ayo F.own0 b' i,⟨hsz,hos,htp,hou,fun b h1 h2=> ?_,fun b p h=> ?_,?_,by rw[hgn];rfl,fun j o hj=> ?_⟩⟩
 ·refine hkeep b h1 (fun e=> ?_)
  subst e
  rw[hb' h1]at h2;cases h2
 ·unfold Ayo at h
  split at h
  ·rename_i e;subst e
   exact⟨TT hhas,fun hlt=>by rw[hb' hlt];simp⟩
  ·split at h
   ·rename_i j q e;exact⟨Nat.lt_of_lt_of_le (inv.ownb b _ e).1 hsz,fun _=>by rw[e];simp⟩
   ·rename_i j q e;exact⟨Nat.lt_of_lt_of_le (inv.ownb b _ e).1 hsz,fun _=>by rw[e];simp⟩
   ·cases h
 ·have hng:F.ngiven=2:=by rw[hgn];rfl
  rw[hng]
  refine .own hcap' ?_ ?_ (.inr ⟨b',o',rfl,by unfold Ayo;rw[if_pos rfl],hhas⟩) ?_
  ·simp[hcs,hds];omega
  ·simp[hcs,hds,hv1,hw1]
  ·intro j v x hv hx
   simp only[List.nil_append]
   have mv:∀(k j0:Nat),Ow F.Ae F.w0 F.own0 (F.S F.w0 F.own0) 0 k [j0] v x->(∀b q,F.own0 b=some (k,j0::q)->Ayo F.own0 b' i b=some (2,j::q))->
    Ow F.Ae w' (Ayo F.own0 b' i) (fun _ b=>F.G b) 0 2 [j] v x:=by
    intro k j0 h hl
    refine h.move (Nat.le_refl 0) (fun fl b h1 h2 h3=> ?_) (fun fl b h1 h2 h3=> ?_) (fun b q hb=> ?_)
    ·have:fl=3:=by
      match fl,h1,h2 with
      | 1,_,h2=>simp[lv]at h2
      | 2,_,h2=>simp[lv]at h2
      | 3,_,_=>rfl
      | m+4,_,h2=>simp[lv]at h2
     subst this
     exact h3
    ·have:fl=3:=by
      match fl,h1,h2 with
      | 1,_,h2=>simp[lv]at h2
      | 2,_,h2=>simp[lv]at h2
      | 3,_,_=>rfl
      | m+4,_,h2=>simp[lv]at h2
     subst this
     have hg:=inv.glob b h3
     refine hkeep b hg.1 (fun e=> ?_)
     subst e
     rw[hb' hg.1]at hg;cases hg.2.1
    ·have hb2:F.own0 b=some (k,j0::q):=hb
     have hn:=hne b k j0 q hb2
     exact⟨hl b q hb2,hkeep b hn.2 hn.1⟩
   have hlen1:(cs.take (i*2)).length=i*2:=by simp[hcs];omega
   have hlen2:(vs.take (i*2)).length=i*2:=by simp[hv1,hcs];omega
   by_cases g1:j<i*2
   ·rw[List.append_assoc,List.getElem?_append_left (by omega),List.getElem?_take,if_pos g1]at hv hx
    refine mv 0 j (hel j v x hv hx) (fun b q hb=> ?_)
    unfold Ayo
    rw[if_neg (hne b _ _ q hb).1,hb]
    simp[g1]
   ·by_cases g2:j<i*2+2
    ·rw[List.append_assoc,List.getElem?_append_right (by omega),List.getElem?_append_left (by omega)]at hv hx
     rw[hlen1]at hv
     rw[hlen2]at hx
     refine mv 1 (j-i*2) (hel2 _ v x hv hx) (fun b q hb=> ?_)
     unfold Ayo
     rw[if_neg (hne b _ _ q hb).1,hb]
     simp;omega
    ·rw[List.append_assoc,List.getElem?_append_right (by omega),List.getElem?_append_right (by omega),List.getElem?_drop]at hv hx
     rw[hlen1,hds]at hv
     rw[hlen2,hw1,hds]at hx
     have e:i*2+(j-i*2-2)=j-2:=by omega
     rw[e]at hv hx
     refine mv 0 (j-2) (hel _ v x hv hx) (fun b q hb=> ?_)
     unfold Ayo
     rw[if_neg (hne b _ _ q hb).1,hb]
     have:¬j-2<i*2:=by omega
     simp[this];omega
 ·match j,hj with
  | 0,hj=>simp only[List.getElem?_cons_zero,Option.some.injEq]at hj;subst hj;trivial
  | 1,hj=>simp only[List.getElem?_cons_succ,List.getElem?_cons_zero,Option.some.injEq]at hj;subst hj;trivial
  | j+2,hj=>simp at hj
end Go.Eng
namespace Go.Eng.T
open Go.Lib Go.RowKit Go.Sort
theorem AHx {P:Program} {Ae:Nat->Option FuncId} {G:Gl} {g k:Nat} (hid:Ae g=some k) (hC:AK7 P k):AFY (Den P Ae G g):=by
 intro l i x hl hi
 have h:=AKe (G:=G) (g:=g) hid hC (cs:=l.flatMap Cc) (ds:=Cc x) (n:=l.length) (i:=i) hl hi (LF l) rfl
 have e1:l.flatMap Cc=(l.take i).flatMap Cc++(l.drop i).flatMap Cc:=by rw[<-List.flatMap_append,List.take_append_drop]
 have h1:((l.take i).flatMap Cc).length=i*2:=by rw[LF];simp;omega
 have e2:(l.flatMap Cc).take (i*2)=(l.take i).flatMap Cc:=by rw[e1,List.take_left' h1]
 have e3:(l.flatMap Cc).drop (i*2)=(l.drop i).flatMap Cc:=by rw[e1,List.drop_left' h1]
 rw[e2,e3]at h
 have e4:(l.take i++x::l.drop i).flatMap Cc=(l.take i).flatMap Cc++Cc x++(l.drop i).flatMap Cc:=by simp
 rw[e4]
 exact h
theorem AJn {P:Program} {Ae:Nat->Option FuncId} {G:Gl} {g k:Nat} {t:TypeId} (hid:Ae g=some k)
 (h0:∀w,Calls P k #[.slice none 0 0,.int .i64 0] w fun e w'=>e= .returned (.slice none 0 0)/\w' =w)
 (h1:∀(n:Nat) (w:Go.World),0<n->n<=16777216->Calls P k #[.slice none 0 0,.int .i64 n] w fun e w'=>e= .returned (.slice (some ⟨w.heap.size,0,none⟩) 0 (grownCap w n 0 t))/\
  w' =w.drew.alloc (.cells (([]:List Value).toArray++Builtin.zeroCells #[.int .i64 0] n++Builtin.zeroCells #[.int .i64 0] (grownCap w n 0 t-n)) t)):AJZ (Den P Ae G g):=by
 intro n hn
 refine Axj (given:=[]) (l':=[]) fun id hi F hF inv xs hx=> ?_
 rw[hid]at hi
 cases hi
 obtain⟨x0,r0,rfl,g1,g2⟩:=hx.Nf
 obtain⟨x1,r1,rfl,g3,g4⟩:=g2.Nf
 obtain rfl:=g4.N8
 cases g1
 cases g3
 by_cases hz:n=0
 ·subst hz
  refine(h0 F.w0).mono fun e w' ⟨he,hw⟩=>⟨none,0,he,⟨by simp,by omega⟩,.inl rfl,?_⟩
  rw[hw];exact Kept.refl F
 ·refine(h1 n F.w0 (by omega) hn).mono fun e w' ⟨he,hw⟩=> ?_
  have hgc:=AfX F.w0 n 0 t
  have hgb:=AeI F.w0 n 0 t (by omega)
  subst hw
  refine⟨_,_,he,⟨by simp,hgb⟩,.inr ⟨_,_,rfl,⟨AsZ [],_,t,alloc_at F.w0.drew _,?_,by simp,fun i hi=>by simp at hi⟩,fun h=>absurd h (by omega)⟩,?_⟩
  ·simp[Builtin.zeroCells];omega
  ·exact⟨by rw[Atm];simp,rfl,rfl,rfl,fun b hb _=>AuW F.w0.drew _ hb⟩
theorem ADY {F:Fr} {w':Go.World} (h1:w'.heap.size=F.w0.heap.size+1) (h2:w'.os=F.w0.os) (h3:w'.tape=F.w0.tape) (h4:w'.output=F.w0.output) (h5:∀b,b<F.w0.heap.size->w'.heap[b]? =F.w0.heap[b]?):Kept F w':=
 ⟨by omega,h2,h3,h4,fun b hb _=>h5 b hb⟩
theorem AHz {P:Program} {Ae:Nat->Option FuncId} {G:Gl} {g k:Nat} {t:TypeId} (hid:Ae g=some k)
 (h0:∀(b o cap:Nat) (w:Go.World),Calls P k #[.slice (some ⟨b,o,none⟩) 1 cap,.int .i64 0] w fun e w'=>e= .returned (.slice (some ⟨w.heap.size,0,none⟩) 0 0)/\w' =w.alloc (.cells #[] t))
 (h1:∀(b o cap:Nat) (v:Int) (w:Go.World),w.cell? ⟨b,o,none⟩=some (.int .i64 v)->Calls P k #[.slice (some ⟨b,o,none⟩) 1 cap,.int .i64 1] w fun e w'=>e= .returned (.slice (some ⟨w.heap.size,0,none⟩) 1 1)/\w' =(w.alloc (.cells #[.int .i64 0] t)).setCells w.heap.size 0 [.int .i64 v])
 (h2:∀(b o cap:Nat) (v:Int) (w:Go.World),w.cell? ⟨b,o,none⟩=some (.int .i64 v)->Calls P k #[.slice (some ⟨b,o,none⟩) 1 cap,.int .i64 2] w fun e w'=>e= .returned (.slice (some ⟨w.heap.size,0,none⟩) 2 2)/\
  w' =(((w.alloc (.cells #[.int .i64 0,.int .i64 0] t)).setCells w.heap.size 0 [.int .i64 v]).drew).setCells w.heap.size 1 [.int .i64 v]):AFL (Den P Ae G g):=by
 intro v n hn
 have hll:(List.replicate n v).length=n:=List.length_replicate
 have key:Den P Ae G g [.sl 1 1 1 (ints [v]),I n] [] (.sl 0 1 (List.replicate n v).length (ints (List.replicate n v))) []:=by
  refine Axj (given:=[]) (l':=List.replicate n v) fun id hi F hF inv xs hx=> ?_
  rw[hid]at hi
  cases hi
  obtain⟨x0,r0,rfl,g1,g2⟩:=hx.Nf
  obtain⟨x1,r1,rfl,g3,g4⟩:=g2.Nf
  obtain rfl:=g4.N8
  cases g3
  cases g1 with
  | rd _ g1=>
  obtain⟨a,cap,rfl,hle,hm⟩:=AFR (l:=[v]) g1
  rcases hm with hm | ⟨b,o,rfl,hb,hcell⟩
  ·cases hm
  have hc:=hcell 0 (by simp)
  simp only[Nat.add_zero,List.getD_cons_zero]at hc
  have off:∀(f:Array Value->Array Value) (W:Go.World) (ob:Obj),W.heap=(F.w0.alloc ob).heap->∀b,b<F.w0.heap.size->(mapBlock W F.w0.heap.size f).heap[b]? =F.w0.heap[b]? :=fun f W ob hW b hb=>by rw[Auh _ _ (by omega),hW];exact AuW F.w0 ob hb
  match n,hn with
  | 0,_=>
   refine(h0 b o cap F.w0).mono fun e w' ⟨he,hw⟩=>⟨_,0,he,⟨by simp,by omega⟩,.inl rfl,?_⟩
   rw[hw]
   exact ADY (Atm _ _) rfl rfl rfl (fun b hb=>AuW _ _ hb)
  | 1,_=>
   refine(h1 b o cap v F.w0 hc).mono fun e w' ⟨he,hw⟩=>⟨_,1,he,⟨by simp,by omega⟩,.inr ⟨_,_,rfl,?_,fun h=>absurd h (by omega)⟩,?_⟩
   ·rw[hw,AhJ]
    refine⟨AsZ _,Atj 0 [Value.int .i64 v] #[Value.int .i64 0],t,?_,?_,by simp,fun i hi=> ?_⟩
    ·rw[Auo,alloc_at];rfl
    ·rw[AkS];simp
    ·simp at hi;subst hi;rfl
   ·rw[hw,AhJ]
    exact ADY (by rw[AsE,Atm]) rfl rfl rfl (fun b hb=>off _ _ _ rfl b hb)
  | 2,_=>
   refine(h2 b o cap v F.w0 hc).mono fun e w' ⟨he,hw⟩=>⟨_,2,he,⟨by simp,by omega⟩,.inr ⟨_,_,rfl,?_,fun h=>absurd h (by omega)⟩,?_⟩
   ·rw[hw,AhJ,AhJ]
    refine⟨AsZ _,Atj 1 [Value.int .i64 v] (Atj 0 [Value.int .i64 v] #[Value.int .i64 0,Value.int .i64 0]),t,?_,?_,by simp,fun i hi=> ?_⟩
    ·rw[Auo]
     simp only[World.drew]
     rw[Auo,alloc_at];rfl
    ·rw[AkS,AkS];simp
    ·simp at hi
     match i,hi with
     | 0,_=>rfl
     | 1,_=>rfl
   ·rw[hw,AhJ,AhJ]
    refine ADY ?_ rfl rfl rfl (fun b hb=> ?_)
    ·rw[AsE];simp only[World.drew];rw[AsE,Atm]
    ·rw[Auh _ _ (by omega)]
     simp only[World.drew]
     exact off _ _ _ rfl b hb
 rw[hll]at key
 exact key
end Go.Eng.T
namespace Go.Eng.T
open Go.Lib Go.RowKit
theorem AmX {P:Program} {Ae:Nat->Option FuncId} {G:Gl} {g k b:Nat} {W:Go.World} (hid:Ae g=some k) (hg:P.globalNamed "internal/strconv.uint64pow10"=some b) (hb:G b) (hW:G.is b=W.heap[b]?)
 (ht:TabIs P W "internal/strconv.uint64pow10" .u64 pow10Tab)
 (hc:∀n:Int, -9223372036854775808<=n->n<=9223372036854775807->∀w:Go.World,TabIs P w "internal/strconv.uint64pow10" .u64 pow10Tab->Calls P k #[.int .i64 n] w fun e w'=>e= .returned (.string ⟨(itoa n).toArray⟩)/\∃j os,w' =Sort.grow (w.drewN j) os):
 EB (Den P Ae G g):=by
 intro n hn
 refine AgE (v:= .string (Ww (itoa n))) rfl (fun a ha=> ?_) ?_
 ·simp only[List.mem_singleton]at ha;subst ha;trivial
 intro id hi w hw xs hx
 rw[hid]at hi
 cases hi
 cases hx with
 | sc h=>
  cases h
  refine(hc n hn.1 hn.2 w (AnP hg ht ?_)).mono fun e w' ⟨he,j,os,hw'⟩=>⟨he,?_⟩
  ·rw[(hw b hb).2,hW]
  ·rw[hw'];exact below_grow
theorem AnU {P:Program} {Ae:Nat->Option FuncId} {G:Gl} {g k:Nat} (hid:Ae g=some k)
 (h0:∀(a:Option Addr) (c:Nat) (sep:ByteArray) (w:Go.World),Calls P k #[.slice a 0 c,.string sep] w fun e w'=>e= .returned (.string ⟨#[]⟩)/\w' =w)
 (hc:∀(bk o c:Nat) (xs:List ByteArray) (sep:ByteArray) (w:Go.World),(∀(j:Nat) x,xs[j]? =some x->w.cell? ⟨bk,o+j,none⟩=some (.string x))->bk<w.heap.size->xs.length<=140737488355328->xs.length<=c->(join (xs.map (·.data.toList)) sep.data.toList).length<=140737488355328->
  Calls P k #[.slice (some ⟨bk,o,none⟩) xs.length c,.string sep] w fun e w'=>e= .returned (.string ⟨(join (xs.map (·.data.toList)) sep.data.toList).toArray⟩)/\Below w.heap.size w w'):
 Ane (Den P Ae G g):=by
 intro ls sep hl hj
 refine AgE (v:= .string (Ww (join ls sep))) rfl (fun a ha=> ?_) ?_
 ·simp only[List.mem_cons,List.not_mem_nil,or_false]at ha
  rcases ha with rfl | rfl<;>trivial
 intro id hi w hw xs hx
 rw[hid]at hi
 cases hi
 cases hx with
 | sl h1 h2=>
  cases h2 with
  | sc h3=>
   cases h3
   cases h1 with
   | @sl _ _ _ _ a cap vs hle hwd hvl hm hcs=>
    have eb:∀l:List UInt8,(Ww l).data.toList=l:=fun l=>rfl
    have em:(ls.map Ww).map (·.data.toList)=ls:=by rw[List.map_map];exact(List.map_congr_left fun l _=>eb l).trans (List.map_id ls)
    have es:(Ww sep).data.toList=sep:=eb sep
    rcases hm with hm | ⟨b,o,rfl,hbk,hr⟩
    ·have:ls=[]:=by
      cases ls with
      | nil=>rfl
      | cons x r=>simp[strs]at hm
     subst this
     refine(h0 a cap (Ww sep) w).mono fun e w' ⟨he,hw'⟩=>⟨?_,by rw[hw'];exact Below.refl _ _⟩
     rw[he,join_nil];rfl
    ·have hvlen:vs.length=ls.length:=by rw[hvl];simp
     have:=hc b o cap (ls.map Ww) (Ww sep) w (fun j x hx=> ?_) hbk (by simp;omega) (by simpa using hle) (by rw[em,es];exact hj)
     ·rw[em,es]at this
      simp only[List.length_map]at this
      exact this
     ·simp only[List.getElem?_map,Option.map_eq_some_iff]at hx
      obtain⟨l,hl',rfl⟩:=hx
      have hj':j<ls.length:=by
       by_cases h:j<ls.length
       ·exact h
       ·rw[List.getElem?_eq_none (by omega)]at hl';cases hl'
      rw[hr.2 j (by omega)]
      have hv:vs[j]? =some vs[j]:=by simp
      rw[hv]
      have hrd:=hcs j (Sb l) vs[j] (by simp[strs,hl']) hv
      generalize vs[j]=y at hrd⊢
      cases hrd with
      | sc _=>rfl
end Go.Eng.T
namespace Go.Eng
open Go.Lib Go.RowKit
theorem AJu {P:Program} {Ae:Nat->Option FuncId} {G:Gl} {g:Nat} {args:List V} {v1 v2:Value} (hv1:v1.oneCell' =true) (hv2:v2.oneCell' =true) (hp':∀a,a∈args->Ah4 a)
 (h:∀id,Ae g=some id->∀w:World,(∀b,G b->b<w.heap.size/\w.heap[b]? =G.is b)->∀xs,TP Ae w args xs->Calls P id xs.toArray w fun e w'=>e= .returned (.tuple #[v1,v2])/\Below w.heap.size w w'):Den P Ae G g args [] (.tup [.sc v1,.sc v2]) []:=by
 intro id hid F hF hG hb ht hn inv xs hx
 have hr:=Adt (F:=F) rfl hp' hx
 rw[hF]at hr
 refine(h id hid F.w0 (fun b hb=> ?_) xs hr).mono fun e w' ⟨he,hw⟩=> ?_
 ·have:=inv.glob b (by rw[hG];exact hb)
  exact⟨this.1,by rw[<-hG];exact this.2.2⟩
 ·subst he
  refine⟨F.own0,⟨hw.size,hw.os,hw.tape,hw.output,fun b hb _=>hw.block b hb,fun b p hb=>⟨Nat.lt_of_lt_of_le (inv.ownb b p hb).1 hw.size,fun _=> ?_⟩,?_,hn.symm,fun i o hi=> ?_⟩⟩
  ·rw[hb];simp
  ·refine .tup (vs:=[v1,v2]) rfl (fun i v x h1 h2=> ?_)
   match i,h1,h2 with
   | 0,h1,h2=>simp at h1 h2;subst h1 h2;exact .sc hv1
   | 1,h1,h2=>simp at h1 h2;subst h1 h2;exact .sc hv2
   | i+2,h1,_=>simp at h1
  ·simp at hi
theorem AJx {P:Program} {Ae:Nat->Option FuncId} {G:Gl} {g k:Nat} (hid:Ae g=some k)
 (hc:∀(l:List UInt8) (w:World),(∀b,G b->b<w.heap.size/\w.heap[b]? =G.is b)->l.length<=4194304->
  Calls P k #[.string (T.Ww l)] w fun e w'=>e= .returned (.tuple #[.int .i64 (T.Ave l),.bool (T.AsY l)])/\Below w.heap.size w w'):T.ABY (Den P Ae G g):=by
 intro l hl
 refine AJu (v1:= .int .i64 (T.Ave l)) (v2:= .bool (T.AsY l)) rfl rfl (fun a ha=> ?_) ?_
 ·simp only[List.mem_singleton]at ha;subst ha;trivial
 intro id hi w hw xs hx
 rw[hid]at hi
 cases hi
 cases hx with
 | sc h=>cases h;exact hc l w hw hl
theorem AAP {P:Program} {Ae:Nat->Option FuncId} {G:Gl} {g id:Nat} (hid:Ae g=some id) {vs:List Value} {v:Value} (h:Den P Ae G g (vs.map V.sc) [] (.sc v) []) (hv:∀x,x∈vs->x.oneCell' =true)
 (w:World) (hw:∀b,G b->b<w.heap.size/\w.heap[b]? =G.is b):Calls P id vs.toArray w fun e w'=>e= .returned v/\Below w.heap.size w w':=by
 have hpw:Pw (VR (VB Ae G w) (VB Ae G w).β0 (VB Ae G w).own0 (hp []) w) (vs.map V.sc) vs:=by
  have h0:∀l:List Value,(∀x,x∈l->x.oneCell' =true)->Pw (VR (VB Ae G w) (VB Ae G w).β0 (VB Ae G w).own0 (hp []) w) (l.map V.sc) l:=by
   intro l
   induction l with
   | nil=>intro _;exact .nil
   | cons y r ih=>intro hl;exact .cons (.sc (hl y (by simp))) (ih fun x hx=>hl x (by simp[hx]))
  exact h0 vs hv
 refine(h id hid (VB Ae G w) rfl rfl rfl rfl rfl (AoG hw) vs hpw).mono fun e w' hq=> ?_
 cases e with
 | returned x=>
  obtain⟨own',po⟩:=hq
  refine⟨?_,⟨po.os,po.tape,po.output,po.size,fun b hb=>po.keep b hb rfl⟩⟩
  have:=po.res
  cases this with
  | sc _=>rfl
 | panicked _=>exact hq.elim
 | outgrown=>exact hq.elim
theorem AHV {G:Gl} {w w':World} (hw:∀b,G b->b<w.heap.size/\w.heap[b]? =G.is b) (h:Below w.heap.size w w'):∀b,G b->b<w'.heap.size/\w'.heap[b]? =G.is b:=fun b hb=>
 ⟨Nat.lt_of_lt_of_le (hw b hb).1 h.size,by rw[h.block b (hw b hb).1];exact(hw b hb).2⟩
end Go.Eng
