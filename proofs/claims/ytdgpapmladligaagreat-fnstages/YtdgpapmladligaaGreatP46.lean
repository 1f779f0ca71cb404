/- Own work: part 46 of the proof of FnStages. -/
import Derived.Test.YtdgpapmladligaaGreatP45
set_option linter.unusedSimpArgs false
set_option linter.unusedVariables false
namespace Go.Eng.T
set_option maxRecDepth 20000
set_option maxHeartbeats 1000000
theorem AgS {l:List Ext} {k:Nat} (h:k≤l.length):part (GK (l.flatMap CW) 2 0 k) 2 k (l.length-k)=(l.drop k).flatMap CW:=by
 have h0:(l.flatMap CW).length=l.length*2:=Rz l
 have e1:l.flatMap CW=(l.take k).flatMap CW++(l.drop k).flatMap CW:=by rw[←List.flatMap_append,List.take_append_drop]
 have h1:((l.take k).flatMap CW).length=k*2:=by rw[Rz];simp;omega
 have h2:((l.drop k).flatMap CW).length=(l.length-k)*2:=by rw[Rz];simp
 unfold part GK
 rw[e1]
 simp only[Nat.zero_mul,List.take_zero,List.nil_append,Nat.zero_add]
 rw[List.drop_left' h1,List.drop_left' (by simp),List.take_of_length_le (by omega)]
theorem Aoi {l:List Ext} {k:Nat} (h:k≤l.length):part (l.flatMap CW) 2 0 k=(l.take k).flatMap CW:=by
 have e1:l.flatMap CW=(l.take k).flatMap CW++(l.drop k).flatMap CW:=by rw[←List.flatMap_append,List.take_append_drop]
 have h1:((l.take k).flatMap CW).length=k*2:=by rw[Rz];simp;omega
 unfold part
 rw[e1,Nat.zero_mul,List.drop_zero,List.take_left' h1]
def AhP (seed:Int):List Int:=List.replicate (pick seed 2 3).toNat (pick seed 3 256)
def AkQ (l:List Ext) (seed:Int):Nat:=(pick seed 1 (l.length+1)).toNat
def EN (l:List Ext) (seed:Int):List Ext:=
 if Ez l&&(decide (l.length<6)&& !decide (NZ seed∈Bl l))then l.take (AkQ l seed)++⟨NZ seed,AhP seed⟩::l.drop (AkQ l seed)else l
theorem AtX (l:List Ext) (seed:Int) (h:l.length≤6):AkQ l seed≤l.length:=by
 have:=Wp seed 1 (n:=l.length+1) ⟨by omega,by omega⟩
 unfold AkQ;omega
theorem AhZ (seed:Int):(AhP seed).length≤2:=by
 have:=Wp seed 2 (n:=3) ⟨by omega,by omega⟩
 unfold AhP;simp;omega
abbrev PD (R:Rel):Prop:=∀(l:List Ext) (seed:Int),OI l→R [.sl 1 2 l.length (l.flatMap CW),I seed] [] (.sl 0 2 (EN l seed).length ((EN l seed).flatMap CW)) []
theorem Agc (D:Dn) (hG:Pb (D Zy)) (hC:U0 (D SX)) (hA:KO (D G6)) (hX:Ua (D M4)) (hP:Aia (D Vh)):PD (Body D KU):=by
 intro l seed hl
 have hll:=hl.1
 simp -implicitDefEqProofs
 refine Aa (hG seed) ?_
 obtain⟨t,ht⟩:∃t,t=NZ seed:=⟨_,rfl⟩
 rw[←ht]
 simp -implicitDefEqProofs
 refine Aa (hC l hl) ?_
 simp -implicitDefEqProofs
 refine Aa (hA l hl) ?_
 by_cases h1:Ez l=true
 rotate_left
 ·simp -implicitDefEqProofs [h1,EN]
 by_cases h2:l.length<6
 rotate_left
 ·have h2':(6:Int)≤l.length:=by omega
  simp -implicitDefEqProofs [h1,h2,h2',EN]
 have h2':¬(6:Int)≤l.length:=by omega
 simp -implicitDefEqProofs [h1,h2']
 refine Aa (hX l t (by unfold maxLen;omega)) ?_
 by_cases h3:t∈Bl l
 ·have h3':0≤L6 l t:=by
   by_cases h:L6 l t<0
   ·rw[LU]at h;exact absurd h3 h
   ·omega
  simp -implicitDefEqProofs [h1,h2,h3',h3,EN,←ht]
 have h3':¬0≤L6 l t:=by
  have:L6 l t<0:=by rw[LU];exact h3
  omega
 have e:EN l seed=l.take (AkQ l seed)++⟨t,AhP seed⟩::l.drop (AkQ l seed):=by
  unfold EN
  rw[if_pos]
  ·rw[ht]
  ·simp[h1,h2,←ht,h3]
 have hgp:=AtX l seed (by omega)
 have hgb:=AhZ seed
 rw[e]
 simp -implicitDefEqProofs [h3']
 refine Aa (hP seed 2 3) ?_
 have hp2:=Wp seed 2 (n:=3) ⟨by omega,by omega⟩
 have eb:AhP seed=List.replicate (pick seed 2 3).toNat (pick seed 3 256):=rfl
 obtain⟨n,hn⟩:∃n:Nat,pick seed 2 3=n:=⟨(pick seed 2 3).toNat,by omega⟩
 rw[hn]at eb hp2⊢
 rw[Int.toNat_natCast]at eb
 rw[eb]at hgb⊢
 generalize hv:pick seed 3 256=v at *
 simp -implicitDefEqProofs
 refine Af (fun k s=>∃j o2 o3,j+k=n∧s=⟨[.sl 1 2 l.length (l.flatMap CW),I seed,.undef,.undef,.arr 0,.ptr 1 0,I k,.undef,.undef,.undef],[.arr 2 0 l.length (l.flatMap CW),.var [I t,.arr 9],o2,o3,.free,.free,.free,.free,.free,.arr 1 0 j (ints (List.replicate j v))]⟩) ?_ (n) _ ⟨0,.free,.free,by simp,by simp[ints]⟩
 intro k s ⟨j,o2,o3,hj,hs⟩
 subst hs
 by_cases hjn:j<n
 ·have hk0:0<k:=by omega
  have hb1:(j+1)*8≤1099511627776:=by omega
  have hwk:IntKind.i64.wrap ((k:Int)-1)=(k-1:Nat):=by rw[Ab (by omega) (by omega)];omega
  simp -implicitDefEqProofs [hk0]
  refine Aa (hP seed 3 256) ?_
  rw[hv]
  simp -implicitDefEqProofs [hb1]
  exact⟨k-1,by omega,j+1,by omega,by simp[hwk],by simp[ints,List.replicate_succ']⟩
 have hk0:k=0:=by omega
 obtain rfl:j=n:=by omega
 subst hk0
 have hwl:IntKind.i64.wrap ((l.length:Int)+1)=(l.length:Int)+1:=Ab (by omega) (by omega)
 simp -implicitDefEqProofs [hwl]
 refine Aa (hP seed 1 (l.length+1)) ?_
 have hp1:=Wp seed 1 (n:=(l.length:Int)+1) ⟨by omega,by omega⟩
 have eg:AkQ l seed=(pick seed 1 (l.length+1)).toNat:=rfl
 generalize pick seed 1 (l.length+1)=k1 at hp1 eg
 obtain⟨kk,rfl⟩:∃kk:Nat,k1=kk:=⟨k1.toNat,by omega⟩
 rw[Int.toNat_natCast]at eg
 rw[eg]at hgp⊢
 have hk1:(kk:Int)≤l.length:=by omega
 have hb2:kk*32≤1099511627776:=by omega
 have hb3:(kk+1)*32≤1099511627776:=by omega
 have hb4:(kk+1+(l.length-kk))*32≤1099511627776:=by omega
 simp -implicitDefEqProofs [hk1,hgp,hb2,hb3,hb4,AgS hgp,Aoi hgp]
 all_goals omega
theorem AjB {l:List Ext} (hl:OI l) (h6:l.length≤4194303) (seed:Int):OI (EN l seed):=by
 unfold EN
 split
 ·refine⟨?_,?_⟩
  ·simp;omega
  ·intro x hx
   rcases List.mem_append.1 hx with h | h
   ·exact hl.2 x (List.mem_of_mem_take h)
   ·rcases List.mem_cons.1 h with h | h
    ·subst h;have:=AhZ seed;dsimp only;omega
    ·exact hl.2 x (List.mem_of_mem_drop h)
 ·exact hl
def bare (ts:List Int):List Ext:=ts.map fun t=>⟨t,[]⟩
theorem NW (ts:List Int):(bare ts).length=ts.length:=by simp[bare]
theorem AhR {ts:List Int} (h:ts.length≤4194304):OI (bare ts):=⟨by rw[NW];exact h,fun x hx=>by
 obtain⟨t,_,rfl⟩:=List.mem_map.1 hx;simp⟩
theorem Amr {ts:List Int} {j:Nat} (h:j<ts.length):(bare (ts.take j)).flatMap CW++ [.sc (.int .i64 ts[j]),.sl 0 1 0 []]=(bare (ts.take (j+1))).flatMap CW:=by
 have e:ts.take (j+1)=ts.take j++ [ts[j]]:=by simp
 rw[e]
 unfold bare
 rw[List.map_append,List.flatMap_append]
 rfl
def Ko (e:Ak) (seed:Int):Hello:=if Aq e=true then⟨e.versions,EN (bare e.tags) seed⟩else Bd
abbrev Wu (R:Rel):Prop:=∀(e:Ak) (seed:Int),Ad e≤4194304→R [arg (Ac e),I seed] [] (.agg (Cz (Ko e seed))) []
theorem Uz {e:Ak} (h:Aq e=true):e.tags.length≤5:=by
 unfold Aq at h
 simp only[Bool.and_eq_true,decide_eq_true_eq]at h
 exact h.2.1
theorem AkX {e:Ak} (hsz:Ad e≤4194304) (seed:Int):hB (Ko e seed):=by
 unfold Ko
 split
 ·rename_i h
  have:=Uz h
  exact⟨Ir hsz,AjB (AhR (by omega)) (by rw[NW];omega) seed⟩
 ·exact AbC
theorem Akl (D:Dn) (hE:EJ (D JV)) (hG:PD (D Zf)):Wu (Body D Np):=by
 intro e seed hsz
 have hl:=Ae2 hsz
 have hv:=Ir hsz
 simp -implicitDefEqProofs
 refine Aa (hE e hl) ?_
 by_cases h1:Aq e=true
 rotate_left
 ·simp -implicitDefEqProofs [h1,Ko,Bd]
 have h5:=Uz h1
 have he:Ko e seed=⟨e.versions,EN (bare e.tags) seed⟩:=by unfold Ko;rw[if_pos h1]
 rw[he]
 have hb2:e.versions.length*8≤1099511627776:=by omega
 simp -implicitDefEqProofs [h1]
 refine Af (fun k s=>∃j o3 o4,j+k=e.tags.length∧s=⟨[.undef,I seed,.ptr 0 0,.ptr 1 0,.arr 8,I j,.undef,.undef],[.var ((Ac e).map (AA 1)),.var [.nil 1,.nil 2],.free,o3,o4,.free,.free,.free,.arr 2 0 j ((bare (e.tags.take j)).flatMap CW)]⟩) ?_ (e.tags.length) _ ⟨0,.free,.free,by simp,by simp[bare]⟩
 intro k s ⟨j,o3,o4,hj,hs⟩
 subst hs
 by_cases hjn:j<e.tags.length
 ·have hw:IntKind.i64.wrap ((j:Int)+1)=(j+1:Nat):=by rw[Ab (by omega) (by omega)];simp
  have hst:=Amr hjn
  have hb1:(j+1)*32≤1099511627776:=by omega
  have hlen:(bare (e.tags.take j)).length=j:=by rw[NW];simp;omega
  have hlen2:(bare (e.tags.take (j+1))).length=j+1:=by rw[NW];simp;omega
  simp -implicitDefEqProofs [hjn,hb1]
  exact⟨k-1,by omega,j+1,by omega,by simp[hw],by rw[←hst];exact⟨rfl,rfl⟩⟩
 have e2:e.tags.take j=e.tags:=List.take_of_length_le (by omega)
 obtain rfl:j=e.tags.length:=by omega
 simp -implicitDefEqProofs [hjn,e2,hb2]
 have hq:=hG (bare e.tags) seed (AhR (by omega))
 rw[NW]at hq
 refine Aa (hq) ?_
 simp -implicitDefEqProofs
def KI:Dm:=⟨Gs,0,[]⟩
def Lr (e:Ak) (vs tags:List Int) (key seed:Int):Dm:=if Aq e=true then Aoz (Ko e seed) e.path vs tags key else KI
abbrev Qv (R:Rel):Prop:=∀(e:Ak) (vs tags:List Int) (key seed:Int),Ad e≤4194304→vs.length≤4194304→tags.length≤4194304→
 R [arg (Ac e),.sl 1 1 vs.length (ints vs),.sl 1 1 tags.length (ints tags),I key,I seed] [] (.agg (Am (Lr e vs tags key seed))) []
theorem AkU (D:Dn) (hE:EJ (D JV)) (hH:Wu (D Ac4)) (hD:Ak5 (D AjY)):Qv (Body D Ns):=by
 intro e vs tags key seed hsz hv ht
 have hl:=Ae2 hsz
 simp -implicitDefEqProofs
 refine Aa (hE e hl) ?_
 by_cases h1:Aq e=true
 rotate_left
 ·simp -implicitDefEqProofs [h1,Lr,KI,Gs]
 simp -implicitDefEqProofs [h1]
 refine Aa (hH e seed hsz) ?_
 have hh:=AkX hsz seed
 have he:Lr e vs tags key seed=Aoz (Ko e seed) e.path vs tags key:=by unfold Lr;rw[if_pos h1]
 rw[he]
 generalize Ko e seed=h at hh
 simp -implicitDefEqProofs
 refine Aa (hD h e.path vs tags key hh hl.2.2 hv ht) ?_
 simp -implicitDefEqProofs
def clip (n:Int):Int:=max (-100000) (min 100000 n)
abbrev AlW (R:Rel):Prop:=∀n:Int,R [I n] [] (I (clip n)) []
theorem Ane (D:Dn) (hM:AlS (D AmI)) (hN:Amg (D Aoc)):AlW (Body D NI):=by
 intro n
 simp -implicitDefEqProofs
 refine Aa (hN _ _) ?_
 simp -implicitDefEqProofs
 refine Aa (hM _ _) ?_
 simp -implicitDefEqProofs [clip]
def TH (w:World) (i:Int):Dm:=if PY i 0 ((w.ends.length:Int)-1)then(match w.ends[i.toNat]? with | some e=>Lr e w.server w.tags w.key (16*clip w.now+i) | none=>KI)else KI
abbrev Z8 (R:Rel):Prop:=∀(w:World) (i:Int),Ap w≤4194304→R [arg (CO w),I i] [] (.agg (Am (TH w i))) []
theorem At5 (n:Int):-100000≤clip n∧clip n≤100000:=by unfold clip;omega
theorem Anz (D:Dn) (hI:Sk (D CQ)) (hC:AlW (D AcW)) (hB:Qv (D Ta)):Z8 (Body D Ps):=by
 intro w i hsz
 have he:=Es hsz
 have hw:IntKind.i64.wrap ((w.ends.length:Int)-1)=(w.ends.length:Int)-1:=Ab (by omega) (by omega)
 simp -implicitDefEqProofs [hw]
 refine Aa (hI _ _ _) ?_
 by_cases h1:PY i 0 ((w.ends.length:Int)-1)
 rotate_left
 ·simp -implicitDefEqProofs [h1,TH,KI,Gs]
 obtain⟨n,rfl⟩:∃n:Nat,i=n:=⟨i.toNat,by have:=h1.1;omega⟩
 have hn:n<w.ends.length:=by have:=h1.2;omega
 have hb:=Fb hsz
 have hes:=Gz hsz hn
 have e:TH w n=Lr w.ends[n] w.server w.tags w.key (16*clip w.now+n):=by unfold TH;rw[if_pos h1];simp[hn]
 rw[e]
 simp -implicitDefEqProofs [h1,hn]
 refine Aa (hC w.now) ?_
 have hcl:=At5 w.now
 generalize clip w.now=c at hcl
 have hw1:IntKind.i64.wrap (16*c)=16*c:=Ab (by omega) (by omega)
 have hw2:IntKind.i64.wrap (16*c+n)=16*c+n:=Ab (by omega) (by omega)
 simp -implicitDefEqProofs [hw1,hw2]
 refine Aa (hB w.ends[n] w.server w.tags w.key _ hes hb.1 hb.2.1) ?_
 simp -implicitDefEqProofs
end Go.Eng.T
