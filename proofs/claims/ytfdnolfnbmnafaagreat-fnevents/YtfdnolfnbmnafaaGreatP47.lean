/- Own work: part 47 of the proof of FnEvents. -/
import Derived.Test.YtfdnolfnbmnafaaGreatP46
set_option linter.unusedSimpArgs false
set_option linter.unusedVariables false
namespace Go.Eng.T
set_option maxRecDepth 20000
set_option maxHeartbeats 1000000
theorem Aym {l:List Ext} {k:Nat} (h:k≤l.length):part (Ml (l.flatMap Ce) 2 0 k) 2 k (l.length-k)=(l.drop k).flatMap Ce:=by
 have h0:(l.flatMap Ce).length=l.length*2:=Uq l
 have e1:l.flatMap Ce=(l.take k).flatMap Ce++(l.drop k).flatMap Ce:=by rw[←List.flatMap_append,List.take_append_drop]
 have h1:((l.take k).flatMap Ce).length=k*2:=by rw[Uq];simp;omega
 have h2:((l.drop k).flatMap Ce).length=(l.length-k)*2:=by rw[Uq];simp
 unfold part Ml
 rw[e1]
 simp only[Nat.zero_mul,List.take_zero,List.nil_append,Nat.zero_add]
 rw[List.drop_left' h1,List.drop_left' (by simp),List.take_of_length_le (by omega)]
theorem AEh {l:List Ext} {k:Nat} (h:k≤l.length):part (l.flatMap Ce) 2 0 k=(l.take k).flatMap Ce:=by
 have e1:l.flatMap Ce=(l.take k).flatMap Ce++(l.drop k).flatMap Ce:=by rw[←List.flatMap_append,List.take_append_drop]
 have h1:((l.take k).flatMap Ce).length=k*2:=by rw[Uq];simp;omega
 unfold part
 rw[e1,Nat.zero_mul,List.drop_zero,List.take_left' h1]
def Ap0 (seed:Int):List Int:=List.replicate (pick seed 2 3).toNat (pick seed 3 256)
def AtW (l:List Ext) (seed:Int):Nat:=(pick seed 1 (l.length+1)).toNat
def En (l:List Ext) (seed:Int):List Ext:=
 if FU l&&(decide (l.length<6)&& !decide (Qf seed∈Av l))then l.take (AtW l seed)++⟨Qf seed,Ap0 seed⟩::l.drop (AtW l seed)else l
theorem AC9 (l:List Ext) (seed:Int) (h:l.length≤6):AtW l seed≤l.length:=by
 have:=V4 seed 1 (n:=l.length+1) ⟨by omega,by omega⟩
 unfold AtW;omega
theorem Azc (seed:Int):(Ap0 seed).length≤2:=by
 have:=V4 seed 2 (n:=3) ⟨by omega,by omega⟩
 unfold Ap0;simp;omega
abbrev LQ (R:Rel):Prop:=∀(l:List Ext) (seed:Int),WQ l→R [.sl 1 2 l.length (l.flatMap Ce),I seed] [] (.sl 0 2 (En l seed).length ((En l seed).flatMap Ce)) []
theorem AvU (D:Dn) (hG:Ld (D AlI)) (hC:Q8 (D AcT)) (hA:Ia (D MU)) (hX:Tf (D VS)) (hP:Ac5 (D Ahy)):LQ (Body D Sn):=by
 intro l seed hl
 have hll:=hl.1
 simp -implicitDefEqProofs
 refine Aa (hG seed) ?_
 obtain⟨t,ht⟩:∃t,t=Qf seed:=⟨_,rfl⟩
 rw[←ht]
 simp -implicitDefEqProofs
 refine Aa (hC l hl) ?_
 simp -implicitDefEqProofs
 refine Aa (hA l hl) ?_
 by_cases h1:FU l=true
 rotate_left
 ·simp -implicitDefEqProofs [h1,En]
 by_cases h2:l.length<6
 rotate_left
 ·have h2':(6:Int)≤l.length:=by omega
  simp -implicitDefEqProofs [h1,h2,h2',En]
 have h2':¬(6:Int)≤l.length:=by omega
 simp -implicitDefEqProofs [h1,h2']
 refine Aa (hX l t (by unfold maxLen;omega)) ?_
 by_cases h3:t∈Av l
 ·have h3':0≤LJ l t:=by
   by_cases h:LJ l t<0
   ·rw[N7]at h;exact absurd h3 h
   ·omega
  simp -implicitDefEqProofs [h1,h2,h3',h3,En,←ht]
 have h3':¬0≤LJ l t:=by
  have:LJ l t<0:=by rw[N7];exact h3
  omega
 have e:En l seed=l.take (AtW l seed)++⟨t,Ap0 seed⟩::l.drop (AtW l seed):=by
  unfold En
  rw[if_pos]
  ·rw[ht]
  ·simp[h1,h2,←ht,h3]
 have hgp:=AC9 l seed (by omega)
 have hgb:=Azc seed
 rw[e]
 simp -implicitDefEqProofs [h3']
 refine Aa (hP seed 2 3) ?_
 have hp2:=V4 seed 2 (n:=3) ⟨by omega,by omega⟩
 have eb:Ap0 seed=List.replicate (pick seed 2 3).toNat (pick seed 3 256):=rfl
 obtain⟨n,hn⟩:∃n:Nat,pick seed 2 3=n:=⟨(pick seed 2 3).toNat,by omega⟩
 rw[hn]at eb hp2⊢
 rw[Int.toNat_natCast]at eb
 rw[eb]at hgb⊢
 generalize hv:pick seed 3 256=v at *
 simp -implicitDefEqProofs
 refine Af (fun k s=>∃j o2 o3,j+k=n∧s=⟨[.sl 1 2 l.length (l.flatMap Ce),I seed,.undef,.undef,.arr 0,.ptr 1 0,I k,.undef,.undef,.undef],[.arr 2 0 l.length (l.flatMap Ce),.var [I t,.arr 9],o2,o3,.free,.free,.free,.free,.free,.arr 1 0 j (ints (List.replicate j v))]⟩) ?_ (n) _ ⟨0,.free,.free,by simp,by simp[ints]⟩
 intro k s ⟨j,o2,o3,hj,hs⟩
 subst hs
 by_cases hjn:j<n
 ·have hk0:0<k:=by omega
  have hb1:(j+1)*8≤1099511627776:=by omega
  have hwk:IntKind.i64.wrap ((k:Int)-1)=(k-1:Nat):=by rw[Ab (by omega) (by omega)];omega
  simp -implicitDefEqProofs [hk0]
  refine Aa (hP seed 3 256) ?_
  rw[hv]
  simp -implicitDefEqProofs [hb1]
  exact⟨k-1,by omega,j+1,by omega,by simp[hwk],by simp[ints,List.replicate_succ']⟩
 have hk0:k=0:=by omega
 obtain rfl:j=n:=by omega
 subst hk0
 have hwl:IntKind.i64.wrap ((l.length:Int)+1)=(l.length:Int)+1:=Ab (by omega) (by omega)
 simp -implicitDefEqProofs [hwl]
 refine Aa (hP seed 1 (l.length+1)) ?_
 have hp1:=V4 seed 1 (n:=(l.length:Int)+1) ⟨by omega,by omega⟩
 have eg:AtW l seed=(pick seed 1 (l.length+1)).toNat:=rfl
 generalize pick seed 1 (l.length+1)=k1 at hp1 eg
 obtain⟨kk,rfl⟩:∃kk:Nat,k1=kk:=⟨k1.toNat,by omega⟩
 rw[Int.toNat_natCast]at eg
 rw[eg]at hgp⊢
 have hk1:(kk:Int)≤l.length:=by omega
 have hb2:kk*32≤1099511627776:=by omega
 have hb3:(kk+1)*32≤1099511627776:=by omega
 have hb4:(kk+1+(l.length-kk))*32≤1099511627776:=by omega
 simp -implicitDefEqProofs [hk1,hgp,hb2,hb3,hb4,Aym hgp,AEh hgp]
 all_goals omega
theorem ABY {l:List Ext} (hl:WQ l) (h6:l.length≤4194303) (seed:Int):WQ (En l seed):=by
 unfold En
 split
 ·refine⟨?_,?_⟩
  ·simp;omega
  ·intro x hx
   rcases List.mem_append.1 hx with h | h
   ·exact hl.2 x (List.mem_of_mem_take h)
   ·rcases List.mem_cons.1 h with h | h
    ·subst h;have:=Azc seed;dsimp only;omega
    ·exact hl.2 x (List.mem_of_mem_drop h)
 ·exact hl
def bare (ts:List Int):List Ext:=ts.map fun t=>⟨t,[]⟩
theorem Pt (ts:List Int):(bare ts).length=ts.length:=by simp[bare]
theorem Ao6 {ts:List Int} (h:ts.length≤4194304):WQ (bare ts):=⟨by rw[Pt];exact h,fun x hx=>by
 obtain⟨t,_,rfl⟩:=List.mem_map.1 hx;simp⟩
theorem At8 {ts:List Int} {j:Nat} (h:j<ts.length):(bare (ts.take j)).flatMap Ce++ [.sc (.int .i64 ts[j]),.sl 0 1 0 []]=(bare (ts.take (j+1))).flatMap Ce:=by
 have e:ts.take (j+1)=ts.take j++ [ts[j]]:=by simp
 rw[e]
 unfold bare
 rw[List.map_append,List.flatMap_append]
 rfl
def Jf (e:Az) (seed:Int):Hello:=if BH e=true then⟨e.versions,En (bare e.tags) seed⟩else Bg
abbrev RI (R:Rel):Prop:=∀(e:Az) (seed:Int),Ad e≤4194304→R [arg (Ag e),I seed] [] (.agg (DJ (Jf e seed))) []
theorem YE {e:Az} (h:BH e=true):e.tags.length≤5:=by
 unfold BH at h
 simp only[Bool.and_eq_true,decide_eq_true_eq]at h
 exact h.2.1
theorem Aq2 {e:Az} (hsz:Ad e≤4194304) (seed:Int):hB (Jf e seed):=by
 unfold Jf
 split
 ·rename_i h
  have:=YE h
  exact⟨Ajb hsz,ABY (Ao6 (by omega)) (by rw[Pt];omega) seed⟩
 ·exact Apj
theorem ABu (D:Dn) (hE:Iq (D X6)) (hG:LQ (D Al3)):RI (Body D Xi):=by
 intro e seed hsz
 have hl:=Axr hsz
 have hv:=Ajb hsz
 simp -implicitDefEqProofs
 refine Aa (hE e hl) ?_
 by_cases h1:BH e=true
 rotate_left
 ·simp -implicitDefEqProofs [h1,Jf,Bg]
 have h5:=YE h1
 have he:Jf e seed=⟨e.versions,En (bare e.tags) seed⟩:=by unfold Jf;rw[if_pos h1]
 rw[he]
 have hb2:e.versions.length*8≤1099511627776:=by omega
 simp -implicitDefEqProofs [h1]
 refine Af (fun k s=>∃j o3 o4,j+k=e.tags.length∧s=⟨[.undef,I seed,.ptr 0 0,.ptr 1 0,.arr 8,I j,.undef,.undef],[.var ((Ag e).map (Be 1)),.var [.nil 1,.nil 2],.free,o3,o4,.free,.free,.free,.arr 2 0 j ((bare (e.tags.take j)).flatMap Ce)]⟩) ?_ (e.tags.length) _ ⟨0,.free,.free,by simp,by simp[bare]⟩
 intro k s ⟨j,o3,o4,hj,hs⟩
 subst hs
 by_cases hjn:j<e.tags.length
 ·have hw:IntKind.i64.wrap ((j:Int)+1)=(j+1:Nat):=by rw[Ab (by omega) (by omega)];simp
  have hst:=At8 hjn
  have hb1:(j+1)*32≤1099511627776:=by omega
  have hlen:(bare (e.tags.take j)).length=j:=by rw[Pt];simp;omega
  have hlen2:(bare (e.tags.take (j+1))).length=j+1:=by rw[Pt];simp;omega
  simp -implicitDefEqProofs [hjn,hb1]
  exact⟨k-1,by omega,j+1,by omega,by simp[hw],by rw[←hst];exact⟨rfl,rfl⟩⟩
 have e2:e.tags.take j=e.tags:=List.take_of_length_le (by omega)
 obtain rfl:j=e.tags.length:=by omega
 simp -implicitDefEqProofs [hjn,e2,hb2]
 have hq:=hG (bare e.tags) seed (Ao6 (by omega))
 rw[Pt]at hq
 refine Aa (hq) ?_
 simp -implicitDefEqProofs
theorem ACn (D:Dn) (hE:Iq (D Xv)) (hG:LQ (D Ale)):RI (Body D WE):=by
 intro e seed hsz
 have hl:=Axr hsz
 have hv:=Ajb hsz
 simp -implicitDefEqProofs
 refine Aa (hE e hl) ?_
 by_cases h1:BH e=true
 rotate_left
 ·simp -implicitDefEqProofs [h1,Jf,Bg]
 have h5:=YE h1
 have he:Jf e seed=⟨e.versions,En (bare e.tags) seed⟩:=by unfold Jf;rw[if_pos h1]
 rw[he]
 have hb2:e.versions.length*8≤1099511627776:=by omega
 simp -implicitDefEqProofs [h1]
 refine Af (fun k s=>∃j o3 o4,j+k=e.tags.length∧s=⟨[.undef,I seed,.ptr 0 0,.ptr 1 0,.arr 8,.undef,.undef,.sl 1 1 e.tags.length (ints e.tags),I e.tags.length,I j,.undef],[.var ((Ag e).map (Be 1)),.var [.nil 1,.nil 2],.free,o3,o4,.free,.free,.free,.arr 2 0 j ((bare (e.tags.take j)).flatMap Ce)]⟩) ?_ (e.tags.length) _ ⟨0,.free,.free,by simp,by simp[bare]⟩
 intro k s ⟨j,o3,o4,hj,hs⟩
 subst hs
 by_cases hjn:j<e.tags.length
 ·have hw:IntKind.i64.wrap ((j:Int)+1)=(j+1:Nat):=by rw[Ab (by omega) (by omega)];simp
  have hst:=At8 hjn
  have hb1:(j+1)*32≤1099511627776:=by omega
  have hlen:(bare (e.tags.take j)).length=j:=by rw[Pt];simp;omega
  have hlen2:(bare (e.tags.take (j+1))).length=j+1:=by rw[Pt];simp;omega
  simp -implicitDefEqProofs [hjn,hb1]
  exact⟨k-1,by omega,j+1,by omega,by simp[hw],by rw[←hst];exact⟨rfl,rfl⟩⟩
 have e2:e.tags.take j=e.tags:=List.take_of_length_le (by omega)
 obtain rfl:j=e.tags.length:=by omega
 simp -implicitDefEqProofs [hjn,e2,hb2]
 have hq:=hG (bare e.tags) seed (Ao6 (by omega))
 rw[Pt]at hq
 refine Aa (hq) ?_
 simp -implicitDefEqProofs
def Pn:Cu:=⟨Ij,0,[]⟩
def M8 (e:Az) (vs tags:List Int) (key seed:Int):Cu:=if BH e=true then AzW (Jf e seed) e.path vs tags key else Pn
abbrev RB (R:Rel):Prop:=∀(e:Az) (vs tags:List Int) (key seed:Int),Ad e≤4194304→vs.length≤4194304→tags.length≤4194304→
 R [arg (Ag e),.sl 1 1 vs.length (ints vs),.sl 1 1 tags.length (ints tags),I key,I seed] [] (.agg (Ap (M8 e vs tags key seed))) []
theorem AA8 (D:Dn) (hE:Iq (D X6)) (hH:RI (D Ar0)) (hD:AkG (D AB9)):RB (Body D Wj):=by
 intro e vs tags key seed hsz hv ht
 have hl:=Axr hsz
 simp -implicitDefEqProofs
 refine Aa (hE e hl) ?_
 by_cases h1:BH e=true
 rotate_left
 ·simp -implicitDefEqProofs [h1,M8,Pn,Ij]
 simp -implicitDefEqProofs [h1]
 refine Aa (hH e seed hsz) ?_
 have hh:=Aq2 hsz seed
 have he:M8 e vs tags key seed=AzW (Jf e seed) e.path vs tags key:=by unfold M8;rw[if_pos h1]
 rw[he]
 generalize Jf e seed=h at hh
 simp -implicitDefEqProofs
 refine Aa (hD h e.path vs tags key hh hl.2.2 hv ht) ?_
 simp -implicitDefEqProofs
theorem AA5 (D:Dn) (hE:Iq (D Xv)) (hH:RI (D Atz)) (hD:AkG (D ABJ)):RB (Body D Wn):=by
 intro e vs tags key seed hsz hv ht
 have hl:=Axr hsz
 simp -implicitDefEqProofs
 refine Aa (hE e hl) ?_
 by_cases h1:BH e=true
 rotate_left
 ·simp -implicitDefEqProofs [h1,M8,Pn,Ij]
 simp -implicitDefEqProofs [h1]
 refine Aa (hH e seed hsz) ?_
 have hh:=Aq2 hsz seed
 have he:M8 e vs tags key seed=AzW (Jf e seed) e.path vs tags key:=by unfold M8;rw[if_pos h1]
 rw[he]
 generalize Jf e seed=h at hh
 simp -implicitDefEqProofs
 refine Aa (hD h e.path vs tags key hh hl.2.2 hv ht) ?_
 simp -implicitDefEqProofs
def clip (n:Int):Int:=max (-100000) (min 100000 n)
abbrev ADe (R:Rel):Prop:=∀n:Int,R [I n] [] (I (clip n)) []
theorem AET (D:Dn) (hM:AxR (D AuX)) (hN:ADq (D AE1)):ADe (Body D Xd):=by
 intro n
 simp -implicitDefEqProofs
 refine Aa (hN _ _) ?_
 simp -implicitDefEqProofs
 refine Aa (hM _ _) ?_
 simp -implicitDefEqProofs [clip]
def O8 (w:World) (i:Int):Cu:=if PL i 0 ((w.ends.length:Int)-1)then(match w.ends[i.toNat]? with | some e=>M8 e w.server w.tags w.key (16*clip w.now+i) | none=>Pn)else Pn
abbrev VG (R:Rel):Prop:=∀(w:World) (i:Int),Ai w≤4194304→R [arg (Cc w),I i] [] (.agg (Ap (O8 w i))) []
theorem ADM (n:Int):-100000≤clip n∧clip n≤100000:=by unfold clip;omega
theorem AEa (D:Dn) (hI:TF (D Cw)) (hC:ADe (D Asz)) (hB:RB (D AtQ)):VG (Body D YQ):=by
 intro w i hsz
 have he:=DU hsz
 have hw:IntKind.i64.wrap ((w.ends.length:Int)-1)=(w.ends.length:Int)-1:=Ab (by omega) (by omega)
 simp -implicitDefEqProofs [hw]
 refine Aa (hI _ _ _) ?_
 by_cases h1:PL i 0 ((w.ends.length:Int)-1)
 rotate_left
 ·simp -implicitDefEqProofs [h1,O8,Pn,Ij]
 obtain⟨n,rfl⟩:∃n:Nat,i=n:=⟨i.toNat,by have:=h1.1;omega⟩
 have hn:n<w.ends.length:=by have:=h1.2;omega
 have hb:=QS hsz
 have hes:=Auk hsz hn
 have e:O8 w n=M8 w.ends[n] w.server w.tags w.key (16*clip w.now+n):=by unfold O8;rw[if_pos h1];simp[hn]
 rw[e]
 simp -implicitDefEqProofs [h1,hn]
 refine Aa (hC w.now) ?_
 have hcl:=ADM w.now
 generalize clip w.now=c at hcl
 have hw1:IntKind.i64.wrap (16*c)=16*c:=Ab (by omega) (by omega)
 have hw2:IntKind.i64.wrap (16*c+n)=16*c+n:=Ab (by omega) (by omega)
 simp -implicitDefEqProofs [hw1,hw2]
 refine Aa (hB w.ends[n] w.server w.tags w.key _ hes hb.1 hb.2.1) ?_
 simp -implicitDefEqProofs
theorem AEZ (D:Dn) (hI:VT (D Py)) (hB:RB (D As4)):VG (Body D YN):=by
 intro w i hsz
 have he:=DU hsz
 simp -implicitDefEqProofs
 refine Aa (hI w i he) ?_
 by_cases h1:PL i 0 ((w.ends.length:Int)-1)
 rotate_left
 ·simp -implicitDefEqProofs [h1,O8,Pn,Ij]
 obtain⟨n,rfl⟩:∃n:Nat,i=n:=⟨i.toNat,by have:=h1.1;omega⟩
 have hn:n<w.ends.length:=by have:=h1.2;omega
 have hb:=QS hsz
 have hes:=Auk hsz hn
 have e:O8 w n=M8 w.ends[n] w.server w.tags w.key (16*clip w.now+n):=by unfold O8;rw[if_pos h1];simp[hn]
 rw[e]
 simp -implicitDefEqProofs [h1,hn]
 have hc:(if(if 100000<w.now then 100000 else w.now)< -100000 then -100000 else if 100000<w.now then 100000 else w.now)=clip w.now:=by
  unfold clip
  split<;>split<;>omega
 rw[hc]
 have hcl:=ADM w.now
 generalize clip w.now=c at hcl
 have hw1:IntKind.i64.wrap (16*c)=16*c:=Ab (by omega) (by omega)
 have hw2:IntKind.i64.wrap (16*c+n)=16*c+n:=Ab (by omega) (by omega)
 rw[hw1,hw2]
 refine Aa (hB w.ends[n] w.server w.tags w.key _ hes hb.1 hb.2.1) ?_
 simp -implicitDefEqProofs
end Go.Eng.T
