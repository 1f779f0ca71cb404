/- Own work: part 14 of the proof of FnConsole. -/
import Derived.Test.YtogmkdgkgfhhoaaGreatDoorCP12
import Derived.Test.YtogmkdgkgfhhoaaGreatDoorCP13
set_option linter.unusedSimpArgs false
set_option linter.unusedVariables false
namespace Go.Eng.T
set_option maxRecDepth 20000
def Gd:List EG->Hello->Hello×Bool
 | [],h=>(h,true)
 | b::r,h=>if(BV b h).2=true then Gd r (BV b h).1 else(AU,false)
theorem AfO {path:List EG} {j:Nat} {x:Hello} (h:j<path.length):Gd (path.drop j) x=if(BV path[j] x).2=true then Gd (path.drop (j+1)) (BV path[j] x).1 else(AU,false):=by
 rw[List.drop_eq_getElem_cons h];rfl
theorem Aid {path:List EG} {j:Nat} {x:Hello} (h:path.length<=j):Gd (path.drop j) x=(x,true):=by rw[List.drop_eq_nil_of_le h];rfl
def Bd (path:List EG) (h:Hello):Hello×Bool:=if decide (path.length<=4)&&Dt h then Gd path h else(AU,false)
theorem Aba:hB AU:=⟨by simp[AU],Afg⟩
theorem Ajy {b:EG} {h:Hello} (hh:hB h):hB (BV b h).1:=by
 unfold BV
 split
 ·exact⟨hh.1,QV hh.2 _⟩
 ·exact Aba
theorem AHP {b:EG} {h:Hello} (hk:(BV b h).2=false):(BV b h).1=AU:=by
 unfold BV at *
 split at hk
 ·cases hk
 ·rename_i hc;rw[if_neg hc]
variable (R:Rel)
abbrev Jj:Prop:=∀(path:List EG) (h:Hello),lnS Kh path->hB h->R [.sl 1 4 path.length (path.flatMap DT),arg (Ck h)] [] (.tup [.agg (Ck (Bd path h).1),B (Bd path h).2]) []
variable (D:Dn)
theorem Ahg (hE:Gr (D 285)) (hC:Q9 (D 301)) (hP:Vm (D 258)):Jj (Body D Mk):=by
 intro path h hb hh
 have hl:=hb.1
 unfold maxLen at hl
 by_cases h1:path.length<=4
 rotate_left
 ·have h1':(4:Int)<path.length:=by omega
  simp -implicitDefEqProofs [h1',h1,Bd,AU]
 have h1':¬(4:Int)<path.length:=by omega
 simp -implicitDefEqProofs [h1']
 refine Aa (hE h hh) ?_
 by_cases h2:Dt h=true
 rotate_left
 ·simp -implicitDefEqProofs [h2,h1,Bd,AU]
 have e:Bd path h=Gd path h:=by simp[Bd,h1,h2]
 rw[e]
 simp -implicitDefEqProofs [h2]
 refine Aa (hC h hh) ?_
 simp -implicitDefEqProofs
 refine Ag (fun k s=>∃j x o5 o6 o7,j+k=path.length/\hB x/\Gd path h=Gd (path.drop j) x/\s=⟨[.sl 1 4 path.length (path.flatMap DT),.undef,.undef,.ptr 1 0,.undef,.ptr 4 0,I j,.undef,.undef,.undef,.undef,.undef],[.var ((Ck h).map (AO 1)),.var [.nil 1,.nil 2],.free,.free,.var [.arr 8,.arr 9],o5,o6,o7,.arr 1 0 x.versions.length (ints x.versions),.arr 2 0 x.exts.length (x.exts.flatMap Cc)]⟩) ?_ (path.length) _ ⟨0,h,.free,.free,.free,by simp,hh,by simp,by simp⟩
 intro k s ⟨j,x,o5,o6,o7,hj,hx,hg,hs⟩
 subst hs
 by_cases hjn:j<path.length
 ·have hw:=Cv (j:=j) (by omega)
  rw[AfO hjn]at hg
  simp -implicitDefEqProofs [hjn]
  refine Aa (hP path[j] x (hb.2 j hjn) hx) ?_
  have hx':=Ajy (b:=path[j]) hx
  generalize BV path[j] x=r at hg hx'
  by_cases hk:r.2=true
  ·rw[if_pos hk]at hg
   simp -implicitDefEqProofs [hk]
   refine⟨k-1,by omega,j+1,by omega,r.1,hx',?_⟩
   simp[hw,hg]
  ·rw[if_neg hk]at hg
   simp -implicitDefEqProofs [hk,hg,AU]
 ·rw[Aid (by omega)]at hg
  simp -implicitDefEqProofs [hjn,hg]
theorem AGG (hE:Gr (D 292)) (hC:Q9 (D 293)) (hP:Vm (D 294)):Jj (Body D Awk):=by
 intro path h hb hh
 have hl:=hb.1
 unfold maxLen at hl
 simp -implicitDefEqProofs
 refine Aa (hE h hh) ?_
 by_cases h2:Dt h=true
 rotate_left
 ·simp -implicitDefEqProofs [h2,Bd,AU]
 by_cases h1:path.length<=4
 rotate_left
 ·have h1':(4:Int)<path.length:=by omega
  simp -implicitDefEqProofs [h2,h1',h1,Bd,AU]
 have h1':¬(4:Int)<path.length:=by omega
 have e:Bd path h=Gd path h:=by simp[Bd,h1,h2]
 rw[e]
 simp -implicitDefEqProofs [h2,h1']
 refine Aa (hC h hh) ?_
 simp -implicitDefEqProofs
 refine Ag (fun k s=>∃j x ok o5 o6,j+k=path.length/\hB x/\Gd path h=(if ok=true then Gd (path.drop j) x else(AU,false))/\(ok=false->x=AU)/\s=⟨[.sl 1 4 path.length (path.flatMap DT),.undef,.undef,.ptr 1 0,.undef,.ptr 4 0,B ok,I j,.undef,.undef],[.var ((Ck h).map (AO 1)),.var [.nil 1,.nil 2],.free,.free,.var [.arr 7,.arr 8],o5,o6,.arr 1 0 x.versions.length (ints x.versions),.arr 2 0 x.exts.length (x.exts.flatMap Cc)]⟩) ?_ (path.length) _ ⟨0,h,true,.free,.free,by simp,hh,by simp,by simp,by simp⟩
 intro k s ⟨j,x,ok,o5,o6,hj,hx,hg,hno,hs⟩
 subst hs
 by_cases hok:ok=true
 rotate_left
 ·rw[if_neg hok]at hg
  have hok':ok=false:=by simpa using hok
  have hno':=hno hok'
  subst hok'
  subst hno'
  by_cases hjn:j<path.length
  ·simp -implicitDefEqProofs [hjn,hg,AU]
  ·simp -implicitDefEqProofs [hjn,hg,AU]
 rw[if_pos hok]at hg
 subst hok
 by_cases hjn:j<path.length
 ·have hw:=Cv (j:=j) (by omega)
  rw[AfO hjn]at hg
  simp -implicitDefEqProofs [hjn]
  refine Aa (hP path[j] x (hb.2 j hjn) hx) ?_
  have hx':=Ajy (b:=path[j]) hx
  have hno':=AHP (b:=path[j]) (h:=x)
  generalize BV path[j] x=r at hg hx' hno'
  simp -implicitDefEqProofs
  refine⟨k-1,by omega,j+1,by omega,r.1,hx',?_⟩
  simp[hw,hg,hno']
  by_cases hr:r.2=true
  ·right;exact⟨fun h=>by simp[hr]at h,hr⟩
  ·left;exact⟨fun h=>absurd h hr,hno' (by simpa using hr),by simpa using hr⟩
 ·rw[Aid (by omega)]at hg
  simp -implicitDefEqProofs [hjn,hg]
def Aon (b:EG):Bool:=decide (b.limit=0)&&(decide (b.drops.length=0)&&(decide (b.strips.length=0)&& !b.lists))
abbrev AAU:Prop:=∀b:EG,Kh b->R [arg (DT b)] [] (B (Aon b)) []
theorem AIx:AAU (Body D AwT):=by
 intro b hb
 by_cases g1:b.limit=0
 rotate_left
 ·simp -implicitDefEqProofs [g1,Aon,Aqs]
 by_cases g2:b.drops.length=0
 rotate_left
 ·have g2':¬(b.drops.length:Int)=0:=by omega
  simp -implicitDefEqProofs [g1,g2,g2',Aon,Aqs]
 have g2':(b.drops.length:Int)=0:=by omega
 by_cases g3:b.strips.length=0
 rotate_left
 ·have g3':¬(b.strips.length:Int)=0:=by omega
  simp -implicitDefEqProofs [g1,g2,g2',g3,g3',Aon,Aqs]
 have g3':(b.strips.length:Int)=0:=by omega
 simp -implicitDefEqProofs [g1,g2,g2',g3,g3',Aon,Aqs]
def AfS (path:List EG):Bool:=decide (path.length<=4)&&path.all Aon
abbrev AvU:Prop:=∀path:List EG,lnS Kh path->R [.sl 1 4 path.length (path.flatMap DT)] [] (B (AfS path)) []
theorem NP {α:Type} {p:α->Bool} {xs:List α} {j:Nat} (h:j<xs.length) (hp:p xs[j]=false):xs.all p=false:=List.all_eq_false.2 ⟨_,List.getElem_mem h,by simp[hp]⟩
theorem Qm {α:Type} {p:α->Bool} {xs:List α} {j:Nat} (h:j<xs.length):(xs.take (j+1)).all p=((xs.take j).all p&&p xs[j]):=by
 have e:xs.take (j+1)=xs.take j++ [xs[j]]:=by simp
 rw[e,List.all_append];simp
theorem VW {α:Type} {p:α->Bool} {xs:List α} {j:Nat} (h:xs.length<=j):(xs.take j).all p=xs.all p:=by rw[List.take_of_length_le h]
abbrev Au7:Prop:=∀b:EG,Kh b->R [arg (DT b)] [] (B (!Aon b)) []
theorem AEd (hC:AAU (D 299)):Au7 (Body D AtG):=by
 intro b hb
 simp -implicitDefEqProofs
 refine Aa (hC b hb) ?_
 simp -implicitDefEqProofs
theorem ADh (h1:Au7 (D 278)) (hC:As3 D (D 272)):AvU (Body D Aul):=by
 intro path hb
 have hl:=hb.1
 by_cases g1:path.length<=4
 rotate_left
 ·have g1':¬(path.length:Int)<=4:=by omega
  simp -implicitDefEqProofs [g1',g1,AfS]
 have g1':(path.length:Int)<=4:=by omega
 simp -implicitDefEqProofs [g1']
 refine Aa (hC path 278 [] (fun b=> !Aon b) hl Api (fun j hj=>h1 path[j] (hb.2 j hj))) ?_
 have e:(path.any fun b=> !Aon b)= !path.all Aon:=by rw[List.all_eq_not_any_not];simp
 rw[e]
 generalize hq:path.all Aon=q
 simp -implicitDefEqProofs [AfS,g1,hq]
abbrev JZ:Prop:=∀xs:List Int,xs.length<=4194304->R [.sl 1 1 xs.length (ints xs)] [] (.agg (Ck ⟨xs,[]⟩)) []
theorem Ac8:JZ (Body D Jo):=by
 intro xs h
 have h1:xs.length*8<=1099511627776:=by omega
 simp -implicitDefEqProofs [h1]
theorem AEJ:JZ (Body D AuN):=by
 intro xs h
 have h1:xs.length*8<=1099511627776:=by omega
 simp -implicitDefEqProofs [h1]
def isOpen (path:List EG) (vs:List Int):Bool:=AQ vs&&(Bd path ⟨vs.take 1,[]⟩).2
abbrev J4:Prop:=∀(path:List EG) (vs:List Int),lnS Kh path->vs.length<=4194304->R [.sl 1 4 path.length (path.flatMap DT),.sl 1 1 vs.length (ints vs)] [] (B (isOpen path vs)) []
theorem AcL (hA:Dr (D 208)) (hH:JZ (D 256)) (hP:Jj (D 286)):J4 (Body D JD):=by
 intro path vs hb hv
 simp -implicitDefEqProofs
 refine Aa (hA vs (by unfold maxLen;omega)) ?_
 by_cases h1:AQ vs=true
 rotate_left
 ·simp -implicitDefEqProofs [h1,isOpen]
 have hpos:=ZT h1
 have h1l:(1:Int)<=vs.length:=by omega
 have h1n:1<=vs.length:=by omega
 have hlen:(vs.take 1).length=1:=by simp;omega
 have hmin:min 1 vs.length=1:=by omega
 simp -implicitDefEqProofs [h1,h1l,h1n]
 have hh:=hH (vs.take 1) (by omega)
 rw[hlen]at hh
 refine Aa (hh) ?_
 simp -implicitDefEqProofs [hmin]
 have hp:=hP path ⟨vs.take 1,[]⟩ hb ⟨by simp;omega,Afg⟩
 simp -implicitDefEqProofs [hmin]at hp
 refine Aa (hp) ?_
 simp -implicitDefEqProofs [isOpen,h1]
theorem AEI (hA:Dr (D 232)) (hH:JZ (D 273)) (hP:Jj (D 274)):J4 (Body D AuH):=by
 intro path vs hb hv
 simp -implicitDefEqProofs
 refine Aa (hA vs (by unfold maxLen;omega)) ?_
 by_cases h1:AQ vs=true
 rotate_left
 ·simp -implicitDefEqProofs [h1,isOpen]
 have hpos:=ZT h1
 have h1l:(1:Int)<=vs.length:=by omega
 have h1n:1<=vs.length:=by omega
 have hlen:(vs.take 1).length=1:=by simp;omega
 have hmin:min 1 vs.length=1:=by omega
 simp -implicitDefEqProofs [h1,h1l,h1n]
 have hh:=hH (vs.take 1) (by omega)
 rw[hlen]at hh
 refine Aa (hh) ?_
 simp -implicitDefEqProofs [hmin]
 have hp:=hP path ⟨vs.take 1,[]⟩ hb ⟨by simp;omega,Afg⟩
 simp -implicitDefEqProofs [hmin]at hp
 refine Aa (hp) ?_
 simp -implicitDefEqProofs [isOpen,h1]
def Q5 (path:List EG) (v:Int):Bool:= !(Bd path ⟨[v],[]⟩).2
def BZ (path:List EG) (vs:List Int):List Int:=if AQ vs=true then vs.filter (Q5 path)else []
abbrev JH:Prop:=∀(path:List EG) (vs:List Int),lnS Kh path->vs.length<=4194304->R [.sl 1 4 path.length (path.flatMap DT),.sl 1 1 vs.length (ints vs)] [] (.sl 0 1 (BZ path vs).length (ints (BZ path vs))) []
theorem AhL (path:List EG) (v:Int):isOpen path [v]= !Q5 path v:=by
 unfold isOpen Q5
 by_cases h:AQ [v]=true
 ·simp[h]
 ·have:Bd path ⟨[v],[]⟩=(AU,false):=by
   unfold Bd Dt
   have h':AQ [v]=false:=by simpa using h
   simp[h']
  simp[h,this]
theorem Zm (hA:Dr (D 208)) (hO:J4 (D 260)):JH (Body D H9):=by
 intro path vs hb hv
 by_cases h1:AQ vs=true
 rotate_left
 ·have e:BZ path vs=[]:=by unfold BZ;rw[if_neg h1]
  rw[e]
  simp -implicitDefEqProofs
  refine Ag (fun k s=>s=⟨[.sl 1 4 path.length (path.flatMap DT),.sl 1 1 vs.length (ints vs),.undef,.arr 3,I 0,.undef,.undef],[.free,.free,.free,.arr 1 0 0 (ints [])]⟩) ?_ 0 _ (by simp)
  intro k s hs
  subst hs
  by_cases h0:0<vs.length
  ·simp -implicitDefEqProofs [h0]
   refine Aa (hA vs (by unfold maxLen;omega)) ?_
   simp -implicitDefEqProofs [h1]
  ·simp -implicitDefEqProofs [h0]
 have e:BZ path vs=vs.filter (Q5 path):=by unfold BZ;rw[if_pos h1]
 rw[e]
 simp -implicitDefEqProofs
 refine Ag (fun k s=>∃j o1 o2,j+k=vs.length/\s=⟨[.sl 1 4 path.length (path.flatMap DT),.sl 1 1 vs.length (ints vs),.undef,.arr 3,I j,.undef,.undef],[.free,o1,o2,.arr 1 0 ((vs.take j).filter (Q5 path)).length (ints ((vs.take j).filter (Q5 path)))]⟩) ?_ (vs.length) _ ⟨0,.free,.free,by simp,by simp⟩
 intro k s ⟨j,o1,o2,hj,hs⟩
 subst hs
 by_cases hjn:j<vs.length
 ·have hw:=Cv (j:=j) (by omega)
  have hst:=LD (p:=Q5 path) hjn
  have hfl:=Oa (p:=Q5 path) (xs:=vs) (j:=j)
  have hb1:(((vs.take j).filter (Q5 path)).length+1)*8<=1099511627776:=by omega
  have hw1:IntKind.i64.wrap ((j:Int)+1)=(j:Int)+1:=Ad (by omega) (by omega)
  have hj1:j+1<=vs.length:=by omega
  have hj2:(j:Int)+1<=vs.length:=by omega
  have hdt:(vs.drop j).take 1=[vs[j]]:=by rw[List.drop_eq_getElem_cons hjn];rfl
  simp -implicitDefEqProofs [hjn]
  refine Aa (hA vs (by unfold maxLen;omega)) ?_
  have hjj:(j:Int)<=(j:Int)+1:=by omega
  have h11:j+1-j=1:=by omega
  simp -implicitDefEqProofs [h1,hw1,hj1,hj2,hdt,hjn,hjj,h11]
  refine Aa (hO path [vs[j]] hb (by simp)) ?_
  rw[AhL]
  by_cases h2:Q5 path vs[j]=true
  ·rw[if_pos h2]at hst
   simp -implicitDefEqProofs [h2,hjn,hb1]
   exact⟨k-1,by omega,j+1,by omega,by simp[hw],by rw[hst];simp,by rw[hst]⟩
  ·rw[if_neg h2,List.append_nil]at hst
   simp -implicitDefEqProofs [h2]
   exact⟨k-1,by omega,j+1,by omega,by simp[hw],by rw[hst],by rw[hst]⟩
 ·have e2:=N7 (p:=Q5 path) (xs:=vs) (j:=j) (by omega)
  simp -implicitDefEqProofs [hjn,e2]
theorem AB9 (hA:Dr (D 232)) (hH:JZ (D 273)) (hP:Jj (D 274)):JH (Body D AtU):=by
 intro path vs hb hv
 simp -implicitDefEqProofs
 refine Aa (hA vs (by unfold maxLen;omega)) ?_
 by_cases h1:AQ vs=true
 rotate_left
 ·have e:BZ path vs=[]:=by unfold BZ;rw[if_neg h1]
  rw[e]
  simp -implicitDefEqProofs [h1]
 have e:BZ path vs=vs.filter (Q5 path):=by unfold BZ;rw[if_pos h1]
 rw[e]
 simp -implicitDefEqProofs [h1]
 refine Ag (fun k s=>∃j v4 o1 o2 o3 o4 o5 o6 o7 o8,j+k=vs.length/\s=⟨[.sl 1 4 path.length (path.flatMap DT),.undef,.undef,.arr 9,v4,.undef,.undef,.sl 1 1 vs.length (ints vs),I vs.length,I j,.undef,.undef],[.free,o1,o2,o3,o4,o5,o6,o7,o8,.arr 1 0 ((vs.take j).filter (Q5 path)).length (ints ((vs.take j).filter (Q5 path)))]⟩) ?_ (vs.length) _ ⟨0,.undef,.free,.free,.free,.free,.free,.free,.free,.free,by simp,by simp⟩
 intro k s ⟨j,v4,o1,o2,o3,o4,o5,o6,o7,o8,hj,hs⟩
 subst hs
 by_cases hjn:j<vs.length
 ·have hw:=Cv (j:=j) (by omega)
  have hst:=LD (p:=Q5 path) hjn
  have hfl:=Oa (p:=Q5 path) (xs:=vs) (j:=j)
  have hb1:(((vs.take j).filter (Q5 path)).length+1)*8<=1099511627776:=by omega
  simp -implicitDefEqProofs [hjn]
  refine Aa (hH [vs[j]] (by simp)) ?_
  simp -implicitDefEqProofs
  refine Aa (hP path ⟨[vs[j]],[]⟩ hb ⟨by simp,Afg⟩) ?_
  have hq:Q5 path vs[j]= !(Bd path ⟨[vs[j]],[]⟩).2:=rfl
  generalize Bd path ⟨[vs[j]],[]⟩=r at hq
  by_cases h2:r.2=true
  ·have h3:¬Q5 path vs[j]=true:=by rw[hq,h2];simp
   rw[if_neg h3,List.append_nil]at hst
   simp -implicitDefEqProofs [h2]
   exact⟨k-1,by omega,j+1,by omega,by simp[hw],by rw[hst],by rw[hst]⟩
  ·have h3:Q5 path vs[j]=true:=by rw[hq];simpa using h2
   rw[if_pos h3]at hst
   simp -implicitDefEqProofs [h2,hb1]
   exact⟨k-1,by omega,j+1,by omega,by simp[hw],by rw[hst];simp,by rw[hst]⟩
 ·have e2:=N7 (p:=Q5 path) (xs:=vs) (j:=j) (by omega)
  simp -implicitDefEqProofs [hjn,e2]
set_option maxHeartbeats 1000000
def Sw (l:List Int):Int:=l.foldl (fun a v=>if v>a then v else a) 0
theorem Aew {x:Int}:∀(l:List Int) (a:Int),(∀y,y∈l->y<x)->a<x->l.foldl (fun a v=>if v>a then v else a) a<x
 | [],a,_,h=>h
 | y::l,a,hl,h=>by
  simp only[List.foldl_cons]
  refine Aew l _ (fun z hz=>hl z (by simp[hz])) ?_
  split
  ·exact hl y (by simp)
  ·exact h
theorem Aat {xs:List Int}:∀(n:Nat),JF xs n=true->∀i j,i<j->j<n->xs.getD i 0<xs.getD j 0
 | 0,_,i,j,_,h=>by omega
 | n+1,hr,i,j,hij,hj=>by
  rw[Qu]at hr
  simp only[Bool.and_eq_true,Bool.or_eq_true,decide_eq_true_eq]at hr
  obtain⟨h1,_,h3⟩:=hr
  by_cases hjn:j<n
  ·exact Aat n h1 i j hij hjn
  ·obtain rfl:j=n:=by omega
   have h4:xs.getD (j-1) 0<xs.getD j 0:=by
    rcases h3 with h3 | h3
    ·omega
    ·exact h3
   by_cases he:i=j-1
   ·rw[he];exact h4
   ·have:=Aat j h1 i (j-1) (by omega) (by omega)
    omega
theorem Amw {xs:List Int} {n i:Nat} (h:JF xs n=true) (hi:i<n):InV (xs.getD i 0) 1 9:=by
 unfold JF at h
 have:=List.all_eq_true.1 h i (List.mem_range.2 hi)
 simp at this
 exact⟨this.1.1,this.1.2⟩
theorem Ru {xs:List Int} (h:AQ xs=true):xs.Pairwise (· < ·):=by
 unfold AQ at h
 simp only[Bool.and_eq_true,decide_eq_true_eq]at h
 rw[List.pairwise_iff_getElem]
 intro i j hi hj hij
 have:=Aat _ h.1 i j hij hj
 rwa [VG hi,VG hj]at this
theorem RF {xs:List Int} (h:AQ xs=true):∀x,x∈xs->InV x 1 9:=by
 unfold AQ at h
 simp only[Bool.and_eq_true,decide_eq_true_eq]at h
 intro x hx
 obtain⟨i,hi,rfl⟩:=List.getElem_of_mem hx
 have:=Amw h.1 hi
 rwa [VG hi]at this
theorem Akj {l:List Int} (hp:l.Pairwise (· < ·)) (h0:∀x,x∈l->0<x) (hn:0<l.length):Sw l=l[l.length-1]:=by
 obtain⟨l',x,rfl⟩:∃l' x,l=l'++ [x]:=by
  rcases List.eq_nil_or_concat l with h | ⟨l',x,h⟩
  ·rw[h]at hn;simp at hn
  ·exact⟨l',x,by simpa using h⟩
 rw[List.pairwise_append]at hp
 have h1:Sw l' <x:=Aew l' 0 (fun y hy=>hp.2.2 y hy x (by simp)) (h0 x (by simp))
 have h2:Sw (l'++ [x])=if x>Sw l' then x else Sw l':=by unfold Sw;rw[List.foldl_append];rfl
 rw[h2,if_pos h1]
 simp
def AJ (a b:List Int):Int:=if AQ a=true/\AQ b=true then Sw (common a b)else 0
abbrev FQ:Prop:=∀a b:List Int,a.length<=4194304->b.length<=4194304->R [.sl 1 1 a.length (ints a),.sl 1 1 b.length (ints b)] [] (I (AJ a b)) []
theorem ml {n:Nat} (h:n<=4194304):n<=maxLen:=by unfold maxLen;omega
theorem Acp (hC:Rz (D 224)) (hA:Dr (D 208)):FQ (Body D Jf):=by
 intro a b ha hb
 have hcl:(common a b).length<=4194304:=Nat.le_trans (List.length_filter_le _ _) ha
 simp -implicitDefEqProofs
 refine Aa (hC a b ha (ml hb)) ?_
 simp -implicitDefEqProofs
 refine Aa (hA a (ml ha)) ?_
 by_cases h1:AQ a=true
 rotate_left
 ·simp -implicitDefEqProofs [h1,AJ]
 simp -implicitDefEqProofs [h1]
 refine Aa (hA b (ml hb)) ?_
 by_cases h2:AQ b=true
 rotate_left
 ·simp -implicitDefEqProofs [h2,AJ]
 have e:AJ a b=Sw (common a b):=by unfold AJ;rw[if_pos ⟨h1,h2⟩]
 rw[e]
 by_cases h3:common a b=[]
 ·simp -implicitDefEqProofs [h2,h3,Sw]
 have h4:0<(common a b).length:=List.length_pos_iff.2 h3
 have h5:=Akj (l:=common a b) ((Ru h1).filter _) (fun x hx=>by have:=RF h1 x (List.mem_filter.1 hx).1;omega) h4
 rw[h5]
 generalize common a b=l at h3 h4 hcl
 have hw:IntKind.i64.wrap ((l.length:Int)-1)=((l.length-1:Nat):Int):=by rw[Ad (by omega) (by omega)];omega
 have h6:l.length-1<l.length:=by omega
 simp -implicitDefEqProofs [h2,h3,hw,h6,h4]
theorem AEj (hC:Rz (D 242)) (hA:Dr (D 232)):FQ (Body D AuE):=by
 intro a b ha hb
 have hcl:(common a b).length<=4194304:=Nat.le_trans (List.length_filter_le _ _) ha
 simp -implicitDefEqProofs
 refine Aa (hA a (ml ha)) ?_
 by_cases h1:AQ a=true
 rotate_left
 ·simp -implicitDefEqProofs [h1,AJ]
 simp -implicitDefEqProofs [h1]
 refine Aa (hA b (ml hb)) ?_
 by_cases h2:AQ b=true
 rotate_left
 ·simp -implicitDefEqProofs [h2,AJ]
 have e:AJ a b=Sw (common a b):=by unfold AJ;rw[if_pos ⟨h1,h2⟩]
 rw[e]
 simp -implicitDefEqProofs [h2]
 refine Aa (hC a b ha (ml hb)) ?_
 generalize common a b=l at hcl
 simp -implicitDefEqProofs
 refine Ag (fun k s=>∃j,j+k=l.length/\s=⟨[.undef,.undef,.undef,.sc (.int .i64 (Sw (l.take j))),.undef,.undef,.arr 0,.sc (.int .i64 l.length),.sc (.int .i64 j),.undef],[.arr 1 0 l.length (ints l)]⟩) ?_ l.length _ ⟨0,by simp,by simp[Sw]⟩
 intro k s ⟨j,hj,hs⟩
 subst hs
 by_cases hjn:j<l.length
 ·have hw:=Cv (j:=j) (by omega)
  have hst:Sw (l.take (j+1))=if l[j]>Sw (l.take j)then l[j]else Sw (l.take j):=by
   have e:l.take (j+1)=l.take j++ [l[j]]:=by simp
   unfold Sw
   rw[e,List.foldl_append];rfl
  simp -implicitDefEqProofs [hjn]
  exact⟨k-1,by omega,j+1,by omega,by rw[hst],by simp[hw]⟩
 ·have hx:l.take j=l:=List.take_of_length_le (by omega)
  simp -implicitDefEqProofs [hjn,hx]
def Le {α:Type} (p:α->Bool):List α->Nat->List Int
 | [],_=> []
 | x::r,i=>if p x then(i:Int)::Le p r (i+1)else Le p r (i+1)
theorem XM {α:Type} {p:α->Bool} (b:List α):∀(a:List α) (i:Nat),Le p (a++b) i=Le p a i++Le p b (i+a.length)
 | [],i=>by simp[Le]
 | x::r,i=>by
  have:=XM (p:=p) b r (i+1)
  simp only[List.cons_append,Le,this,List.length_cons]
  rw[show i+1+r.length=i+(r.length+1)by omega]
  by_cases h:p x=true<;>simp[h]
theorem Alt {α:Type} {p:α->Bool} {xs:List α} {j:Nat} (h:j<xs.length):Le p (xs.take (j+1)) 0=Le p (xs.take j) 0++(if p xs[j]then [(j:Int)]else []):=by
 have e:xs.take (j+1)=xs.take j++ [xs[j]]:=by simp
 rw[e,XM]
 have hl:(xs.take j).length=j:=by simp;omega
 by_cases hp:p xs[j]=true<;>simp[Le,hp,hl]
theorem AmA {α:Type} {p:α->Bool} {xs:List α} {j:Nat} (h:xs.length<=j):Le p (xs.take j) 0=Le p xs 0:=by rw[List.take_of_length_le h]
theorem Af3 {α:Type} {p:α->Bool}:∀(xs:List α) (i:Nat),(Le p xs i).length<=xs.length
 | [],_=>by simp[Le]
 | x::r,i=>by
  have:=Af3 (p:=p) r (i+1)
  by_cases h:p x=true
  ·simp[Le,h];omega
  ·simp[Le,h];omega
def ABA (v:Int) (e:Ai):Bool:=decide (v∈e.versions)
theorem Aie {w:World} (h:Af w<=4194304) {j:Nat} (hj:j<w.ends.length):w.ends[j].versions.length<=maxLen:=by
 have:=size_at (f:=Am) hj
 have e:Am w.ends[j]=w.ends[j].versions.length+w.ends[j].tags.length+Cr Gm w.ends[j].path:=rfl
 unfold Af at h
 unfold maxLen;omega
abbrev Awv:Prop:=∀(w:World) (v:Int),Af w<=4194304->R [arg (Bu w),I v] [] (.sl 0 1 (Le (ABA v) w.ends 0).length (ints (Le (ABA v) w.ends 0))) []
theorem AEu (hH:UQ (D 188)):Awv (Body D AuI):=by
 intro w v hsz
 have hl:=FE hsz
 simp -implicitDefEqProofs
 refine Ag (fun k s=>∃j v5 o2 o3 o4,j+k=w.ends.length/\s=⟨[.undef,.sc (.int .i64 v),.undef,.undef,.arr 5,v5,.undef,.sl 1 4 w.ends.length (w.ends.flatMap Ah),.sc (.int .i64 w.ends.length),.sc (.int .i64 j),.undef,.undef],[.var ((Bu w).map (AO 1)),.free,o2,o3,o4,.arr 1 0 (Le (ABA v) (w.ends.take j) 0).length (ints (Le (ABA v) (w.ends.take j) 0))]⟩) ?_ w.ends.length _ ⟨0,.undef,.free,.free,.free,by simp,by simp[Le]⟩
 intro k s ⟨j,v5,o2,o3,o4,hj,hs⟩
 subst hs
 by_cases hjn:j<w.ends.length
 ·have hw:=Cv (j:=j) (by omega)
  have hst:=Alt (p:=ABA v) hjn
  have hln:=Af3 (p:=ABA v) (w.ends.take j) 0
  have htl:(w.ends.take j).length<=j:=by simp;omega
  simp -implicitDefEqProofs [hjn]
  refine Aa (hH w.ends[j].versions v (Aie hsz hjn)) ?_
  by_cases he:v∈w.ends[j].versions
  ·have hb:((Le (ABA v) (w.ends.take j) 0).length+1)*8<=1099511627776:=by omega
   rw[if_pos (by simp[ABA,he])]at hst
   simp -implicitDefEqProofs [he,hb]
   exact⟨k-1,by omega,j+1,by omega,by simp[hw],by rw[hst];simp,by rw[hst]⟩
  ·rw[if_neg (by simp[ABA,he]),List.append_nil]at hst
   simp -implicitDefEqProofs [he]
   exact⟨k-1,by omega,j+1,by omega,by simp[hw],by rw[hst],by rw[hst]⟩
 ·have hx:=AmA (p:=ABA v) (xs:=w.ends) (j:=j) (by omega)
  simp -implicitDefEqProofs [hjn,hx]
set_option maxHeartbeats 1000000
def I8 (xs:List (List Int)):List V:=xs.map fun l=> .sl 0 1 l.length (ints l)
@[simp high] theorem Aro (xs:List (List Int)):(I8 xs).length=xs.length:=by simp[I8]
@[simp] theorem Ard:I8 []=[]:=rfl
@[simp] theorem ArA (xs:List (List Int)):(I8 xs).map (AO 0)=I8 xs:=by simp[I8,Function.comp_def,AO]
@[simp high] theorem ArI {xs:List (List Int)} {j:Nat} (h:j<xs.length):(I8 xs)[j]? =some (V.sl 0 1 xs[j].length (ints xs[j])):=by simp[I8,h]
theorem Ah1 (xs:List (List Int)) (l:List Int) {n:Nat} (h:n=l.length):I8 xs++ [.sl 0 1 n (ints l)]=I8 (xs++ [l]):=by subst h;simp[I8]
def GR (xs:List (List Int)):Nat:=Cr List.length xs
theorem Uz {xs:List (List Int)} {j:Nat} (h:j<xs.length):xs[j].length<=GR xs:=size_at (f:=List.length) h
theorem Ms {xs:List (List Int)}:xs.length<=GR xs:=J9
def Fh (w:World):List (List Int):=w.ends.map (·.versions)
abbrev Q8:Prop:=∀w:World,Af w<=4194304->R [arg (Bu w)] [] (.sl 0 1 (Fh w).length (I8 (Fh w))) []
theorem Aih {xs:List Ai} {j:Nat} (h:j<xs.length):I8 ((xs.map (·.versions)).take j)++ [.sl 0 1 xs[j].versions.length (ints xs[j].versions)]=I8 ((xs.map (·.versions)).take (j+1)):=by
 have h':j<(xs.map (·.versions)).length:=by simpa using h
 have e:(xs.map (·.versions)).take (j+1)=(xs.map (·.versions)).take j++ [xs[j].versions]:=by
  have:=List.take_append_getElem h'
  rw[<-this];simp
 rw[e,Ah1 _ _ rfl]
theorem AhN:Q8 (Body D NK):=by
 intro w h
 have hl:=FE h
 have hres:Fh w=w.ends.map (·.versions):=rfl
 rw[hres]
 simp -implicitDefEqProofs
 refine Ag (fun k s=>∃j o2 o3 o4 o5,j+k=w.ends.length/\s=⟨[.undef,.ptr 0 0,.undef,.arr 6,.sc (.int .i64 j),.undef],[.var ((Bu w).map (AO 1)),.free,o2,o3,o4,o5,.arr 1 0 j (I8 ((w.ends.take j).map (·.versions)))]⟩) ?_ w.ends.length _ ⟨0,.free,.free,.free,.free,by simp,by simp⟩
 intro k s ⟨j,o2,o3,o4,o5,hj,hs⟩
 subst hs
 by_cases hjn:j<w.ends.length
 ·have hw:=Cv (j:=j) (by omega)
  have hst:=Aih hjn
  have hvl:=Aie h hjn
  unfold maxLen at hvl
  have h2:w.ends[j].versions.length<=4194304:=by
   have:=size_at (f:=Am) hjn
   have e:Am w.ends[j]=w.ends[j].versions.length+w.ends[j].tags.length+Cr Gm w.ends[j].path:=rfl
   unfold Af at h
   omega
  have hb:w.ends[j].versions.length*8<=1099511627776:=by omega
  have hb2:(j+1)*24<=1099511627776:=by omega
  have hjl:min j w.ends.length=j:=by omega
  simp -implicitDefEqProofs [hjn,hb,hb2,hjl]
  exact⟨k-1,by omega,j+1,by omega,by simp[hw],rfl,hst⟩
 ·obtain rfl:j=w.ends.length:=by omega
  simp -implicitDefEqProofs
theorem AHS:Q8 (Body D AwD):=by
 intro w h
 have hl:=FE h
 have hres:Fh w=w.ends.map (·.versions):=rfl
 rw[hres]
 simp -implicitDefEqProofs
 refine Ag (fun k s=>∃j o2 o3 o4 o5 o6,j+k=w.ends.length/\s=⟨[.undef,.undef,.undef,.arr 7,.undef,.sl 1 4 w.ends.length (w.ends.flatMap Ah),.sc (.int .i64 w.ends.length),.sc (.int .i64 j),.undef],[.var ((Bu w).map (AO 1)),.free,o2,o3,o4,o5,o6,.arr 1 0 j (I8 ((w.ends.take j).map (·.versions)))]⟩) ?_ w.ends.length _ ⟨0,.free,.free,.free,.free,.free,by simp,by simp⟩
 intro k s ⟨j,o2,o3,o4,o5,o6,hj,hs⟩
 subst hs
 by_cases hjn:j<w.ends.length
 ·have hw:=Cv (j:=j) (by omega)
  have hst:=Aih hjn
  have h2:w.ends[j].versions.length<=4194304:=by
   have:=size_at (f:=Am) hjn
   have e:Am w.ends[j]=w.ends[j].versions.length+w.ends[j].tags.length+Cr Gm w.ends[j].path:=rfl
   unfold Af at h
   omega
  have hb:w.ends[j].versions.length*8<=1099511627776:=by omega
  have hb2:(j+1)*24<=1099511627776:=by omega
  have hjl:min j w.ends.length=j:=by omega
  simp -implicitDefEqProofs [hjn,hb,hb2,hjl]
  exact⟨k-1,by omega,j+1,by omega,by simp[hw],rfl,hst⟩
 ·obtain rfl:j=w.ends.length:=by omega
  simp -implicitDefEqProofs
abbrev KZ (ls:List (List Int)):V:= .sl 1 1 ls.length (I8 ls)
def Aaa (s:List Int) (v:Int) (l:List Int):Bool:=decide (AJ s l=v)
def SN (s:List Int) (ls:List (List Int)) (v:Int):Nat:=if 1<=v then cntF (Aaa s v) ls else 0
abbrev Ae1:Prop:=∀(s:List Int) (ls:List (List Int)) (v:Int),s.length<=4194304->GR ls<=4194304->R [.sl 1 1 s.length (ints s),KZ ls,I v] [] (I (SN s ls v)) []
theorem Anj (hB:FQ (D 168)):Ae1 (Body D Ra):=by
 intro s ls v hs0 hl
 have hll:=Ms (xs:=ls)
 by_cases hv:1<=v
 rotate_left
 ·have e:SN s ls v=0:=by unfold SN;rw[if_neg hv]
  simp -implicitDefEqProofs [e]
  refine Ag (fun k st=>st=⟨[.sl 1 1 s.length (ints s),KZ ls,I v,.undef,.sc (.int .i64 0),.sc (.int .i64 0),.undef,.undef],[]⟩) ?_ 0 _ (by simp)
  intro k st hs
  subst hs
  by_cases h0:0<ls.length
  ·have h0':(0:Int)<ls.length:=by omega
   simp -implicitDefEqProofs [hv,h0,h0']
  ·have h0':¬(0:Int)<ls.length:=by omega
   simp -implicitDefEqProofs [hv,h0,h0']
 have e:SN s ls v=cntF (Aaa s v) ls:=by unfold SN;rw[if_pos hv]
 rw[e]
 simp -implicitDefEqProofs
 refine Ag (fun k st=>∃j,j+k=ls.length/\st=⟨[.sl 1 1 s.length (ints s),KZ ls,I v,.undef,.sc (.int .i64 (cntF (Aaa s v) (ls.take j))),.sc (.int .i64 j),.undef,.undef],[]⟩) ?_ ls.length _ ⟨0,by simp,by simp[cntF]⟩
 intro k st ⟨j,hj,hs⟩
 subst hs
 by_cases hjn:j<ls.length
 ·have hw:=Cv (j:=j) (by omega)
  have hc:=AaP (f:=Aaa s v) hjn
  have hcl:=Afa (f:=Aaa s v) (xs:=ls) (j:=j) (by omega)
  have hw2:IntKind.i64.wrap ((cntF (Aaa s v) (ls.take j):Int)+1)=(cntF (Aaa s v) (ls.take j)+1:Nat):=by rw[Ad (by omega) (by omega)];simp
  have hra:=Uz hjn
  simp -implicitDefEqProofs [hjn,hv]
  refine Aa (hB s _ hs0 (by omega)) ?_
  by_cases he:AJ s ls[j]=v
  ·simp -implicitDefEqProofs [he]
   exact⟨k-1,by omega,j+1,by omega,by rw[hc,hw2];simp[Aaa,he],by simp[hw]⟩
  ·simp -implicitDefEqProofs [he]
   exact⟨k-1,by omega,j+1,by omega,by rw[hc];simp[Aaa,he],by simp[hw]⟩
 ·have hx:=Afj (f:=Aaa s v) (xs:=ls) (j:=j) (by omega)
  simp -implicitDefEqProofs [hjn,hx]
theorem AKj (hB:FQ (D 190)):Ae1 (Body D AyD):=by
 intro s ls v hs0 hl
 have hll:=Ms (xs:=ls)
 by_cases hv:1<=v
 rotate_left
 ·have e:SN s ls v=0:=by unfold SN;rw[if_neg hv]
  have hv':v<1:=by omega
  simp -implicitDefEqProofs [e,hv']
 have e:SN s ls v=cntF (Aaa s v) ls:=by unfold SN;rw[if_pos hv]
 have hv':¬v<1:=by omega
 rw[e]
 simp -implicitDefEqProofs [hv']
 refine Ag (fun k st=>∃j,j+k=ls.length/\st=⟨[.sl 1 1 s.length (ints s),.undef,I v,.undef,.sc (.int .i64 (cntF (Aaa s v) (ls.take j))),.undef,.undef,KZ ls,.sc (.int .i64 ls.length),.sc (.int .i64 j),.undef,.undef],[]⟩) ?_ ls.length _ ⟨0,by simp,by simp[cntF]⟩
 intro k st ⟨j,hj,hs⟩
 subst hs
 by_cases hjn:j<ls.length
 ·have hw:=Cv (j:=j) (by omega)
  have hc:=AaP (f:=Aaa s v) hjn
  have hcl:=Afa (f:=Aaa s v) (xs:=ls) (j:=j) (by omega)
  have hw2:IntKind.i64.wrap ((cntF (Aaa s v) (ls.take j):Int)+1)=(cntF (Aaa s v) (ls.take j)+1:Nat):=by rw[Ad (by omega) (by omega)];simp
  have hra:=Uz hjn
  simp -implicitDefEqProofs [hjn,hv]
  refine Aa (hB s _ hs0 (by omega)) ?_
  by_cases he:AJ s ls[j]=v
  ·simp -implicitDefEqProofs [he]
   exact⟨k-1,by omega,j+1,by omega,by rw[hc,hw2];simp[Aaa,he],by simp[hw]⟩
  ·simp -implicitDefEqProofs [he]
   exact⟨k-1,by omega,j+1,by omega,by rw[hc];simp[Aaa,he],by simp[hw]⟩
 ·have hx:=Afj (f:=Aaa s v) (xs:=ls) (j:=j) (by omega)
  simp -implicitDefEqProofs [hjn,hx]
def Zk (s:List Int) (v:Int) (l:List Int):Bool:=decide (0<AJ s l)&&decide (AJ (Co s v) l=0)
def Kj (s:List Int) (ls:List (List Int)) (v:Int):List Int:=Le (Zk s v) ls 0
abbrev Ry:Prop:=∀(s:List Int) (ls:List (List Int)) (v:Int),s.length<=4194304->GR ls<=4194304->R [.sl 1 1 s.length (ints s),KZ ls,I v] [] (.sl 0 1 (Kj s ls v).length (ints (Kj s ls v))) []
theorem Ahm (hB:FQ (D 168)) (hW:Ic (D 167)):Ry (Body D L8):=by
 intro s ls v hs0 hl
 have hll:=Ms (xs:=ls)
 have hres:Kj s ls v=Le (Zk s v) ls 0:=rfl
 have hwl:=List.length_filter_le (fun x=> !decide (x=v)) s
 rw[hres]
 simp -implicitDefEqProofs
 refine Aa (hW s v hs0) ?_
 simp -implicitDefEqProofs
 refine Ag (fun k st=>∃j o2 o3,j+k=ls.length/\st=⟨[.sl 1 1 s.length (ints s),KZ ls,.undef,.undef,.arr 4,.arr 1,.sc (.int .i64 j),.undef,.undef],[.free,.arr 1 0 (Co s v).length (ints (Co s v)),o2,o3,.arr 1 0 (Le (Zk s v) (ls.take j) 0).length (ints (Le (Zk s v) (ls.take j) 0))]⟩) ?_ ls.length _ ⟨0,.free,.free,by simp,by simp[Le]⟩
 intro k st ⟨j,o2,o3,hj,hs⟩
 subst hs
 by_cases hjn:j<ls.length
 ·have hw:=Cv (j:=j) (by omega)
  have hst:=Alt (p:=Zk s v) hjn
  have hln:=Af3 (p:=Zk s v) (ls.take j) 0
  have htl:(ls.take j).length<=j:=by simp;omega
  have hb:((Le (Zk s v) (ls.take j) 0).length+1)*8<=1099511627776:=by omega
  have hra:=Uz hjn
  simp -implicitDefEqProofs [hjn]
  refine Aa (hB s _ hs0 (by omega)) ?_
  by_cases h1:0<AJ s ls[j]
  rotate_left
  ·rw[if_neg (by simp[Zk,h1]),List.append_nil]at hst
   simp -implicitDefEqProofs [h1]
   exact⟨k-1,by omega,j+1,by omega,by simp[hw],by rw[hst],by rw[hst]⟩
  simp -implicitDefEqProofs [h1,hjn]
  refine Aa (hB (Co s v) ls[j] (by unfold Co;omega) (by omega)) ?_
  by_cases h2:AJ (Co s v) ls[j]=0
  ·rw[if_pos (by simp[Zk,h1,h2])]at hst
   simp -implicitDefEqProofs [h2,hb]
   exact⟨k-1,by omega,j+1,by omega,by simp[hw],by rw[hst];simp,by rw[hst]⟩
  ·rw[if_neg (by simp[Zk,h1,h2]),List.append_nil]at hst
   simp -implicitDefEqProofs [h2]
   exact⟨k-1,by omega,j+1,by omega,by simp[hw],by rw[hst],by rw[hst]⟩
 ·have hx:=AmA (p:=Zk s v) (xs:=ls) (j:=j) (by omega)
  simp -implicitDefEqProofs [hjn,hx]
theorem AGE (hB:FQ (D 190)) (hW:Aw5 (D 189)):Ry (Body D Awj):=by
 intro s ls v hs0 hl
 have hll:=Ms (xs:=ls)
 have hres:Kj s ls v=Le (Zk s v) ls 0:=rfl
 have hwl:=List.length_filter_le (fun x=> !decide (x=v)) s
 rw[hres]
 simp -implicitDefEqProofs
 refine Aa (hW s v hs0) ?_
 simp -implicitDefEqProofs
 refine Ag (fun k st=>∃j v6 v7 o1 o3 o4,j+k=ls.length/\st=⟨[.sl 1 1 s.length (ints s),.undef,.undef,.undef,.arr 5,.arr 2,v6,v7,KZ ls,.sc (.int .i64 ls.length),.sc (.int .i64 j),.undef,.undef],[.free,o1,.arr 1 0 (Co s v).length (ints (Co s v)),o3,o4,.arr 1 0 (Le (Zk s v) (ls.take j) 0).length (ints (Le (Zk s v) (ls.take j) 0))]⟩) ?_ ls.length _ ⟨0,.undef,.undef,.arr 1 0 1 [.sc (.int .i64 v)],.free,.free,by simp,by simp[Le]⟩
 intro k st ⟨j,v6,v7,o1,o3,o4,hj,hs⟩
 subst hs
 by_cases hjn:j<ls.length
 ·have hw:=Cv (j:=j) (by omega)
  have hst:=Alt (p:=Zk s v) hjn
  have hln:=Af3 (p:=Zk s v) (ls.take j) 0
  have htl:(ls.take j).length<=j:=by simp;omega
  have hb:((Le (Zk s v) (ls.take j) 0).length+1)*8<=1099511627776:=by omega
  have hra:=Uz hjn
  simp -implicitDefEqProofs [hjn]
  refine Aa (hB s _ hs0 (by omega)) ?_
  by_cases h1:0<AJ s ls[j]
  rotate_left
  ·rw[if_neg (by simp[Zk,h1]),List.append_nil]at hst
   simp -implicitDefEqProofs [h1]
   exact⟨k-1,by omega,j+1,by omega,by simp[hw],by rw[hst],by rw[hst]⟩
  simp -implicitDefEqProofs [h1,hjn]
  refine Aa (hB (Co s v) ls[j] (by unfold Co;omega) (by omega)) ?_
  by_cases h2:AJ (Co s v) ls[j]=0
  ·rw[if_pos (by simp[Zk,h1,h2])]at hst
   simp -implicitDefEqProofs [h2,hb]
   exact⟨k-1,by omega,j+1,by omega,by simp[hw],by rw[hst];simp,by rw[hst]⟩
  ·rw[if_neg (by simp[Zk,h1,h2]),List.append_nil]at hst
   simp -implicitDefEqProofs [h2]
   exact⟨k-1,by omega,j+1,by omega,by simp[hw],by rw[hst],by rw[hst]⟩
 ·have hx:=AmA (p:=Zk s v) (xs:=ls) (j:=j) (by omega)
  simp -implicitDefEqProofs [hjn,hx]
theorem AmE (s:List Int) (ls:List (List Int)) (v:Int):SN s ls v<=ls.length:=by
 unfold SN
 split
 ·have:=Afa (f:=Aaa s v) (xs:=ls) (j:=ls.length) (by omega)
  rwa [List.take_length]at this
 ·omega
def FP (s:List Int) (ls:List (List Int)) (v pm:Int):Bool:=AQ s&&(decide (v∈s)&&(!decide (s.length=1)&&(decide (InV pm 0 1000)&&(decide (Kj s ls v=[])&&decide (1000*(SN s ls v:Int)<=pm*(ls.length:Int))))))
abbrev PG:Prop:=∀(s:List Int) (ls:List (List Int)) (v pm:Int),s.length<=4194304->GR ls<=4194304->R [.sl 1 1 s.length (ints s),KZ ls,I v,I pm] [] (B (FP s ls v pm)) []
theorem Ae7 (hA:Dr (D 208)) (hH:UQ (D 166)) (hI:Vf (D 71)) (hS:Ry (D 96)) (hU:Ae1 (D 255)):PG (Body D KF):=by
 intro s ls v pm hs0 hl
 have hll:=Ms (xs:=ls)
 simp -implicitDefEqProofs
 refine Aa (hA s (by unfold maxLen;omega)) ?_
 by_cases h1:AQ s=true
 rotate_left
 ·simp -implicitDefEqProofs [h1,FP]
 simp -implicitDefEqProofs [h1]
 refine Aa (hH s v (by unfold maxLen;omega)) ?_
 by_cases h2:v∈s
 rotate_left
 ·simp -implicitDefEqProofs [h1,h2,FP]
 by_cases h3:s.length=1
 ·have h3':(s.length:Int)=1:=by omega
  simp -implicitDefEqProofs [h1,h2,h3,h3',FP]
 have h3':¬(s.length:Int)=1:=by omega
 simp -implicitDefEqProofs [h1,h2,h3,h3']
 refine Aa (hI _ _ _) ?_
 by_cases h4:InV pm 0 1000
 rotate_left
 ·simp -implicitDefEqProofs [h1,h2,h3,h3',h4,FP]
 simp -implicitDefEqProofs [h3,h3',h4]
 refine Aa (hS s ls v hs0 hl) ?_
 by_cases h5:(Kj s ls v).length=0
 rotate_left
 ·have h5':¬((Kj s ls v).length:Int)=0:=by omega
  have h5'':¬Kj s ls v=[]:=by intro h;rw[h]at h5;simp at h5
  simp -implicitDefEqProofs [h5,h5',h5'',h1,h2,h3,h4,FP]
 have h5'':Kj s ls v=[]:=List.eq_nil_of_length_eq_zero h5
 simp -implicitDefEqProofs [h5'']
 refine Aa (hU s ls v hs0 hl) ?_
 have hu:=AmE s ls v
 have w1:IntKind.i64.wrap (1000*(SN s ls v:Int))=1000*(SN s ls v:Int):=Ad (by omega) (by omega)
 have w2:IntKind.i64.wrap (pm*(ls.length:Int))=pm*(ls.length:Int):=by
  have a1:0<=pm*(ls.length:Int):=Int.mul_nonneg h4.1 (by omega)
  have a2:pm*(ls.length:Int)<=1000*4194304:=Int.mul_le_mul h4.2 (by omega) (by omega) (by omega)
  exact Ad (by omega) (by omega)
 simp -implicitDefEqProofs [h1,h2,h3,h3',h4,h5'',w1,w2,FP]
theorem AFt (hA:Dr (D 232)) (hH:UQ (D 188)) (hI:Vf (D 114)) (hS:Ry (D 124)) (hU:Ae1 (D 265)):PG (Body D AvG):=by
 intro s ls v pm hs0 hl
 have hll:=Ms (xs:=ls)
 simp -implicitDefEqProofs
 refine Aa (hA s (by unfold maxLen;omega)) ?_
 by_cases h1:AQ s=true
 rotate_left
 ·simp -implicitDefEqProofs [h1,FP]
 simp -implicitDefEqProofs [h1]
 refine Aa (hH s v (by unfold maxLen;omega)) ?_
 by_cases h2:v∈s
 rotate_left
 ·simp -implicitDefEqProofs [h1,h2,FP]
 by_cases h3:s.length=1
 ·have h3':(s.length:Int)=1:=by omega
  simp -implicitDefEqProofs [h1,h2,h3,h3',FP]
 have h3':¬(s.length:Int)=1:=by omega
 simp -implicitDefEqProofs [h1,h2,h3,h3']
 refine Aa (hI _ _ _) ?_
 by_cases h4:InV pm 0 1000
 rotate_left
 ·simp -implicitDefEqProofs [h1,h2,h3,h3',h4,FP]
 simp -implicitDefEqProofs [h3,h3',h4]
 refine Aa (hS s ls v hs0 hl) ?_
 by_cases h5:(Kj s ls v).length=0
 rotate_left
 ·have h5':¬((Kj s ls v).length:Int)=0:=by omega
  have h5'':¬Kj s ls v=[]:=by intro h;rw[h]at h5;simp at h5
  simp -implicitDefEqProofs [h5,h5',h5'',h1,h2,h3,h4,FP]
 have h5'':Kj s ls v=[]:=List.eq_nil_of_length_eq_zero h5
 simp -implicitDefEqProofs [h5'']
 refine Aa (hU s ls v hs0 hl) ?_
 have hu:=AmE s ls v
 have w1:IntKind.i64.wrap (1000*(SN s ls v:Int))=1000*(SN s ls v:Int):=Ad (by omega) (by omega)
 have w2:IntKind.i64.wrap (pm*(ls.length:Int))=pm*(ls.length:Int):=by
  have a1:0<=pm*(ls.length:Int):=Int.mul_nonneg h4.1 (by omega)
  have a2:pm*(ls.length:Int)<=1000*4194304:=Int.mul_le_mul h4.2 (by omega) (by omega) (by omega)
  exact Ad (by omega) (by omega)
 simp -implicitDefEqProofs [h1,h2,h3,h3',h4,h5'',w1,w2,FP]
def GN (s:List Int) (ls:List (List Int)) (v pm:Int):List Int×Bool:=if FP s ls v pm=true then(Co s v,true)else(s,false)
abbrev IG:Prop:=∀(s:List Int) (ls:List (List Int)) (v pm:Int),s.length<=4194304->GR ls<=4194304->R [.sl 1 1 s.length (ints s),KZ ls,I v,I pm] [] (.tup [.sl 0 1 (GN s ls v pm).1.length (ints (GN s ls v pm).1),B (GN s ls v pm).2]) []
theorem Xt (hM:PG (D 216)) (hW:Ic (D 167)):IG (Body D GQ):=by
 intro s ls v pm hs0 hl
 have hll:=Ms (xs:=ls)
 have hb:s.length*8<=1099511627776:=by omega
 simp -implicitDefEqProofs
 refine Aa (hM s ls v pm hs0 hl) ?_
 by_cases h1:FP s ls v pm=true
 rotate_left
 ·have e:GN s ls v pm=(s,false):=by unfold GN;rw[if_neg h1]
  simp -implicitDefEqProofs [h1,e,hb]
 have e:GN s ls v pm=(Co s v,true):=by unfold GN;rw[if_pos h1]
 simp -implicitDefEqProofs [h1,e]
 refine Aa (hW s v hs0) ?_
 simp -implicitDefEqProofs [h1,e]
theorem ABl (hM:PG (D 231)) (hW:Aw5 (D 189)):IG (Body D AtH):=by
 intro s ls v pm hs0 hl
 have hll:=Ms (xs:=ls)
 have hb:s.length*8<=1099511627776:=by omega
 simp -implicitDefEqProofs
 refine Aa (hM s ls v pm hs0 hl) ?_
 by_cases h1:FP s ls v pm=true
 rotate_left
 ·have e:GN s ls v pm=(s,false):=by unfold GN;rw[if_neg h1]
  simp -implicitDefEqProofs [h1,e,hb]
 have e:GN s ls v pm=(Co s v,true):=by unfold GN;rw[if_pos h1]
 simp -implicitDefEqProofs [h1,e]
 refine Aa (hW s v hs0) ?_
 simp -implicitDefEqProofs [h1,e]
theorem Ahq {w:World} (h:Af w<=4194304):w.server.length<=4194304:=by unfold Af at h;omega
theorem Ap5 (xs:List Ai):GR (xs.map (·.versions))<=Cr Am xs:=by
 induction xs with
 | nil=>simp[GR,Cr]
 | cons x r ih=>
  simp only[GR,Cr,List.map_cons,List.sum_cons,List.length_cons,Am,List.length_map]at *
  omega
theorem Ahj {w:World} (h:Af w<=4194304):GR (Fh w)<=4194304:=by
 have:=Ap5 w.ends
 unfold Af at h
 unfold Fh
 omega
def Br (w:World) (v pm:Int):World×Bool:=if(GN w.server (Fh w) v pm).2=true/\¬v=w.rollout.version then({w with server:=(GN w.server (Fh w) v pm).1},true)else(w,false)
abbrev MZ:Prop:=∀(w:World) (v pm:Int),Af w<=4194304->R [arg (Bu w),I v,I pm] [] (.tup [.agg (Bu (Br w v pm).1),B (Br w v pm).2]) []
theorem AcI (hC:EF (D 22)) (hL:Q8 (D 95)) (hR:IG (D 150)):MZ (Body D Jq):=by
 intro w v pm h
 simp -implicitDefEqProofs
 refine Aa (hC w h) ?_
 simp -implicitDefEqProofs
 refine Aa (hL w h) ?_
 simp -implicitDefEqProofs
 refine Aa (hR w.server (Fh w) v pm (Ahq h) (Ahj h)) ?_
 by_cases h1:(GN w.server (Fh w) v pm).2=true
 rotate_left
 ·have e:Br w v pm=(w,false):=by unfold Br;rw[if_neg (by simp[h1])]
  simp -implicitDefEqProofs [h1,e]
 by_cases h2:v=w.rollout.version
 ·subst h2
  have e:Br w w.rollout.version pm=(w,false):=by unfold Br;rw[if_neg (by simp)]
  simp -implicitDefEqProofs [h1,e]
 have e:Br w v pm=({w with server:=(GN w.server (Fh w) v pm).1},true):=by unfold Br;rw[if_pos ⟨h1,h2⟩]
 simp -implicitDefEqProofs [h1,h2,e]
theorem AEm (hC:EF (D 38)) (hL:Q8 (D 123)) (hR:IG (D 181)):MZ (Body D AuS):=by
 intro w v pm h
 simp -implicitDefEqProofs
 refine Aa (hC w h) ?_
 simp -implicitDefEqProofs
 refine Aa (hL w h) ?_
 simp -implicitDefEqProofs
 refine Aa (hR w.server (Fh w) v pm (Ahq h) (Ahj h)) ?_
 by_cases h1:(GN w.server (Fh w) v pm).2=true
 rotate_left
 ·have e:Br w v pm=(w,false):=by unfold Br;rw[if_neg (by simp[h1])]
  simp -implicitDefEqProofs [h1,e]
 by_cases h2:v=w.rollout.version
 ·subst h2
  have e:Br w w.rollout.version pm=(w,false):=by unfold Br;rw[if_neg (by simp)]
  simp -implicitDefEqProofs [h1,e]
 have e:Br w v pm=({w with server:=(GN w.server (Fh w) v pm).1},true):=by unfold Br;rw[if_pos ⟨h1,h2⟩]
 simp -implicitDefEqProofs [h1,h2,e]
set_option maxHeartbeats 1000000
def leftOf (a b:List Int):List Int:=a.filter fun v=> !decide (v∈b)
abbrev AfF:Prop:=∀a b:List Int,a.length<=4194304->b.length<=4194304->R [.sl 1 1 a.length (ints a),.sl 1 1 b.length (ints b)] [] (.sl 0 1 (leftOf a b).length (ints (leftOf a b))) []
theorem AlH (hH:UQ (D 166)):AfF (Body D NC):=by
 intro a b ha hb
 have hres:leftOf a b=a.filter (fun v=> !decide (v∈b)):=rfl
 rw[hres]
 simp -implicitDefEqProofs
 refine Ag (fun k s=>∃j o1 o2,j+k=a.length/\s=⟨[.sl 1 1 a.length (ints a),.sl 1 1 b.length (ints b),.undef,.arr 3,I j,.undef,.undef],[.free,o1,o2,.arr 1 0 ((a.take j).filter (fun v=> !decide (v∈b))).length (ints ((a.take j).filter (fun v=> !decide (v∈b))))]⟩) ?_ (a.length) _ ⟨0,.free,.free,by simp,by simp⟩
 intro k s ⟨j,o1,o2,hj,hs⟩
 subst hs
 by_cases hjn:j<a.length
 ·have hw:=Cv (j:=j) (by omega)
  have hst:=LD (p:=fun v=> !decide (v∈b)) hjn
  have hln:=Oa (p:=fun v=> !decide (v∈b)) (xs:=a) (j:=j)
  have hbd:(((a.take j).filter (fun v=> !decide (v∈b))).length+1)*8<=1099511627776:=by omega
  simp -implicitDefEqProofs [hjn]
  refine Aa (hH b _ (by unfold maxLen;omega)) ?_
  by_cases h1:a[j]∈b
  ·rw[if_neg (by simp[h1]),List.append_nil]at hst
   simp -implicitDefEqProofs [h1,hjn,hbd]
   exact⟨k-1,by omega,j+1,by omega,by simp[hw],by rw[hst],by rw[hst]⟩
  ·rw[if_pos (by simp[h1])]at hst
   simp -implicitDefEqProofs [h1,hjn,hbd]
   exact⟨k-1,by omega,j+1,by omega,by simp[hw],by rw[hst];simp,by rw[hst]⟩
 ·have hx:=N7 (p:=fun v=> !decide (v∈b)) (xs:=a) (j:=j) (by omega)
  simp -implicitDefEqProofs [hjn,hx]
theorem AHL (hH:UQ (D 188)):AfF (Body D AtM):=by
 intro a b ha hb
 have hres:leftOf a b=a.filter (fun v=> !decide (v∈b)):=rfl
 rw[hres]
 simp -implicitDefEqProofs
 refine Ag (fun k s=>∃j v4 o1 o2,j+k=a.length/\s=⟨[.undef,.sl 1 1 b.length (ints b),.undef,.arr 3,v4,.sl 1 1 a.length (ints a),I a.length,I j,.undef,.undef],[.free,o1,o2,.arr 1 0 ((a.take j).filter (fun v=> !decide (v∈b))).length (ints ((a.take j).filter (fun v=> !decide (v∈b))))]⟩) ?_ (a.length) _ ⟨0,.undef,.free,.free,by simp,by simp⟩
 intro k s ⟨j,v4,o1,o2,hj,hs⟩
 subst hs
 by_cases hjn:j<a.length
 ·have hw:=Cv (j:=j) (by omega)
  have hst:=LD (p:=fun v=> !decide (v∈b)) hjn
  have hln:=Oa (p:=fun v=> !decide (v∈b)) (xs:=a) (j:=j)
  have hbd:(((a.take j).filter (fun v=> !decide (v∈b))).length+1)*8<=1099511627776:=by omega
  simp -implicitDefEqProofs [hjn]
  refine Aa (hH b _ (by unfold maxLen;omega)) ?_
  by_cases h1:a[j]∈b
  ·rw[if_neg (by simp[h1]),List.append_nil]at hst
   simp -implicitDefEqProofs [h1,hjn,hbd]
   exact⟨k-1,by omega,j+1,by omega,by simp[hw],by rw[hst],by rw[hst]⟩
  ·rw[if_pos (by simp[h1])]at hst
   simp -implicitDefEqProofs [h1,hjn,hbd]
   exact⟨k-1,by omega,j+1,by omega,by simp[hw],by rw[hst];simp,by rw[hst]⟩
 ·have hx:=N7 (p:=fun v=> !decide (v∈b)) (xs:=a) (j:=j) (by omega)
  simp -implicitDefEqProofs [hjn,hx]
def upTo (xs:List Int) (i:Nat):Bool:=decide (i=0)||decide (xs.getD (i-1) 0<xs.getD i 0)
def FI (xs:List Int):Bool:=Oj (upTo xs) xs.length&&allIn xs 0 255
abbrev VF:Prop:=∀xs:List Int,xs.length<=maxLen->R [.sl 1 1 xs.length (ints xs)] [] (B (FI xs)) []
theorem Ya {xs:List Int} {j:Nat} (h:j<xs.length) (hn:¬M6 xs[j] 0 255):FI xs=false:=by unfold FI;rw[Ahh h hn];simp
theorem XV {xs:List Int} {j:Nat} (h:j<xs.length) (hn:upTo xs j=false):FI xs=false:=by unfold FI;rw[AhE h hn];simp
theorem Xk (xs:List Int):upTo xs 0=true:=by simp[upTo]
theorem VI {xs:List Int} {j:Nat} (h0:¬j=0) (h:j<xs.length) (h':j-1<xs.length):upTo xs j=decide (xs[j-1]<xs[j]):=by
 unfold upTo
 rw[VG h,VG h']
 simp[h0]
theorem Aiw (hI:Vf (D 71)):VF (Body D Nz):=by
 intro xs hl
 unfold maxLen at hl
 simp -implicitDefEqProofs
 refine Ag (fun k s=>∃j,j+k=xs.length/\allIn (xs.take j) 0 255=true/\Oj (upTo xs) j=true/\s=⟨[.sl 1 1 xs.length (ints xs),.undef,I j,.undef,.undef],[]⟩) ?_ (xs.length) _ ⟨0,by simp,by simp[allIn],by simp,by simp⟩
 intro k s ⟨j,hj,hp,hr,hs⟩
 subst hs
 by_cases hjn:j<xs.length
 ·have hw:=Cv (j:=j) (by omega)
  have hst:=LY (upTo xs) j
  rw[hr,Bool.true_and]at hst
  simp -implicitDefEqProofs [hjn]
  refine Aa (hI _ _ _) ?_
  by_cases h1:M6 xs[j] 0 255
  rotate_left
  ·simp -implicitDefEqProofs [h1,Ya hjn h1]
  by_cases h0:j=0
  ·subst h0
   simp -implicitDefEqProofs [h1]
   exact⟨k-1,by omega,1,by omega,by rw[LU hjn,hp];simp[h1],by rw[hst,Xk],by simpa using hw⟩
  ·have hw2:IntKind.i64.wrap ((j:Int)-1)=((j-1:Nat):Int):=by rw[Ad (by omega) (by omega)];omega
   have h2:(0:Int)<j:=by omega
   have h2':0<j:=by omega
   have h3:j-1<xs.length:=by omega
   rw[VI h0 hjn h3]at hst
   by_cases h4:xs[j-1]<xs[j]
   ·have h4':¬xs[j]<=xs[j-1]:=by omega
    simp -implicitDefEqProofs [h1,h2,h2',hw2,h3,hjn,h4']
    exact⟨k-1,by omega,j+1,by omega,by rw[LU hjn,hp];simp[h1],by rw[hst];simp[h4],by simp[hw]⟩
   ·have e:=XV hjn (by rw[VI h0 hjn h3];simp[h4])
    have h4':xs[j]<=xs[j-1]:=by omega
    simp -implicitDefEqProofs [h1,h2,h2',hw2,h3,hjn,h4',e]
 ·obtain rfl:j=xs.length:=by omega
  have e:FI xs=true:=by unfold FI;rw[hr,Wt (by omega) hp];rfl
  simp -implicitDefEqProofs [e]
theorem AH1 (hN:AsS (D 233)):VF (Body D AwG):=by
 intro xs hl
 have hl0:=hl
 unfold maxLen at hl
 simp -implicitDefEqProofs
 refine Ag (fun k s=>∃j,j+k=xs.length/\Oj (upTo xs) j=true/\s=⟨[.sl 1 1 xs.length (ints xs),.undef,.undef,.undef,.sl 1 1 xs.length (ints xs),I xs.length,I j,.undef,.undef],[]⟩) ?_ (xs.length) _ ⟨0,by simp,by simp,by simp⟩
 intro k s ⟨j,hj,hr,hs⟩
 subst hs
 by_cases hjn:j<xs.length
 ·have hw:=Cv (j:=j) (by omega)
  have hst:=LY (upTo xs) j
  rw[hr,Bool.true_and]at hst
  by_cases h0:j=0
  ·subst h0
   simp -implicitDefEqProofs [hjn]
   exact⟨k-1,by omega,1,by omega,by rw[hst,Xk],by simpa using hw⟩
  ·have hw2:IntKind.i64.wrap ((j:Int)-1)=((j-1:Nat):Int):=by rw[Ad (by omega) (by omega)];omega
   have h2:(0:Int)<j:=by omega
   have h2':0<j:=by omega
   have h3:j-1<xs.length:=by omega
   rw[VI h0 hjn h3]at hst
   by_cases h4:xs[j-1]<xs[j]
   ·have h4':¬xs[j]<=xs[j-1]:=by omega
    simp -implicitDefEqProofs [h2,h2',hw2,h3,hjn,h4']
    exact⟨k-1,by omega,j+1,by omega,by rw[hst];simp[h4],by simp[hw]⟩
   ·have e:=XV hjn (by rw[VI h0 hjn h3];simp[h4])
    have h4':xs[j]<=xs[j-1]:=by omega
    simp -implicitDefEqProofs [h2,h2',hw2,h3,hjn,h4',e]
 ·obtain rfl:j=xs.length:=by omega
  have e:FI xs=allIn xs 0 255:=by unfold FI;rw[hr];rfl
  simp -implicitDefEqProofs
  refine Aa (hN xs _ _ hl0) ?_
  simp -implicitDefEqProofs [e]
def Au (e:Ai):Bool:=AQ e.versions&&(decide (e.tags.length<=5)&&(FI e.tags&&(!e.tags.any BH&&(decide (e.path.length<=4)&&(e.path.all IL&&decide (M6 e.cls 0 5))))))
abbrev Ij:Prop:=∀e:Ai,AbY e->R [arg (Ah e)] [] (B (Au e)) []
theorem Ac1 (hI:Vf (D 71)) (hR:Ib (D 250)) (hX:XD (D 152)) (hA:Dr (D 208)):Ij (Body D JC):=by
 intro e hl
 obtain⟨hl1,hl2,hl3⟩:=hl
 have hl4:=hl3.1
 have hl2':=hl2
 unfold Nr at hl2
 unfold maxLen at hl2 hl4
 simp -implicitDefEqProofs
 refine Ag (fun k s=>∃j,j+k=e.tags.length/\allIn (e.tags.take j) 0 255=true/\Oj (upTo e.tags) j=true/\(e.tags.take j).any BH=false/\s=⟨[.undef,.ptr 0 0,.undef,I j,.undef,.undef,.undef,.undef,.undef],[.var ((Ah e).map (AO 1))]⟩) ?_ (e.tags.length) _ ⟨0,by simp,by simp[allIn],by simp,by simp,by simp⟩
 intro k s ⟨j,hj,hp,hr,hq,hs⟩
 subst hs
 by_cases hjn:j<e.tags.length
 ·have hw:=Cv (j:=j) (by omega)
  have hst:=LY (upTo e.tags) j
  rw[hr,Bool.true_and]at hst
  have hsq:=Abh (p:=BH) hjn
  rw[hq,Bool.false_or]at hsq
  simp -implicitDefEqProofs [hjn]
  refine Aa (hI _ _ _) ?_
  by_cases h1:M6 e.tags[j] 0 255
  rotate_left
  ·have e0:Au e=false:=by unfold Au;rw[Ya hjn h1];simp
   simp -implicitDefEqProofs [h1,e0]
  simp -implicitDefEqProofs [h1,hjn]
  refine Aa (hR _) ?_
  by_cases h5:BH e.tags[j]=true
  ·have e0:Au e=false:=by unfold Au;rw[QR hjn h5];simp
   simp -implicitDefEqProofs [h5,e0]
  have h5':BH e.tags[j]=false:=by simpa using h5
  by_cases h0:j=0
  ·subst h0
   simp -implicitDefEqProofs [h1,h5']
   exact⟨k-1,by omega,1,by omega,by rw[LU hjn,hp];simp[h1],by rw[hst,Xk],by simpa using hsq.trans h5',by simpa using hw⟩
  ·have hw2:IntKind.i64.wrap ((j:Int)-1)=((j-1:Nat):Int):=by rw[Ad (by omega) (by omega)];omega
   have h2:(0:Int)<j:=by omega
   have h2':0<j:=by omega
   have h3:j-1<e.tags.length:=by omega
   rw[VI h0 hjn h3]at hst
   by_cases h4:e.tags[j-1]<e.tags[j]
   ·have h4':¬e.tags[j]<=e.tags[j-1]:=by omega
    simp -implicitDefEqProofs [h1,h5',h2,h2',hw2,h3,hjn,h4']
    exact⟨k-1,by omega,j+1,by omega,by rw[LU hjn,hp];simp[h1],by rw[hst];simp[h4],by simpa using hsq.trans h5',by simp[hw]⟩
   ·have e0:Au e=false:=by unfold Au;rw[XV hjn (by rw[VI h0 hjn h3];simp[h4])];simp
    have h4':e.tags[j]<=e.tags[j-1]:=by omega
    simp -implicitDefEqProofs [h1,h5',h2,h2',hw2,h3,hjn,h4',e0]
 obtain rfl:j=e.tags.length:=by omega
 have et:FI e.tags=true:=by unfold FI;rw[hr,Wt (by omega) hp];rfl
 have er:e.tags.any BH=false:=any_none (by omega) hq
 simp -implicitDefEqProofs
 refine Ag (fun k s=>∃j,j+k=e.path.length/\(e.path.take j).all IL=true/\s=⟨[.undef,.ptr 0 0,.undef,.undef,I j,.undef,.undef,.undef,.undef],[.var ((Ah e).map (AO 1))]⟩) ?_ (e.path.length) _ ⟨0,by simp,by simp,by simp⟩
 intro k s ⟨j,hj,hb,hs⟩
 subst hs
 by_cases hjn:j<e.path.length
 ·have hw:=Cv (j:=j) (by omega)
  have hst:=Qm (p:=IL) hjn
  rw[hb,Bool.true_and]at hst
  simp -implicitDefEqProofs [hjn]
  refine Aa (hX _ (hl3.2 j hjn)) ?_
  by_cases h1:IL e.path[j]=true
  ·simp -implicitDefEqProofs [h1]
   exact⟨k-1,by omega,j+1,by omega,by simpa using hst.trans h1,by simp[hw]⟩
  ·have e0:Au e=false:=by unfold Au;rw[NP hjn (by simpa using h1)];simp
   simp -implicitDefEqProofs [h1,e0]
 have eb:e.path.all IL=true:=by rw[<-VW (j:=j) (by omega),hb]
 simp -implicitDefEqProofs [hjn]
 refine Aa (hA _ hl1) ?_
 by_cases g1:AQ e.versions=true
 rotate_left
 ·simp -implicitDefEqProofs [g1,Au]
 by_cases g2:e.tags.length<=5
 rotate_left
 ·have g2':¬(e.tags.length:Int)<=5:=by omega
  simp -implicitDefEqProofs [g1,g2,g2',Au]
 have g2':(e.tags.length:Int)<=5:=by omega
 by_cases g3:e.path.length<=4
 rotate_left
 ·have g3':¬(e.path.length:Int)<=4:=by omega
  simp -implicitDefEqProofs [g1,g2,g2',g3,g3',Au]
 have g3':(e.path.length:Int)<=4:=by omega
 simp -implicitDefEqProofs [g1,g2',g3']
 refine Aa (hI _ _ _) ?_
 have ee:Au e=decide (M6 e.cls 0 5):=by unfold Au;rw[et,er,eb];simp[g1,g2,g3]
 simp -implicitDefEqProofs [ee]
abbrev AvT:Prop:=∀b:EG,Kh b->R [arg (DT b)] [] (B (!IL b)) []
theorem AEH (hX:XD (D 183)):AvT (Body D At2):=by
 intro b hb
 simp -implicitDefEqProofs
 refine Aa (hX b hb) ?_
 simp -implicitDefEqProofs
theorem AC2 {α:Type} (p:α->Bool) (xs:List α):(xs.any fun x=> !p x)= !xs.all p:=by rw[List.all_eq_not_any_not];simp
theorem AE1 (hA:Dr (D 232)) (hT:VF (D 235)) (hH:At7 (D 270)) (h1:AvT (D 271)) (hC:As3 D (D 272)) (hI:Vf (D 114)):Ij (Body D AuD):=by
 intro e hl
 obtain⟨hl1,hl2,hl3⟩:=hl
 simp -implicitDefEqProofs
 refine Aa (hA _ hl1) ?_
 by_cases g1:AQ e.versions=true
 rotate_left
 ·simp -implicitDefEqProofs [g1,Au]
 by_cases g2:e.tags.length<=5
 rotate_left
 ·have g2':¬(e.tags.length:Int)<=5:=by omega
  simp -implicitDefEqProofs [g1,g2,g2',Au]
 have g2':(e.tags.length:Int)<=5:=by omega
 simp -implicitDefEqProofs [g1,g2']
 refine Aa (hT _ hl2) ?_
 by_cases g4:FI e.tags=true
 rotate_left
 ·simp -implicitDefEqProofs [g4,Au]
 simp -implicitDefEqProofs [g4]
 refine Aa (hH _ hl2) ?_
 by_cases g5:e.tags.any BH=true
 ·have e0:Au e=false:=by unfold Au;rw[g5];simp
  generalize e.tags.any BH=q at g5
  subst g5
  simp -implicitDefEqProofs [e0]
 have g5':e.tags.any BH=false:=by simpa using g5
 have ee:Au e=(decide (e.path.length<=4)&&(e.path.all IL&&decide (M6 e.cls 0 5))):=by unfold Au;rw[g5',g1,g4];simp[g2]
 rw[ee]
 generalize e.tags.any BH=q at g5'
 subst g5'
 by_cases g3:e.path.length<=4
 rotate_left
 ·have g3':¬(e.path.length:Int)<=4:=by omega
  simp -implicitDefEqProofs [g3,g3']
 have g3':(e.path.length:Int)<=4:=by omega
 simp -implicitDefEqProofs [g3,g3']
 refine Aa (hC e.path 271 [] (fun b=> !IL b) hl3.1 Api (fun j hj=>h1 e.path[j] (hl3.2 j hj))) ?_
 rw[AC2]
 generalize e.path.all IL=q
 by_cases g6:q=true
 rotate_left
 ·simp -implicitDefEqProofs [g6]
 simp -implicitDefEqProofs [g6]
 refine Aa (hI _ _ _) ?_
 simp -implicitDefEqProofs
theorem Ap2 {b:EG} (h:Gm b<=4194304):Kh b:=by
 unfold Gm at h
 exact⟨by unfold Nr maxLen;omega,by unfold Nr maxLen;omega⟩
theorem Aeg {p:List EG} (h:Cr Gm p<=4194304):lnS Kh p:=
 ⟨by have:=J9 (f:=Gm) (xs:=p);unfold maxLen;omega,fun j hj=>Ap2 (by have:=size_at (f:=Gm) hj;omega)⟩
theorem AhO {e:Ai} (h:Am e<=4194304):AbY e:=by
 unfold Am at h
 exact⟨by unfold Nr maxLen;omega,by unfold Nr maxLen;omega,Aeg (by omega)⟩
theorem AdH {w:World} (h:Af w<=4194304) {n:Nat} (hn:n<w.ends.length):Am w.ends[n]<=4194304:=by
 have:=size_at (f:=Am) hn
 have:=(Od h).2.2.1
 omega
theorem Adq {e:Ai} (h:Am e<=4194304):e.versions.length<=4194304:=by unfold Am at h;omega
def Axs (e:Ai) (s:List Int):Int:=if Au e=true then AJ s (leftOf e.versions (BZ e.path e.versions))else 0
abbrev AAY:Prop:=∀(e:Ai) (s:List Int),Am e<=4194304->s.length<=4194304->R [arg (Ah e),.sl 1 1 s.length (ints s)] [] (I (Axs e s)) []
theorem Am3 (path:List EG) (vs:List Int):(BZ path vs).length<=vs.length:=by
 unfold BZ
 split
 ·exact List.length_filter_le _ _
 ·simp
theorem AKk (a b:List Int):(leftOf a b).length<=a.length:=List.length_filter_le _ _
theorem AHO (hE:Ij (D 239)) (hV:JH (D 240)) (hL:AfF (D 189)) (hB:FQ (D 190)):AAY (Body D AwU):=by
 intro e s hsz hs
 have hl:=AhO hsz
 have hv:=Adq hsz
 obtain⟨hl1,hl2,hl3⟩:=hl
 simp -implicitDefEqProofs
 refine Aa (hE e (AhO hsz)) ?_
 by_cases h1:Au e=true
 rotate_left
 ·simp -implicitDefEqProofs [h1,Axs]
 have hll:=Am3 e.path e.versions
 have hll2:=AKk e.versions (BZ e.path e.versions)
 simp -implicitDefEqProofs [h1]
 refine Aa (hV e.path e.versions hl3 hv) ?_
 simp -implicitDefEqProofs
 refine Aa (hL e.versions (BZ e.path e.versions) hv (by omega)) ?_
 simp -implicitDefEqProofs
 refine Aa (hB s (leftOf e.versions (BZ e.path e.versions)) hs (by omega)) ?_
 simp -implicitDefEqProofs [Axs,h1]
def AsR (w:World) (i:Int):Int:=if NJ i 0 ((w.ends.length:Int)-1)then(match w.ends[i.toNat]? with | some e=>Axs e w.server | none=>0)else 0
abbrev Ayv:Prop:=∀(w:World) (i:Int),Af w<=4194304->R [arg (Bu w),I i] [] (I (AsR w i)) []
theorem AHR (hI:Au5 (D 117)) (hB:AAY (D 186)):Ayv (Body D AwW):=by
 intro w i hsz
 have he:=FE hsz
 simp -implicitDefEqProofs
 refine Aa (hI w i he) ?_
 by_cases h1:NJ i 0 ((w.ends.length:Int)-1)
 rotate_left
 ·simp -implicitDefEqProofs [h1,AsR]
 obtain⟨n,rfl⟩:∃n:Nat,i=n:=⟨i.toNat,by have:=h1.1;omega⟩
 have hn:n<w.ends.length:=by have:=h1.2;omega
 have hb:=Od hsz
 have hes:=AdH hsz hn
 have e:AsR w n=Axs w.ends[n] w.server:=by unfold AsR;rw[if_pos h1];simp[hn]
 rw[e]
 simp -implicitDefEqProofs [h1,hn]
 refine Aa (hB w.ends[n] w.server hes hb.1) ?_
 simp -implicitDefEqProofs
set_option maxHeartbeats 2000000
abbrev Auq (D:Dn) (R:Rel):Prop:=∀(xs:List (List Int)) (g:Nat) (caps:List V) (p:List Int->Bool),xs.length<=maxLen->Atz caps->(∀(j:Nat) (h:j<xs.length),D g (.sl 1 1 xs[j].length (ints xs[j])::caps) [] (B (p xs[j])) [])->R [KZ xs,.fn g caps] [] (I (Rc p xs 0)) []
theorem ACy:Auq D (Body D ApB):=by
 intro xs g caps p hl hc hp
 unfold maxLen at hl
 simp -implicitDefEqProofs
 refine Ag (fun k s=>∃j,j+k=xs.length/\Rc p xs 0=Rc p (xs.drop j) j/\s=⟨[KZ xs,.fn g caps,.undef,.undef,I xs.length,I j,.undef,.undef],[]⟩) ?_ (xs.length) _ ⟨0,by simp,by simp,by simp⟩
 intro k s ⟨j,hj,hi,hs⟩
 subst hs
 by_cases hjn:j<xs.length
 ·have hw:=Cv (j:=j) (by omega)
  rw[AkE hjn]at hi
  simp -implicitDefEqProofs [hjn,hc.1,hc.2.1]
  refine Aa (hp j hjn) ?_
  by_cases he:p xs[j]=true
  ·rw[if_pos he]at hi
   simp -implicitDefEqProofs [he,hi]
  ·rw[if_neg he]at hi
   simp -implicitDefEqProofs [he]
   exact⟨k-1,by omega,j+1,by omega,by simpa using hi,by simp[hw]⟩
 ·rw[Am6 (by omega)]at hi
  simp -implicitDefEqProofs [hjn,hi]
abbrev AsQ (D:Dn) (R:Rel):Prop:=∀(xs:List (List Int)) (g:Nat) (caps:List V) (p:List Int->Bool),xs.length<=maxLen->Atz caps->(∀(j:Nat) (h:j<xs.length),D g (.sl 1 1 xs[j].length (ints xs[j])::caps) [] (B (p xs[j])) [])->R [KZ xs,.fn g caps] [] (B (xs.any p)) []
theorem AzK (hI:Auq D (D 405)):AsQ D (Body D AnX):=by
 intro xs g caps p hl hc hp
 simp -implicitDefEqProofs [hc.2.2]
 refine Aa (hI xs g caps p hl hc hp) ?_
 have e:decide (0<=Rc p xs 0)=xs.any p:=by rw[Bool.eq_iff_iff];simp only[decide_eq_true_eq];rw[AjA (by omega)]
 simp -implicitDefEqProofs [e]
def reach (s l:List Int):Bool:= !decide (AJ s l=0)
def FY (s:List Int) (ls:List (List Int)):Bool:=AQ s&&ls.all (reach s)
abbrev RP:Prop:=∀(s:List Int) (ls:List (List Int)),s.length<=4194304->GR ls<=4194304->R [.sl 1 1 s.length (ints s),KZ ls] [] (B (FY s ls)) []
theorem AhG (hB:FQ (D 168)) (hA:Dr (D 208)):RP (Body D LQ):=by
 intro sv ls hs hl
 have hll:=Ms (xs:=ls)
 simp -implicitDefEqProofs
 refine Ag (fun k s=>∃j,j+k=ls.length/\(ls.take j).all (reach sv)=true/\s=⟨[.sl 1 1 sv.length (ints sv),KZ ls,.undef,I j,.undef,.undef],[]⟩) ?_ (ls.length) _ ⟨0,by simp,by simp,by simp⟩
 intro k s ⟨j,hj,hp,hs⟩
 subst hs
 by_cases hjn:j<ls.length
 ·have hw:=Cv (j:=j) (by omega)
  have hst:=Qm (p:=reach sv) hjn
  rw[hp,Bool.true_and]at hst
  have hra:=Uz hjn
  simp -implicitDefEqProofs [hjn]
  refine Aa (hB sv _ hs (by omega)) ?_
  by_cases h1:AJ sv ls[j]=0
  ·have e:FY sv ls=false:=by unfold FY;rw[NP hjn (by simp[reach,h1])];simp
   simp -implicitDefEqProofs [h1,e,Aqs]
  ·simp -implicitDefEqProofs [h1,Aqs]
   exact⟨k-1,by omega,j+1,by omega,by simpa using hst.trans (show reach sv ls[j]=true by simp[reach,h1]),by simp[hw]⟩
 ·have e:FY sv ls=AQ sv:=by unfold FY;rw[<-VW (j:=j) (by omega),hp];simp
  simp -implicitDefEqProofs [hjn]
  refine Aa (hA sv (by unfold maxLen;omega)) ?_
  simp -implicitDefEqProofs [e]
abbrev Axn:Prop:=∀(s l:List Int),s.length<=4194304->l.length<=4194304->R [.sl 1 1 l.length (ints l),.rptr 1 [.sl 0 1 s.length (ints s)] 0] [] (B (!reach s l)) []
theorem AGA (hB:FQ (D 190)):Axn (Body D AuY):=by
 intro s l hs hl
 simp -implicitDefEqProofs
 refine Aa (hB s l hs hl) ?_
 simp -implicitDefEqProofs [reach,Aqs]
theorem AHr (hA:Dr (D 232)) (h1':Axn (D 268)) (hC:AsQ D (D 269)):RP (Body D Awf):=by
 intro s ls hs hl
 have hll:=Ms (xs:=ls)
 simp -implicitDefEqProofs
 refine Aa (hA s (by unfold maxLen;omega)) ?_
 by_cases h1:AQ s=true
 rotate_left
 ·simp -implicitDefEqProofs [h1,FY]
 simp -implicitDefEqProofs [h1]
 refine Aa (hC ls 268 _ (fun l=> !reach s l) (by unfold maxLen;omega) (AzG Api) (fun j hj=>h1' s ls[j] hs (by have:=Uz hj;omega))) ?_
 rw[AC2]
 generalize hq:ls.all (reach s)=q
 simp -implicitDefEqProofs [FY,h1,hq]
def Mj (k:Int):Bool:=decide (M6 k 1 2147483646)
abbrev Oe:Prop:=∀k:Int,R [I k] [] (B (Mj k)) []
theorem Aht (hI:Vf (D 71)):Oe (Body D Jd):=by
 intro k
 simp -implicitDefEqProofs
 refine Aa (hI _ _ _) ?_
 simp -implicitDefEqProofs [Mj]
theorem AHy (hI:Vf (D 114)):Oe (Body D AuX):=by
 intro k
 simp -implicitDefEqProofs
 refine Aa (hI _ _ _) ?_
 simp -implicitDefEqProofs [Mj]
def Ke (w:World):Bool:=FY w.server (Fh w)&&(FI w.tags&&Mj w.key)
def FM (w:World):Bool:=AP w.rollout&&(decide (w.rollout.version∈w.server)&&(decide (M6 w.least 1 100)&&decide (M6 w.percent 0 100)))
def Es (w:World):Bool:=decide (w.stage.length<=60)&&(decide (w.log.length<=60)&&(decide (M6 w.now 0 10000)&&(decide (M6 w.hurt 0 w.log.length)&&decide (M6 w.reached 0 w.rollout.stages.length))))
def Ap (w:World):Bool:=Ke w&&(decide (w.ends.length<=6)&&(w.ends.all Au&&(FM w&&Es w)))
abbrev U3:Prop:=∀w:World,Af w<=4194304->R [arg (Bu w)] [] (B (Ap w)) []
abbrev AyN:Prop:=∀e:Ai,Am e<=4194304->R [arg (Ah e)] [] (B (!Au e)) []
theorem AIa (hE:Ij (D 239)):AyN (Body D Avk):=by
 intro e h
 simp -implicitDefEqProofs
 refine Aa (hE e (AhO h)) ?_
 simp -implicitDefEqProofs
theorem AIC (hL:Q8 (D 123)) (hA:RP (D 234)) (hT:VF (D 235)) (hK:Oe (D 236)) (h1':AyN (D 237)) (hC:AsI D (D 238)) (hR:FX (D 176)) (hH:UQ (D 188)) (hI:Vf (D 114)):U3 (Body D AwR):=by
 intro w hsz
 have hs:=Od hsz
 have he:=FE hsz
 simp -implicitDefEqProofs
 refine Aa (hL w hsz) ?_
 simp -implicitDefEqProofs
 refine Aa (hA w.server (Fh w) hs.1 (Ahj hsz)) ?_
 by_cases a1:FY w.server (Fh w)=true
 rotate_left
 ·simp -implicitDefEqProofs [a1,Ap,Ke]
 simp -implicitDefEqProofs [a1]
 refine Aa (hT w.tags (by unfold maxLen;omega)) ?_
 by_cases a2:FI w.tags=true
 rotate_left
 ·simp -implicitDefEqProofs [a2,Ap,Ke]
 simp -implicitDefEqProofs [a2]
 refine Aa (hK w.key) ?_
 by_cases a3:Mj w.key=true
 rotate_left
 ·simp -implicitDefEqProofs [a3,Ap,Ke]
 by_cases e1:w.ends.length<=6
 rotate_left
 ·have e1':(6:Int)<w.ends.length:=by omega
  simp -implicitDefEqProofs [a3,e1',e1,Ap]
 have e1':¬(6:Int)<w.ends.length:=by omega
 simp -implicitDefEqProofs [a3,e1']
 refine Aa (hC w.ends 237 [] (fun e=> !Au e) (by unfold maxLen;omega) Api (fun j hj=>h1' w.ends[j] (AdH hsz hj))) ?_
 rw[AC2]
 generalize hq:w.ends.all Au=q
 by_cases e2:q=true
 rotate_left
 ·have e:Ap w=false:=by unfold Ap;rw[hq];simp[e2]
  simp -implicitDefEqProofs [e2,e]
 have hq':=hq.trans e2
 simp -implicitDefEqProofs [e2]
 refine Aa (hR w.rollout (OU hsz)) ?_
 by_cases b1:AP w.rollout=true
 rotate_left
 ·simp -implicitDefEqProofs [b1,Ap,FM]
 simp -implicitDefEqProofs [b1]
 refine Aa (hH w.server _ (by unfold maxLen;omega)) ?_
 by_cases b2:w.rollout.version∈w.server
 rotate_left
 ·simp -implicitDefEqProofs [b2,Ap,FM]
 simp -implicitDefEqProofs [b2]
 refine Aa (hI _ _ _) ?_
 by_cases b3:M6 w.least 1 100
 rotate_left
 ·simp -implicitDefEqProofs [b3,Ap,FM]
 simp -implicitDefEqProofs [b3]
 refine Aa (hI _ _ _) ?_
 by_cases b4:M6 w.percent 0 100
 rotate_left
 ·simp -implicitDefEqProofs [b4,Ap,FM]
 by_cases c1:w.stage.length<=60
 rotate_left
 ·have c1':¬(w.stage.length:Int)<=60:=by omega
  simp -implicitDefEqProofs [b4,c1',c1,Ap,Es]
 have c1':(w.stage.length:Int)<=60:=by omega
 by_cases c2:w.log.length<=60
 rotate_left
 ·have c2':¬(w.log.length:Int)<=60:=by omega
  simp -implicitDefEqProofs [b4,c1',c2',c2,Ap,Es]
 have c2':(w.log.length:Int)<=60:=by omega
 simp -implicitDefEqProofs [b4,c1',c2']
 refine Aa (hI _ _ _) ?_
 by_cases c3:M6 w.now 0 10000
 rotate_left
 ·simp -implicitDefEqProofs [b4,c1',c2',c3,Ap,Es]
 simp -implicitDefEqProofs [b4,c1',c2',c3]
 refine Aa (hI _ _ _) ?_
 by_cases c4:M6 w.hurt 0 w.log.length
 rotate_left
 ·simp -implicitDefEqProofs [b4,c1',c2',c3,c4,Ap,Es]
 simp -implicitDefEqProofs [b4,c1',c2',c3,c4]
 refine Aa (hI _ _ _) ?_
 have ec:Es w=decide (M6 w.reached 0 w.rollout.stages.length):=by unfold Es;simp[c1,c2,c3,c4]
 have ee:Ap w=Es w:=by unfold Ap Ke FM;rw[hq'];simp[a1,a2,a3,e1,b1,b2,b3,b4]
 simp -implicitDefEqProofs [ee,ec]
theorem Aij (hE:Ij (D 207)) (hV:Dr (D 208)) (hT:VF (D 209)) (hK:Oe (D 210)) (hR:FX (D 145)) (hH:UQ (D 166)) (hL:Q8 (D 95)) (hA:RP (D 211)) (hI:Vf (D 71)):U3 (Body D M8):=by
 intro w hsz
 have hs:=Od hsz
 have he:=FE hsz
 simp -implicitDefEqProofs
 refine Ag (fun k s=>∃j,j+k=w.ends.length/\(w.ends.take j).all Au=true/\s=⟨[.undef,.ptr 0 0,.undef,I j,.undef,.undef,.undef],[.var ((Bu w).map (AO 1)),.free]⟩) ?_ (w.ends.length) _ ⟨0,by simp,by simp,by simp⟩
 intro k s ⟨j,hj,hp,hs⟩
 subst hs
 by_cases hjn:j<w.ends.length
 ·have hw:=Cv (j:=j) (by omega)
  have hst:=Qm (p:=Au) hjn
  rw[hp,Bool.true_and]at hst
  simp -implicitDefEqProofs [hjn]
  refine Aa (hE w.ends[j] (AhO (AdH hsz hjn))) ?_
  by_cases h1:Au w.ends[j]=true
  ·simp -implicitDefEqProofs [h1]
   exact⟨k-1,by omega,j+1,by omega,by simpa using hst.trans h1,by simp[hw]⟩
  ·have e:Ap w=false:=by unfold Ap;rw[NP hjn (by simpa using h1)];simp
   simp -implicitDefEqProofs [h1,e]
 have hq':w.ends.all Au=true:=by rw[<-VW (j:=j) (by omega),hp]
 simp -implicitDefEqProofs [hjn]
 refine Aa (hV w.server (by unfold maxLen;omega)) ?_
 by_cases v1:AQ w.server=true
 rotate_left
 ·simp -implicitDefEqProofs [v1,Ap,Ke,FY]
 simp -implicitDefEqProofs [v1]
 refine Aa (hT w.tags (by unfold maxLen;omega)) ?_
 by_cases a2:FI w.tags=true
 rotate_left
 ·simp -implicitDefEqProofs [a2,Ap,Ke]
 simp -implicitDefEqProofs [a2]
 refine Aa (hK w.key) ?_
 by_cases a3:Mj w.key=true
 rotate_left
 ·simp -implicitDefEqProofs [a3,Ap,Ke]
 by_cases e1:w.ends.length<=6
 rotate_left
 ·have e1':(6:Int)<w.ends.length:=by omega
  simp -implicitDefEqProofs [a3,e1',e1,Ap]
 have e1':¬(6:Int)<w.ends.length:=by omega
 simp -implicitDefEqProofs [a3,e1']
 refine Aa (hR w.rollout (OU hsz)) ?_
 by_cases b1:AP w.rollout=true
 rotate_left
 ·simp -implicitDefEqProofs [b1,Ap,FM]
 simp -implicitDefEqProofs [b1]
 refine Aa (hH w.server _ (by unfold maxLen;omega)) ?_
 by_cases b2:w.rollout.version∈w.server
 rotate_left
 ·simp -implicitDefEqProofs [b2,Ap,FM]
 simp -implicitDefEqProofs [b2]
 refine Aa (hL w hsz) ?_
 simp -implicitDefEqProofs [b2]
 refine Aa (hA w.server (Fh w) hs.1 (Ahj hsz)) ?_
 by_cases a1:FY w.server (Fh w)=true
 rotate_left
 ·simp -implicitDefEqProofs [a1,Ap,Ke]
 simp -implicitDefEqProofs [a1]
 refine Aa (hI _ _ _) ?_
 by_cases b3:M6 w.least 1 100
 rotate_left
 ·simp -implicitDefEqProofs [b3,Ap,FM]
 simp -implicitDefEqProofs [b3]
 refine Aa (hI _ _ _) ?_
 by_cases b4:M6 w.percent 0 100
 rotate_left
 ·simp -implicitDefEqProofs [b4,Ap,FM]
 by_cases c1:w.stage.length<=60
 rotate_left
 ·have c1':¬(w.stage.length:Int)<=60:=by omega
  simp -implicitDefEqProofs [b4,c1',c1,Ap,Es]
 have c1':(w.stage.length:Int)<=60:=by omega
 by_cases c2:w.log.length<=60
 rotate_left
 ·have c2':¬(w.log.length:Int)<=60:=by omega
  simp -implicitDefEqProofs [b4,c1',c2',c2,Ap,Es]
 have c2':(w.log.length:Int)<=60:=by omega
 simp -implicitDefEqProofs [b4,c1',c2']
 refine Aa (hI _ _ _) ?_
 by_cases c3:M6 w.now 0 10000
 rotate_left
 ·simp -implicitDefEqProofs [b4,c1',c2',c3,Ap,Es]
 simp -implicitDefEqProofs [b4,c1',c2',c3]
 refine Aa (hI _ _ _) ?_
 by_cases c4:M6 w.hurt 0 w.log.length
 rotate_left
 ·simp -implicitDefEqProofs [b4,c1',c2',c3,c4,Ap,Es]
 simp -implicitDefEqProofs [b4,c1',c2',c3,c4]
 refine Aa (hI _ _ _) ?_
 have ec:Es w=decide (M6 w.reached 0 w.rollout.stages.length):=by unfold Es;simp[c1,c2,c3,c4]
 have ee:Ap w=Es w:=by unfold Ap Ke FM;rw[hq'];simp[a1,a2,a3,e1,b1,b2,b3,b4]
 simp -implicitDefEqProofs [ee,ec]
def Wl:World:=⟨[],[],0,[],⟨0,[],0,false⟩,0,0,[],[],0,0,0⟩
def Cw (s t:List Int) (es:List Ai) (r:AX):World:=⟨s,t,77,es,r,4,25,[],[],0,0,0⟩
def JV (s t:List Int) (es:List Ai) (r:AX):World×Bool:=if Ap (Cw s t es r)=true then(Cw s t es r,true)else(Wl,false)
abbrev RJ:Prop:=∀(s t:List Int) (es:List Ai) (r:AX),Af (Cw s t es r)<=4194304->R [.sl 1 1 s.length (ints s),.sl 1 1 t.length (ints t),.sl 1 4 es.length (es.flatMap Ah),arg (Dj r)] [] (.tup [.agg (Bu (JV s t es r).1),B (JV s t es r).2]) []
theorem Amh (s t:List Int) (es:List Ai) (r:AX):Af (Cw s t es r)=s.length+t.length+Cr Am es+Db r:=by
 simp[Af,Cw,Cr]
theorem AK5 (s t:List Int) (es:List Ai) (r:AX):Af (JV s t es r).1<=s.length+t.length+Cr Am es+Db r:=by
 unfold JV
 split
 ·rw[Amh];omega
 ·simp[Af,Wl,Cr,Db]
theorem Afw (hC:EF (D 22)) (hW:U3 (D 141)):RJ (Body D LP):=by
 intro s t es r hsz
 simp -implicitDefEqProofs
 refine Aa (hC (Cw s t es r) hsz) ?_
 simp -implicitDefEqProofs [Cw]
 refine Aa (hW (Cw s t es r) hsz) ?_
 generalize hq:Ap (Cw s t es r)=q
 by_cases h1:q=true
 ·have e:JV s t es r=(Cw s t es r,true):=by unfold JV;rw[if_pos (hq.trans h1)]
  simp -implicitDefEqProofs [h1,e,Cw]
 ·have e:JV s t es r=(Wl,false):=by unfold JV;rw[if_neg (by rw[hq];exact h1)]
  simp -implicitDefEqProofs [h1,e,Wl]
theorem AHb (hC:EF (D 38)) (hW:U3 (D 184)):RJ (Body D Av7):=by
 intro s t es r hsz
 simp -implicitDefEqProofs
 refine Aa (hC (Cw s t es r) hsz) ?_
 simp -implicitDefEqProofs [Cw]
 refine Aa (hW (Cw s t es r) hsz) ?_
 generalize hq:Ap (Cw s t es r)=q
 by_cases h1:q=true
 ·have e:JV s t es r=(Cw s t es r,true):=by unfold JV;rw[if_pos (hq.trans h1)]
  simp -implicitDefEqProofs [h1,e,Cw]
 ·have e:JV s t es r=(Wl,false):=by unfold JV;rw[if_neg (by rw[hq];exact h1)]
  simp -implicitDefEqProofs [h1,e,Wl]
end Go.Eng.T
