/- Own work: part 15 of the proof of FnExactRunConsole. -/
import Derived.Test.YtogmkdgkgfhhoaaGreatDoorDP12
import Derived.Test.YtogmkdgkgfhhoaaGreatDoorDP13
import Derived.Test.YtogmkdgkgfhhoaaGreatDoorDP14
import Derived.Lib.SlicesCompact
set_option linter.unusedSimpArgs false
set_option linter.unusedVariables false
namespace Go.Eng.T
set_option maxRecDepth 20000
def Le {α:Type} (p:α->Bool):List α->Nat->List Int
 | [],_=> []
 | x::r,i=>if p x then(i:Int)::Le p r (i+1)else Le p r (i+1)
theorem XM {α:Type} {p:α->Bool} (b:List α):∀(a:List α) (i:Nat),Le p (a++b) i=Le p a i++Le p b (i+a.length)
 | [],i=>by simp[Le]
 | x::r,i=>by
  have:=XM (p:=p) b r (i+1)
  simp only[List.cons_append,Le,this,List.length_cons]
  rw[show i+1+r.length=i+(r.length+1)by omega]
  by_cases h:p x=true<;>simp[h]
theorem Alt {α:Type} {p:α->Bool} {xs:List α} {j:Nat} (h:j<xs.length):Le p (xs.take (j+1)) 0=Le p (xs.take j) 0++(if p xs[j]then [(j:Int)]else []):=by
 have e:xs.take (j+1)=xs.take j++ [xs[j]]:=by simp
 rw[e,XM]
 have hl:(xs.take j).length=j:=by simp;omega
 by_cases hp:p xs[j]=true<;>simp[Le,hp,hl]
theorem AmA {α:Type} {p:α->Bool} {xs:List α} {j:Nat} (h:xs.length<=j):Le p (xs.take j) 0=Le p xs 0:=by rw[List.take_of_length_le h]
theorem Af3 {α:Type} {p:α->Bool}:∀(xs:List α) (i:Nat),(Le p xs i).length<=xs.length
 | [],_=>by simp[Le]
 | x::r,i=>by
  have:=Af3 (p:=p) r (i+1)
  by_cases h:p x=true
  ·simp[Le,h];omega
  ·simp[Le,h];omega
def ABA (v:Int) (e:Ai):Bool:=decide (v∈e.versions)
theorem Aie {w:World} (h:Af w<=4194304) {j:Nat} (hj:j<w.ends.length):w.ends[j].versions.length<=maxLen:=by
 have:=size_at (f:=Am) hj
 have e:Am w.ends[j]=w.ends[j].versions.length+w.ends[j].tags.length+Cr Gm w.ends[j].path:=rfl
 unfold Af at h
 unfold maxLen;omega
variable (R:Rel)
abbrev Awv:Prop:=∀(w:World) (v:Int),Af w<=4194304->R [arg (Bu w),I v] [] (.sl 0 1 (Le (ABA v) w.ends 0).length (ints (Le (ABA v) w.ends 0))) []
variable (D:Dn)
theorem AN2 (hH:UQ (D 166)):Awv (Body D AKt):=by
 intro w v hsz
 have hl:=FE hsz
 simp -implicitDefEqProofs
 refine Ag (fun k s=>∃j o2 o3,j+k=w.ends.length/\s=⟨[.undef,.sc (.int .i64 v),.ptr 0 0,.undef,.arr 4,.sc (.int .i64 j),.undef,.undef],[.var ((Bu w).map (AO 1)),.free,o2,o3,.arr 1 0 (Le (ABA v) (w.ends.take j) 0).length (ints (Le (ABA v) (w.ends.take j) 0))]⟩) ?_ w.ends.length _ ⟨0,.free,.free,by simp,by simp[Le]⟩
 intro k s ⟨j,o2,o3,hj,hs⟩
 subst hs
 by_cases hjn:j<w.ends.length
 ·have hw:=Cv (j:=j) (by omega)
  have hst:=Alt (p:=ABA v) hjn
  have hln:=Af3 (p:=ABA v) (w.ends.take j) 0
  have htl:(w.ends.take j).length<=j:=by simp;omega
  simp -implicitDefEqProofs [hjn]
  refine Aa (hH w.ends[j].versions v (Aie hsz hjn)) ?_
  by_cases he:v∈w.ends[j].versions
  ·have hb:((Le (ABA v) (w.ends.take j) 0).length+1)*8<=1099511627776:=by omega
   rw[if_pos (by simp[ABA,he])]at hst
   simp -implicitDefEqProofs [he,hb]
   exact⟨k-1,by omega,j+1,by omega,by simp[hw],by rw[hst];simp,by rw[hst]⟩
  ·rw[if_neg (by simp[ABA,he]),List.append_nil]at hst
   simp -implicitDefEqProofs [he]
   exact⟨k-1,by omega,j+1,by omega,by simp[hw],by rw[hst],by rw[hst]⟩
 ·have hx:=AmA (p:=ABA v) (xs:=w.ends) (j:=j) (by omega)
  simp -implicitDefEqProofs [hjn,hx]
theorem AEu (hH:UQ (D 188)):Awv (Body D AuI):=by
 intro w v hsz
 have hl:=FE hsz
 simp -implicitDefEqProofs
 refine Ag (fun k s=>∃j v5 o2 o3 o4,j+k=w.ends.length/\s=⟨[.undef,.sc (.int .i64 v),.undef,.undef,.arr 5,v5,.undef,.sl 1 4 w.ends.length (w.ends.flatMap Ah),.sc (.int .i64 w.ends.length),.sc (.int .i64 j),.undef,.undef],[.var ((Bu w).map (AO 1)),.free,o2,o3,o4,.arr 1 0 (Le (ABA v) (w.ends.take j) 0).length (ints (Le (ABA v) (w.ends.take j) 0))]⟩) ?_ w.ends.length _ ⟨0,.undef,.free,.free,.free,by simp,by simp[Le]⟩
 intro k s ⟨j,v5,o2,o3,o4,hj,hs⟩
 subst hs
 by_cases hjn:j<w.ends.length
 ·have hw:=Cv (j:=j) (by omega)
  have hst:=Alt (p:=ABA v) hjn
  have hln:=Af3 (p:=ABA v) (w.ends.take j) 0
  have htl:(w.ends.take j).length<=j:=by simp;omega
  simp -implicitDefEqProofs [hjn]
  refine Aa (hH w.ends[j].versions v (Aie hsz hjn)) ?_
  by_cases he:v∈w.ends[j].versions
  ·have hb:((Le (ABA v) (w.ends.take j) 0).length+1)*8<=1099511627776:=by omega
   rw[if_pos (by simp[ABA,he])]at hst
   simp -implicitDefEqProofs [he,hb]
   exact⟨k-1,by omega,j+1,by omega,by simp[hw],by rw[hst];simp,by rw[hst]⟩
  ·rw[if_neg (by simp[ABA,he]),List.append_nil]at hst
   simp -implicitDefEqProofs [he]
   exact⟨k-1,by omega,j+1,by omega,by simp[hw],by rw[hst],by rw[hst]⟩
 ·have hx:=AmA (p:=ABA v) (xs:=w.ends) (j:=j) (by omega)
  simp -implicitDefEqProofs [hjn,hx]
set_option maxHeartbeats 1000000
def I8 (xs:List (List Int)):List V:=xs.map fun l=> .sl 0 1 l.length (ints l)
@[simp high] theorem Aro (xs:List (List Int)):(I8 xs).length=xs.length:=by simp[I8]
@[simp] theorem Ard:I8 []=[]:=rfl
@[simp] theorem ArA (xs:List (List Int)):(I8 xs).map (AO 0)=I8 xs:=by simp[I8,Function.comp_def,AO]
@[simp high] theorem ArI {xs:List (List Int)} {j:Nat} (h:j<xs.length):(I8 xs)[j]? =some (V.sl 0 1 xs[j].length (ints xs[j])):=by simp[I8,h]
theorem Ah1 (xs:List (List Int)) (l:List Int) {n:Nat} (h:n=l.length):I8 xs++ [.sl 0 1 n (ints l)]=I8 (xs++ [l]):=by subst h;simp[I8]
def GR (xs:List (List Int)):Nat:=Cr List.length xs
theorem Uz {xs:List (List Int)} {j:Nat} (h:j<xs.length):xs[j].length<=GR xs:=size_at (f:=List.length) h
theorem Ms {xs:List (List Int)}:xs.length<=GR xs:=J9
def Fh (w:World):List (List Int):=w.ends.map (·.versions)
abbrev Q8:Prop:=∀w:World,Af w<=4194304->R [arg (Bu w)] [] (.sl 0 1 (Fh w).length (I8 (Fh w))) []
theorem Aih {xs:List Ai} {j:Nat} (h:j<xs.length):I8 ((xs.map (·.versions)).take j)++ [.sl 0 1 xs[j].versions.length (ints xs[j].versions)]=I8 ((xs.map (·.versions)).take (j+1)):=by
 have h':j<(xs.map (·.versions)).length:=by simpa using h
 have e:(xs.map (·.versions)).take (j+1)=(xs.map (·.versions)).take j++ [xs[j].versions]:=by
  have:=List.take_append_getElem h'
  rw[<-this];simp
 rw[e,Ah1 _ _ rfl]
theorem AhN:Q8 (Body D NK):=by
 intro w h
 have hl:=FE h
 have hres:Fh w=w.ends.map (·.versions):=rfl
 rw[hres]
 simp -implicitDefEqProofs
 refine Ag (fun k s=>∃j o2 o3 o4 o5,j+k=w.ends.length/\s=⟨[.undef,.ptr 0 0,.undef,.arr 6,.sc (.int .i64 j),.undef],[.var ((Bu w).map (AO 1)),.free,o2,o3,o4,o5,.arr 1 0 j (I8 ((w.ends.take j).map (·.versions)))]⟩) ?_ w.ends.length _ ⟨0,.free,.free,.free,.free,by simp,by simp⟩
 intro k s ⟨j,o2,o3,o4,o5,hj,hs⟩
 subst hs
 by_cases hjn:j<w.ends.length
 ·have hw:=Cv (j:=j) (by omega)
  have hst:=Aih hjn
  have hvl:=Aie h hjn
  unfold maxLen at hvl
  have h2:w.ends[j].versions.length<=4194304:=by
   have:=size_at (f:=Am) hjn
   have e:Am w.ends[j]=w.ends[j].versions.length+w.ends[j].tags.length+Cr Gm w.ends[j].path:=rfl
   unfold Af at h
   omega
  have hb:w.ends[j].versions.length*8<=1099511627776:=by omega
  have hb2:(j+1)*24<=1099511627776:=by omega
  have hjl:min j w.ends.length=j:=by omega
  simp -implicitDefEqProofs [hjn,hb,hb2,hjl]
  exact⟨k-1,by omega,j+1,by omega,by simp[hw],rfl,hst⟩
 ·obtain rfl:j=w.ends.length:=by omega
  simp -implicitDefEqProofs
theorem AHS:Q8 (Body D AwD):=by
 intro w h
 have hl:=FE h
 have hres:Fh w=w.ends.map (·.versions):=rfl
 rw[hres]
 simp -implicitDefEqProofs
 refine Ag (fun k s=>∃j o2 o3 o4 o5 o6,j+k=w.ends.length/\s=⟨[.undef,.undef,.undef,.arr 7,.undef,.sl 1 4 w.ends.length (w.ends.flatMap Ah),.sc (.int .i64 w.ends.length),.sc (.int .i64 j),.undef],[.var ((Bu w).map (AO 1)),.free,o2,o3,o4,o5,o6,.arr 1 0 j (I8 ((w.ends.take j).map (·.versions)))]⟩) ?_ w.ends.length _ ⟨0,.free,.free,.free,.free,.free,by simp,by simp⟩
 intro k s ⟨j,o2,o3,o4,o5,o6,hj,hs⟩
 subst hs
 by_cases hjn:j<w.ends.length
 ·have hw:=Cv (j:=j) (by omega)
  have hst:=Aih hjn
  have h2:w.ends[j].versions.length<=4194304:=by
   have:=size_at (f:=Am) hjn
   have e:Am w.ends[j]=w.ends[j].versions.length+w.ends[j].tags.length+Cr Gm w.ends[j].path:=rfl
   unfold Af at h
   omega
  have hb:w.ends[j].versions.length*8<=1099511627776:=by omega
  have hb2:(j+1)*24<=1099511627776:=by omega
  have hjl:min j w.ends.length=j:=by omega
  simp -implicitDefEqProofs [hjn,hb,hb2,hjl]
  exact⟨k-1,by omega,j+1,by omega,by simp[hw],rfl,hst⟩
 ·obtain rfl:j=w.ends.length:=by omega
  simp -implicitDefEqProofs
abbrev KZ (ls:List (List Int)):V:= .sl 1 1 ls.length (I8 ls)
def Aaa (s:List Int) (v:Int) (l:List Int):Bool:=decide (AJ s l=v)
def SN (s:List Int) (ls:List (List Int)) (v:Int):Nat:=if 1<=v then cntF (Aaa s v) ls else 0
abbrev Ae1:Prop:=∀(s:List Int) (ls:List (List Int)) (v:Int),s.length<=4194304->GR ls<=4194304->R [.sl 1 1 s.length (ints s),KZ ls,I v] [] (I (SN s ls v)) []
theorem Anj (hB:FQ (D 168)):Ae1 (Body D Ra):=by
 intro s ls v hs0 hl
 have hll:=Ms (xs:=ls)
 by_cases hv:1<=v
 rotate_left
 ·have e:SN s ls v=0:=by unfold SN;rw[if_neg hv]
  simp -implicitDefEqProofs [e]
  refine Ag (fun k st=>st=⟨[.sl 1 1 s.length (ints s),KZ ls,I v,.undef,.sc (.int .i64 0),.sc (.int .i64 0),.undef,.undef],[]⟩) ?_ 0 _ (by simp)
  intro k st hs
  subst hs
  by_cases h0:0<ls.length
  ·have h0':(0:Int)<ls.length:=by omega
   simp -implicitDefEqProofs [hv,h0,h0']
  ·have h0':¬(0:Int)<ls.length:=by omega
   simp -implicitDefEqProofs [hv,h0,h0']
 have e:SN s ls v=cntF (Aaa s v) ls:=by unfold SN;rw[if_pos hv]
 rw[e]
 simp -implicitDefEqProofs
 refine Ag (fun k st=>∃j,j+k=ls.length/\st=⟨[.sl 1 1 s.length (ints s),KZ ls,I v,.undef,.sc (.int .i64 (cntF (Aaa s v) (ls.take j))),.sc (.int .i64 j),.undef,.undef],[]⟩) ?_ ls.length _ ⟨0,by simp,by simp[cntF]⟩
 intro k st ⟨j,hj,hs⟩
 subst hs
 by_cases hjn:j<ls.length
 ·have hw:=Cv (j:=j) (by omega)
  have hc:=AaP (f:=Aaa s v) hjn
  have hcl:=Afa (f:=Aaa s v) (xs:=ls) (j:=j) (by omega)
  have hw2:IntKind.i64.wrap ((cntF (Aaa s v) (ls.take j):Int)+1)=(cntF (Aaa s v) (ls.take j)+1:Nat):=by rw[Ad (by omega) (by omega)];simp
  have hra:=Uz hjn
  simp -implicitDefEqProofs [hjn,hv]
  refine Aa (hB s _ hs0 (by omega)) ?_
  by_cases he:AJ s ls[j]=v
  ·simp -implicitDefEqProofs [he]
   exact⟨k-1,by omega,j+1,by omega,by rw[hc,hw2];simp[Aaa,he],by simp[hw]⟩
  ·simp -implicitDefEqProofs [he]
   exact⟨k-1,by omega,j+1,by omega,by rw[hc];simp[Aaa,he],by simp[hw]⟩
 ·have hx:=Afj (f:=Aaa s v) (xs:=ls) (j:=j) (by omega)
  simp -implicitDefEqProofs [hjn,hx]
theorem AKj (hB:FQ (D 190)):Ae1 (Body D AyD):=by
 intro s ls v hs0 hl
 have hll:=Ms (xs:=ls)
 by_cases hv:1<=v
 rotate_left
 ·have e:SN s ls v=0:=by unfold SN;rw[if_neg hv]
  have hv':v<1:=by omega
  simp -implicitDefEqProofs [e,hv']
 have e:SN s ls v=cntF (Aaa s v) ls:=by unfold SN;rw[if_pos hv]
 have hv':¬v<1:=by omega
 rw[e]
 simp -implicitDefEqProofs [hv']
 refine Ag (fun k st=>∃j,j+k=ls.length/\st=⟨[.sl 1 1 s.length (ints s),.undef,I v,.undef,.sc (.int .i64 (cntF (Aaa s v) (ls.take j))),.undef,.undef,KZ ls,.sc (.int .i64 ls.length),.sc (.int .i64 j),.undef,.undef],[]⟩) ?_ ls.length _ ⟨0,by simp,by simp[cntF]⟩
 intro k st ⟨j,hj,hs⟩
 subst hs
 by_cases hjn:j<ls.length
 ·have hw:=Cv (j:=j) (by omega)
  have hc:=AaP (f:=Aaa s v) hjn
  have hcl:=Afa (f:=Aaa s v) (xs:=ls) (j:=j) (by omega)
  have hw2:IntKind.i64.wrap ((cntF (Aaa s v) (ls.take j):Int)+1)=(cntF (Aaa s v) (ls.take j)+1:Nat):=by rw[Ad (by omega) (by omega)];simp
  have hra:=Uz hjn
  simp -implicitDefEqProofs [hjn,hv]
  refine Aa (hB s _ hs0 (by omega)) ?_
  by_cases he:AJ s ls[j]=v
  ·simp -implicitDefEqProofs [he]
   exact⟨k-1,by omega,j+1,by omega,by rw[hc,hw2];simp[Aaa,he],by simp[hw]⟩
  ·simp -implicitDefEqProofs [he]
   exact⟨k-1,by omega,j+1,by omega,by rw[hc];simp[Aaa,he],by simp[hw]⟩
 ·have hx:=Afj (f:=Aaa s v) (xs:=ls) (j:=j) (by omega)
  simp -implicitDefEqProofs [hjn,hx]
def Zk (s:List Int) (v:Int) (l:List Int):Bool:=decide (0<AJ s l)&&decide (AJ (Co s v) l=0)
def Kj (s:List Int) (ls:List (List Int)) (v:Int):List Int:=Le (Zk s v) ls 0
abbrev Ry:Prop:=∀(s:List Int) (ls:List (List Int)) (v:Int),s.length<=4194304->GR ls<=4194304->R [.sl 1 1 s.length (ints s),KZ ls,I v] [] (.sl 0 1 (Kj s ls v).length (ints (Kj s ls v))) []
theorem Ahm (hB:FQ (D 168)) (hW:Ic (D 167)):Ry (Body D L8):=by
 intro s ls v hs0 hl
 have hll:=Ms (xs:=ls)
 have hres:Kj s ls v=Le (Zk s v) ls 0:=rfl
 have hwl:=List.length_filter_le (fun x=> !decide (x=v)) s
 rw[hres]
 simp -implicitDefEqProofs
 refine Aa (hW s v hs0) ?_
 simp -implicitDefEqProofs
 refine Ag (fun k st=>∃j o2 o3,j+k=ls.length/\st=⟨[.sl 1 1 s.length (ints s),KZ ls,.undef,.undef,.arr 4,.arr 1,.sc (.int .i64 j),.undef,.undef],[.free,.arr 1 0 (Co s v).length (ints (Co s v)),o2,o3,.arr 1 0 (Le (Zk s v) (ls.take j) 0).length (ints (Le (Zk s v) (ls.take j) 0))]⟩) ?_ ls.length _ ⟨0,.free,.free,by simp,by simp[Le]⟩
 intro k st ⟨j,o2,o3,hj,hs⟩
 subst hs
 by_cases hjn:j<ls.length
 ·have hw:=Cv (j:=j) (by omega)
  have hst:=Alt (p:=Zk s v) hjn
  have hln:=Af3 (p:=Zk s v) (ls.take j) 0
  have htl:(ls.take j).length<=j:=by simp;omega
  have hb:((Le (Zk s v) (ls.take j) 0).length+1)*8<=1099511627776:=by omega
  have hra:=Uz hjn
  simp -implicitDefEqProofs [hjn]
  refine Aa (hB s _ hs0 (by omega)) ?_
  by_cases h1:0<AJ s ls[j]
  rotate_left
  ·rw[if_neg (by simp[Zk,h1]),List.append_nil]at hst
   simp -implicitDefEqProofs [h1]
   exact⟨k-1,by omega,j+1,by omega,by simp[hw],by rw[hst],by rw[hst]⟩
  simp -implicitDefEqProofs [h1,hjn]
  refine Aa (hB (Co s v) ls[j] (by unfold Co;omega) (by omega)) ?_
  by_cases h2:AJ (Co s v) ls[j]=0
  ·rw[if_pos (by simp[Zk,h1,h2])]at hst
   simp -implicitDefEqProofs [h2,hb]
   exact⟨k-1,by omega,j+1,by omega,by simp[hw],by rw[hst];simp,by rw[hst]⟩
  ·rw[if_neg (by simp[Zk,h1,h2]),List.append_nil]at hst
   simp -implicitDefEqProofs [h2]
   exact⟨k-1,by omega,j+1,by omega,by simp[hw],by rw[hst],by rw[hst]⟩
 ·have hx:=AmA (p:=Zk s v) (xs:=ls) (j:=j) (by omega)
  simp -implicitDefEqProofs [hjn,hx]
theorem AGE (hB:FQ (D 190)) (hW:Aw5 (D 189)):Ry (Body D Awj):=by
 intro s ls v hs0 hl
 have hll:=Ms (xs:=ls)
 have hres:Kj s ls v=Le (Zk s v) ls 0:=rfl
 have hwl:=List.length_filter_le (fun x=> !decide (x=v)) s
 rw[hres]
 simp -implicitDefEqProofs
 refine Aa (hW s v hs0) ?_
 simp -implicitDefEqProofs
 refine Ag (fun k st=>∃j v6 v7 o1 o3 o4,j+k=ls.length/\st=⟨[.sl 1 1 s.length (ints s),.undef,.undef,.undef,.arr 5,.arr 2,v6,v7,KZ ls,.sc (.int .i64 ls.length),.sc (.int .i64 j),.undef,.undef],[.free,o1,.arr 1 0 (Co s v).length (ints (Co s v)),o3,o4,.arr 1 0 (Le (Zk s v) (ls.take j) 0).length (ints (Le (Zk s v) (ls.take j) 0))]⟩) ?_ ls.length _ ⟨0,.undef,.undef,.arr 1 0 1 [.sc (.int .i64 v)],.free,.free,by simp,by simp[Le]⟩
 intro k st ⟨j,v6,v7,o1,o3,o4,hj,hs⟩
 subst hs
 by_cases hjn:j<ls.length
 ·have hw:=Cv (j:=j) (by omega)
  have hst:=Alt (p:=Zk s v) hjn
  have hln:=Af3 (p:=Zk s v) (ls.take j) 0
  have htl:(ls.take j).length<=j:=by simp;omega
  have hb:((Le (Zk s v) (ls.take j) 0).length+1)*8<=1099511627776:=by omega
  have hra:=Uz hjn
  simp -implicitDefEqProofs [hjn]
  refine Aa (hB s _ hs0 (by omega)) ?_
  by_cases h1:0<AJ s ls[j]
  rotate_left
  ·rw[if_neg (by simp[Zk,h1]),List.append_nil]at hst
   simp -implicitDefEqProofs [h1]
   exact⟨k-1,by omega,j+1,by omega,by simp[hw],by rw[hst],by rw[hst]⟩
  simp -implicitDefEqProofs [h1,hjn]
  refine Aa (hB (Co s v) ls[j] (by unfold Co;omega) (by omega)) ?_
  by_cases h2:AJ (Co s v) ls[j]=0
  ·rw[if_pos (by simp[Zk,h1,h2])]at hst
   simp -implicitDefEqProofs [h2,hb]
   exact⟨k-1,by omega,j+1,by omega,by simp[hw],by rw[hst];simp,by rw[hst]⟩
  ·rw[if_neg (by simp[Zk,h1,h2]),List.append_nil]at hst
   simp -implicitDefEqProofs [h2]
   exact⟨k-1,by omega,j+1,by omega,by simp[hw],by rw[hst],by rw[hst]⟩
 ·have hx:=AmA (p:=Zk s v) (xs:=ls) (j:=j) (by omega)
  simp -implicitDefEqProofs [hjn,hx]
theorem AmE (s:List Int) (ls:List (List Int)) (v:Int):SN s ls v<=ls.length:=by
 unfold SN
 split
 ·have:=Afa (f:=Aaa s v) (xs:=ls) (j:=ls.length) (by omega)
  rwa [List.take_length]at this
 ·omega
def FP (s:List Int) (ls:List (List Int)) (v pm:Int):Bool:=AQ s&&(decide (v∈s)&&(!decide (s.length=1)&&(decide (InV pm 0 1000)&&(decide (Kj s ls v=[])&&decide (1000*(SN s ls v:Int)<=pm*(ls.length:Int))))))
abbrev PG:Prop:=∀(s:List Int) (ls:List (List Int)) (v pm:Int),s.length<=4194304->GR ls<=4194304->R [.sl 1 1 s.length (ints s),KZ ls,I v,I pm] [] (B (FP s ls v pm)) []
theorem Ae7 (hA:Dr (D 208)) (hH:UQ (D 166)) (hI:Vf (D 71)) (hS:Ry (D 96)) (hU:Ae1 (D 255)):PG (Body D KF):=by
 intro s ls v pm hs0 hl
 have hll:=Ms (xs:=ls)
 simp -implicitDefEqProofs
 refine Aa (hA s (by unfold maxLen;omega)) ?_
 by_cases h1:AQ s=true
 rotate_left
 ·simp -implicitDefEqProofs [h1,FP]
 simp -implicitDefEqProofs [h1]
 refine Aa (hH s v (by unfold maxLen;omega)) ?_
 by_cases h2:v∈s
 rotate_left
 ·simp -implicitDefEqProofs [h1,h2,FP]
 by_cases h3:s.length=1
 ·have h3':(s.length:Int)=1:=by omega
  simp -implicitDefEqProofs [h1,h2,h3,h3',FP]
 have h3':¬(s.length:Int)=1:=by omega
 simp -implicitDefEqProofs [h1,h2,h3,h3']
 refine Aa (hI _ _ _) ?_
 by_cases h4:InV pm 0 1000
 rotate_left
 ·simp -implicitDefEqProofs [h1,h2,h3,h3',h4,FP]
 simp -implicitDefEqProofs [h3,h3',h4]
 refine Aa (hS s ls v hs0 hl) ?_
 by_cases h5:(Kj s ls v).length=0
 rotate_left
 ·have h5':¬((Kj s ls v).length:Int)=0:=by omega
  have h5'':¬Kj s ls v=[]:=by intro h;rw[h]at h5;simp at h5
  simp -implicitDefEqProofs [h5,h5',h5'',h1,h2,h3,h4,FP]
 have h5'':Kj s ls v=[]:=List.eq_nil_of_length_eq_zero h5
 simp -implicitDefEqProofs [h5'']
 refine Aa (hU s ls v hs0 hl) ?_
 have hu:=AmE s ls v
 have w1:IntKind.i64.wrap (1000*(SN s ls v:Int))=1000*(SN s ls v:Int):=Ad (by omega) (by omega)
 have w2:IntKind.i64.wrap (pm*(ls.length:Int))=pm*(ls.length:Int):=by
  have a1:0<=pm*(ls.length:Int):=Int.mul_nonneg h4.1 (by omega)
  have a2:pm*(ls.length:Int)<=1000*4194304:=Int.mul_le_mul h4.2 (by omega) (by omega) (by omega)
  exact Ad (by omega) (by omega)
 simp -implicitDefEqProofs [h1,h2,h3,h3',h4,h5'',w1,w2,FP]
theorem AFt (hA:Dr (D 232)) (hH:UQ (D 188)) (hI:Vf (D 114)) (hS:Ry (D 124)) (hU:Ae1 (D 265)):PG (Body D AvG):=by
 intro s ls v pm hs0 hl
 have hll:=Ms (xs:=ls)
 simp -implicitDefEqProofs
 refine Aa (hA s (by unfold maxLen;omega)) ?_
 by_cases h1:AQ s=true
 rotate_left
 ·simp -implicitDefEqProofs [h1,FP]
 simp -implicitDefEqProofs [h1]
 refine Aa (hH s v (by unfold maxLen;omega)) ?_
 by_cases h2:v∈s
 rotate_left
 ·simp -implicitDefEqProofs [h1,h2,FP]
 by_cases h3:s.length=1
 ·have h3':(s.length:Int)=1:=by omega
  simp -implicitDefEqProofs [h1,h2,h3,h3',FP]
 have h3':¬(s.length:Int)=1:=by omega
 simp -implicitDefEqProofs [h1,h2,h3,h3']
 refine Aa (hI _ _ _) ?_
 by_cases h4:InV pm 0 1000
 rotate_left
 ·simp -implicitDefEqProofs [h1,h2,h3,h3',h4,FP]
 simp -implicitDefEqProofs [h3,h3',h4]
 refine Aa (hS s ls v hs0 hl) ?_
 by_cases h5:(Kj s ls v).length=0
 rotate_left
 ·have h5':¬((Kj s ls v).length:Int)=0:=by omega
  have h5'':¬Kj s ls v=[]:=by intro h;rw[h]at h5;simp at h5
  simp -implicitDefEqProofs [h5,h5',h5'',h1,h2,h3,h4,FP]
 have h5'':Kj s ls v=[]:=List.eq_nil_of_length_eq_zero h5
 simp -implicitDefEqProofs [h5'']
 refine Aa (hU s ls v hs0 hl) ?_
 have hu:=AmE s ls v
 have w1:IntKind.i64.wrap (1000*(SN s ls v:Int))=1000*(SN s ls v:Int):=Ad (by omega) (by omega)
 have w2:IntKind.i64.wrap (pm*(ls.length:Int))=pm*(ls.length:Int):=by
  have a1:0<=pm*(ls.length:Int):=Int.mul_nonneg h4.1 (by omega)
  have a2:pm*(ls.length:Int)<=1000*4194304:=Int.mul_le_mul h4.2 (by omega) (by omega) (by omega)
  exact Ad (by omega) (by omega)
 simp -implicitDefEqProofs [h1,h2,h3,h3',h4,h5'',w1,w2,FP]
def GN (s:List Int) (ls:List (List Int)) (v pm:Int):List Int×Bool:=if FP s ls v pm=true then(Co s v,true)else(s,false)
abbrev IG:Prop:=∀(s:List Int) (ls:List (List Int)) (v pm:Int),s.length<=4194304->GR ls<=4194304->R [.sl 1 1 s.length (ints s),KZ ls,I v,I pm] [] (.tup [.sl 0 1 (GN s ls v pm).1.length (ints (GN s ls v pm).1),B (GN s ls v pm).2]) []
theorem Xt (hM:PG (D 216)) (hW:Ic (D 167)):IG (Body D GQ):=by
 intro s ls v pm hs0 hl
 have hll:=Ms (xs:=ls)
 have hb:s.length*8<=1099511627776:=by omega
 simp -implicitDefEqProofs
 refine Aa (hM s ls v pm hs0 hl) ?_
 by_cases h1:FP s ls v pm=true
 rotate_left
 ·have e:GN s ls v pm=(s,false):=by unfold GN;rw[if_neg h1]
  simp -implicitDefEqProofs [h1,e,hb]
 have e:GN s ls v pm=(Co s v,true):=by unfold GN;rw[if_pos h1]
 simp -implicitDefEqProofs [h1,e]
 refine Aa (hW s v hs0) ?_
 simp -implicitDefEqProofs [h1,e]
theorem ABl (hM:PG (D 231)) (hW:Aw5 (D 189)):IG (Body D AtH):=by
 intro s ls v pm hs0 hl
 have hll:=Ms (xs:=ls)
 have hb:s.length*8<=1099511627776:=by omega
 simp -implicitDefEqProofs
 refine Aa (hM s ls v pm hs0 hl) ?_
 by_cases h1:FP s ls v pm=true
 rotate_left
 ·have e:GN s ls v pm=(s,false):=by unfold GN;rw[if_neg h1]
  simp -implicitDefEqProofs [h1,e,hb]
 have e:GN s ls v pm=(Co s v,true):=by unfold GN;rw[if_pos h1]
 simp -implicitDefEqProofs [h1,e]
 refine Aa (hW s v hs0) ?_
 simp -implicitDefEqProofs [h1,e]
theorem Ahq {w:World} (h:Af w<=4194304):w.server.length<=4194304:=by unfold Af at h;omega
theorem Ap5 (xs:List Ai):GR (xs.map (·.versions))<=Cr Am xs:=by
 induction xs with
 | nil=>simp[GR,Cr]
 | cons x r ih=>
  simp only[GR,Cr,List.map_cons,List.sum_cons,List.length_cons,Am,List.length_map]at *
  omega
theorem Ahj {w:World} (h:Af w<=4194304):GR (Fh w)<=4194304:=by
 have:=Ap5 w.ends
 unfold Af at h
 unfold Fh
 omega
def Br (w:World) (v pm:Int):World×Bool:=if(GN w.server (Fh w) v pm).2=true/\¬v=w.rollout.version then({w with server:=(GN w.server (Fh w) v pm).1},true)else(w,false)
abbrev MZ:Prop:=∀(w:World) (v pm:Int),Af w<=4194304->R [arg (Bu w),I v,I pm] [] (.tup [.agg (Bu (Br w v pm).1),B (Br w v pm).2]) []
theorem AcI (hC:EF (D 22)) (hL:Q8 (D 95)) (hR:IG (D 150)):MZ (Body D Jq):=by
 intro w v pm h
 simp -implicitDefEqProofs
 refine Aa (hC w h) ?_
 simp -implicitDefEqProofs
 refine Aa (hL w h) ?_
 simp -implicitDefEqProofs
 refine Aa (hR w.server (Fh w) v pm (Ahq h) (Ahj h)) ?_
 by_cases h1:(GN w.server (Fh w) v pm).2=true
 rotate_left
 ·have e:Br w v pm=(w,false):=by unfold Br;rw[if_neg (by simp[h1])]
  simp -implicitDefEqProofs [h1,e]
 by_cases h2:v=w.rollout.version
 ·subst h2
  have e:Br w w.rollout.version pm=(w,false):=by unfold Br;rw[if_neg (by simp)]
  simp -implicitDefEqProofs [h1,e]
 have e:Br w v pm=({w with server:=(GN w.server (Fh w) v pm).1},true):=by unfold Br;rw[if_pos ⟨h1,h2⟩]
 simp -implicitDefEqProofs [h1,h2,e]
theorem AEm (hC:EF (D 38)) (hL:Q8 (D 123)) (hR:IG (D 181)):MZ (Body D AuS):=by
 intro w v pm h
 simp -implicitDefEqProofs
 refine Aa (hC w h) ?_
 simp -implicitDefEqProofs
 refine Aa (hL w h) ?_
 simp -implicitDefEqProofs
 refine Aa (hR w.server (Fh w) v pm (Ahq h) (Ahj h)) ?_
 by_cases h1:(GN w.server (Fh w) v pm).2=true
 rotate_left
 ·have e:Br w v pm=(w,false):=by unfold Br;rw[if_neg (by simp[h1])]
  simp -implicitDefEqProofs [h1,e]
 by_cases h2:v=w.rollout.version
 ·subst h2
  have e:Br w w.rollout.version pm=(w,false):=by unfold Br;rw[if_neg (by simp)]
  simp -implicitDefEqProofs [h1,e]
 have e:Br w v pm=({w with server:=(GN w.server (Fh w) v pm).1},true):=by unfold Br;rw[if_pos ⟨h1,h2⟩]
 simp -implicitDefEqProofs [h1,h2,e]
set_option maxHeartbeats 1000000
def leftOf (a b:List Int):List Int:=a.filter fun v=> !decide (v∈b)
abbrev AfF:Prop:=∀a b:List Int,a.length<=4194304->b.length<=4194304->R [.sl 1 1 a.length (ints a),.sl 1 1 b.length (ints b)] [] (.sl 0 1 (leftOf a b).length (ints (leftOf a b))) []
theorem AlH (hH:UQ (D 166)):AfF (Body D NC):=by
 intro a b ha hb
 have hres:leftOf a b=a.filter (fun v=> !decide (v∈b)):=rfl
 rw[hres]
 simp -implicitDefEqProofs
 refine Ag (fun k s=>∃j o1 o2,j+k=a.length/\s=⟨[.sl 1 1 a.length (ints a),.sl 1 1 b.length (ints b),.undef,.arr 3,I j,.undef,.undef],[.free,o1,o2,.arr 1 0 ((a.take j).filter (fun v=> !decide (v∈b))).length (ints ((a.take j).filter (fun v=> !decide (v∈b))))]⟩) ?_ (a.length) _ ⟨0,.free,.free,by simp,by simp⟩
 intro k s ⟨j,o1,o2,hj,hs⟩
 subst hs
 by_cases hjn:j<a.length
 ·have hw:=Cv (j:=j) (by omega)
  have hst:=LD (p:=fun v=> !decide (v∈b)) hjn
  have hln:=Oa (p:=fun v=> !decide (v∈b)) (xs:=a) (j:=j)
  have hbd:(((a.take j).filter (fun v=> !decide (v∈b))).length+1)*8<=1099511627776:=by omega
  simp -implicitDefEqProofs [hjn]
  refine Aa (hH b _ (by unfold maxLen;omega)) ?_
  by_cases h1:a[j]∈b
  ·rw[if_neg (by simp[h1]),List.append_nil]at hst
   simp -implicitDefEqProofs [h1,hjn,hbd]
   exact⟨k-1,by omega,j+1,by omega,by simp[hw],by rw[hst],by rw[hst]⟩
  ·rw[if_pos (by simp[h1])]at hst
   simp -implicitDefEqProofs [h1,hjn,hbd]
   exact⟨k-1,by omega,j+1,by omega,by simp[hw],by rw[hst];simp,by rw[hst]⟩
 ·have hx:=N7 (p:=fun v=> !decide (v∈b)) (xs:=a) (j:=j) (by omega)
  simp -implicitDefEqProofs [hjn,hx]
theorem AHL (hH:UQ (D 188)):AfF (Body D AtM):=by
 intro a b ha hb
 have hres:leftOf a b=a.filter (fun v=> !decide (v∈b)):=rfl
 rw[hres]
 simp -implicitDefEqProofs
 refine Ag (fun k s=>∃j v4 o1 o2,j+k=a.length/\s=⟨[.undef,.sl 1 1 b.length (ints b),.undef,.arr 3,v4,.sl 1 1 a.length (ints a),I a.length,I j,.undef,.undef],[.free,o1,o2,.arr 1 0 ((a.take j).filter (fun v=> !decide (v∈b))).length (ints ((a.take j).filter (fun v=> !decide (v∈b))))]⟩) ?_ (a.length) _ ⟨0,.undef,.free,.free,by simp,by simp⟩
 intro k s ⟨j,v4,o1,o2,hj,hs⟩
 subst hs
 by_cases hjn:j<a.length
 ·have hw:=Cv (j:=j) (by omega)
  have hst:=LD (p:=fun v=> !decide (v∈b)) hjn
  have hln:=Oa (p:=fun v=> !decide (v∈b)) (xs:=a) (j:=j)
  have hbd:(((a.take j).filter (fun v=> !decide (v∈b))).length+1)*8<=1099511627776:=by omega
  simp -implicitDefEqProofs [hjn]
  refine Aa (hH b _ (by unfold maxLen;omega)) ?_
  by_cases h1:a[j]∈b
  ·rw[if_neg (by simp[h1]),List.append_nil]at hst
   simp -implicitDefEqProofs [h1,hjn,hbd]
   exact⟨k-1,by omega,j+1,by omega,by simp[hw],by rw[hst],by rw[hst]⟩
  ·rw[if_pos (by simp[h1])]at hst
   simp -implicitDefEqProofs [h1,hjn,hbd]
   exact⟨k-1,by omega,j+1,by omega,by simp[hw],by rw[hst];simp,by rw[hst]⟩
 ·have hx:=N7 (p:=fun v=> !decide (v∈b)) (xs:=a) (j:=j) (by omega)
  simp -implicitDefEqProofs [hjn,hx]
def upTo (xs:List Int) (i:Nat):Bool:=decide (i=0)||decide (xs.getD (i-1) 0<xs.getD i 0)
def FI (xs:List Int):Bool:=Oj (upTo xs) xs.length&&allIn xs 0 255
abbrev VF:Prop:=∀xs:List Int,xs.length<=maxLen->R [.sl 1 1 xs.length (ints xs)] [] (B (FI xs)) []
theorem Ya {xs:List Int} {j:Nat} (h:j<xs.length) (hn:¬M6 xs[j] 0 255):FI xs=false:=by unfold FI;rw[Ahh h hn];simp
theorem XV {xs:List Int} {j:Nat} (h:j<xs.length) (hn:upTo xs j=false):FI xs=false:=by unfold FI;rw[AhE h hn];simp
theorem Xk (xs:List Int):upTo xs 0=true:=by simp[upTo]
theorem VI {xs:List Int} {j:Nat} (h0:¬j=0) (h:j<xs.length) (h':j-1<xs.length):upTo xs j=decide (xs[j-1]<xs[j]):=by
 unfold upTo
 rw[VG h,VG h']
 simp[h0]
theorem Aiw (hI:Vf (D 71)):VF (Body D Nz):=by
 intro xs hl
 unfold maxLen at hl
 simp -implicitDefEqProofs
 refine Ag (fun k s=>∃j,j+k=xs.length/\allIn (xs.take j) 0 255=true/\Oj (upTo xs) j=true/\s=⟨[.sl 1 1 xs.length (ints xs),.undef,I j,.undef,.undef],[]⟩) ?_ (xs.length) _ ⟨0,by simp,by simp[allIn],by simp,by simp⟩
 intro k s ⟨j,hj,hp,hr,hs⟩
 subst hs
 by_cases hjn:j<xs.length
 ·have hw:=Cv (j:=j) (by omega)
  have hst:=LY (upTo xs) j
  rw[hr,Bool.true_and]at hst
  simp -implicitDefEqProofs [hjn]
  refine Aa (hI _ _ _) ?_
  by_cases h1:M6 xs[j] 0 255
  rotate_left
  ·simp -implicitDefEqProofs [h1,Ya hjn h1]
  by_cases h0:j=0
  ·subst h0
   simp -implicitDefEqProofs [h1]
   exact⟨k-1,by omega,1,by omega,by rw[LU hjn,hp];simp[h1],by rw[hst,Xk],by simpa using hw⟩
  ·have hw2:IntKind.i64.wrap ((j:Int)-1)=((j-1:Nat):Int):=by rw[Ad (by omega) (by omega)];omega
   have h2:(0:Int)<j:=by omega
   have h2':0<j:=by omega
   have h3:j-1<xs.length:=by omega
   rw[VI h0 hjn h3]at hst
   by_cases h4:xs[j-1]<xs[j]
   ·have h4':¬xs[j]<=xs[j-1]:=by omega
    simp -implicitDefEqProofs [h1,h2,h2',hw2,h3,hjn,h4']
    exact⟨k-1,by omega,j+1,by omega,by rw[LU hjn,hp];simp[h1],by rw[hst];simp[h4],by simp[hw]⟩
   ·have e:=XV hjn (by rw[VI h0 hjn h3];simp[h4])
    have h4':xs[j]<=xs[j-1]:=by omega
    simp -implicitDefEqProofs [h1,h2,h2',hw2,h3,hjn,h4',e]
 ·obtain rfl:j=xs.length:=by omega
  have e:FI xs=true:=by unfold FI;rw[hr,Wt (by omega) hp];rfl
  simp -implicitDefEqProofs [e]
theorem AH1 (hN:AsS (D 233)):VF (Body D AwG):=by
 intro xs hl
 have hl0:=hl
 unfold maxLen at hl
 simp -implicitDefEqProofs
 refine Ag (fun k s=>∃j,j+k=xs.length/\Oj (upTo xs) j=true/\s=⟨[.sl 1 1 xs.length (ints xs),.undef,.undef,.undef,.sl 1 1 xs.length (ints xs),I xs.length,I j,.undef,.undef],[]⟩) ?_ (xs.length) _ ⟨0,by simp,by simp,by simp⟩
 intro k s ⟨j,hj,hr,hs⟩
 subst hs
 by_cases hjn:j<xs.length
 ·have hw:=Cv (j:=j) (by omega)
  have hst:=LY (upTo xs) j
  rw[hr,Bool.true_and]at hst
  by_cases h0:j=0
  ·subst h0
   simp -implicitDefEqProofs [hjn]
   exact⟨k-1,by omega,1,by omega,by rw[hst,Xk],by simpa using hw⟩
  ·have hw2:IntKind.i64.wrap ((j:Int)-1)=((j-1:Nat):Int):=by rw[Ad (by omega) (by omega)];omega
   have h2:(0:Int)<j:=by omega
   have h2':0<j:=by omega
   have h3:j-1<xs.length:=by omega
   rw[VI h0 hjn h3]at hst
   by_cases h4:xs[j-1]<xs[j]
   ·have h4':¬xs[j]<=xs[j-1]:=by omega
    simp -implicitDefEqProofs [h2,h2',hw2,h3,hjn,h4']
    exact⟨k-1,by omega,j+1,by omega,by rw[hst];simp[h4],by simp[hw]⟩
   ·have e:=XV hjn (by rw[VI h0 hjn h3];simp[h4])
    have h4':xs[j]<=xs[j-1]:=by omega
    simp -implicitDefEqProofs [h2,h2',hw2,h3,hjn,h4',e]
 ·obtain rfl:j=xs.length:=by omega
  have e:FI xs=allIn xs 0 255:=by unfold FI;rw[hr];rfl
  simp -implicitDefEqProofs
  refine Aa (hN xs _ _ hl0) ?_
  simp -implicitDefEqProofs [e]
def Au (e:Ai):Bool:=AQ e.versions&&(decide (e.tags.length<=5)&&(FI e.tags&&(!e.tags.any BH&&(decide (e.path.length<=4)&&(e.path.all IL&&decide (M6 e.cls 0 5))))))
abbrev Ij:Prop:=∀e:Ai,AbY e->R [arg (Ah e)] [] (B (Au e)) []
theorem Ac1 (hI:Vf (D 71)) (hR:Ib (D 250)) (hX:XD (D 152)) (hA:Dr (D 208)):Ij (Body D JC):=by
 intro e hl
 obtain⟨hl1,hl2,hl3⟩:=hl
 have hl4:=hl3.1
 have hl2':=hl2
 unfold Nr at hl2
 unfold maxLen at hl2 hl4
 simp -implicitDefEqProofs
 refine Ag (fun k s=>∃j,j+k=e.tags.length/\allIn (e.tags.take j) 0 255=true/\Oj (upTo e.tags) j=true/\(e.tags.take j).any BH=false/\s=⟨[.undef,.ptr 0 0,.undef,I j,.undef,.undef,.undef,.undef,.undef],[.var ((Ah e).map (AO 1))]⟩) ?_ (e.tags.length) _ ⟨0,by simp,by simp[allIn],by simp,by simp,by simp⟩
 intro k s ⟨j,hj,hp,hr,hq,hs⟩
 subst hs
 by_cases hjn:j<e.tags.length
 ·have hw:=Cv (j:=j) (by omega)
  have hst:=LY (upTo e.tags) j
  rw[hr,Bool.true_and]at hst
  have hsq:=Abh (p:=BH) hjn
  rw[hq,Bool.false_or]at hsq
  simp -implicitDefEqProofs [hjn]
  refine Aa (hI _ _ _) ?_
  by_cases h1:M6 e.tags[j] 0 255
  rotate_left
  ·have e0:Au e=false:=by unfold Au;rw[Ya hjn h1];simp
   simp -implicitDefEqProofs [h1,e0]
  simp -implicitDefEqProofs [h1,hjn]
  refine Aa (hR _) ?_
  by_cases h5:BH e.tags[j]=true
  ·have e0:Au e=false:=by unfold Au;rw[QR hjn h5];simp
   simp -implicitDefEqProofs [h5,e0]
  have h5':BH e.tags[j]=false:=by simpa using h5
  by_cases h0:j=0
  ·subst h0
   simp -implicitDefEqProofs [h1,h5']
   exact⟨k-1,by omega,1,by omega,by rw[LU hjn,hp];simp[h1],by rw[hst,Xk],by simpa using hsq.trans h5',by simpa using hw⟩
  ·have hw2:IntKind.i64.wrap ((j:Int)-1)=((j-1:Nat):Int):=by rw[Ad (by omega) (by omega)];omega
   have h2:(0:Int)<j:=by omega
   have h2':0<j:=by omega
   have h3:j-1<e.tags.length:=by omega
   rw[VI h0 hjn h3]at hst
   by_cases h4:e.tags[j-1]<e.tags[j]
   ·have h4':¬e.tags[j]<=e.tags[j-1]:=by omega
    simp -implicitDefEqProofs [h1,h5',h2,h2',hw2,h3,hjn,h4']
    exact⟨k-1,by omega,j+1,by omega,by rw[LU hjn,hp];simp[h1],by rw[hst];simp[h4],by simpa using hsq.trans h5',by simp[hw]⟩
   ·have e0:Au e=false:=by unfold Au;rw[XV hjn (by rw[VI h0 hjn h3];simp[h4])];simp
    have h4':e.tags[j]<=e.tags[j-1]:=by omega
    simp -implicitDefEqProofs [h1,h5',h2,h2',hw2,h3,hjn,h4',e0]
 obtain rfl:j=e.tags.length:=by omega
 have et:FI e.tags=true:=by unfold FI;rw[hr,Wt (by omega) hp];rfl
 have er:e.tags.any BH=false:=any_none (by omega) hq
 simp -implicitDefEqProofs
 refine Ag (fun k s=>∃j,j+k=e.path.length/\(e.path.take j).all IL=true/\s=⟨[.undef,.ptr 0 0,.undef,.undef,I j,.undef,.undef,.undef,.undef],[.var ((Ah e).map (AO 1))]⟩) ?_ (e.path.length) _ ⟨0,by simp,by simp,by simp⟩
 intro k s ⟨j,hj,hb,hs⟩
 subst hs
 by_cases hjn:j<e.path.length
 ·have hw:=Cv (j:=j) (by omega)
  have hst:=Qm (p:=IL) hjn
  rw[hb,Bool.true_and]at hst
  simp -implicitDefEqProofs [hjn]
  refine Aa (hX _ (hl3.2 j hjn)) ?_
  by_cases h1:IL e.path[j]=true
  ·simp -implicitDefEqProofs [h1]
   exact⟨k-1,by omega,j+1,by omega,by simpa using hst.trans h1,by simp[hw]⟩
  ·have e0:Au e=false:=by unfold Au;rw[NP hjn (by simpa using h1)];simp
   simp -implicitDefEqProofs [h1,e0]
 have eb:e.path.all IL=true:=by rw[<-VW (j:=j) (by omega),hb]
 simp -implicitDefEqProofs [hjn]
 refine Aa (hA _ hl1) ?_
 by_cases g1:AQ e.versions=true
 rotate_left
 ·simp -implicitDefEqProofs [g1,Au]
 by_cases g2:e.tags.length<=5
 rotate_left
 ·have g2':¬(e.tags.length:Int)<=5:=by omega
  simp -implicitDefEqProofs [g1,g2,g2',Au]
 have g2':(e.tags.length:Int)<=5:=by omega
 by_cases g3:e.path.length<=4
 rotate_left
 ·have g3':¬(e.path.length:Int)<=4:=by omega
  simp -implicitDefEqProofs [g1,g2,g2',g3,g3',Au]
 have g3':(e.path.length:Int)<=4:=by omega
 simp -implicitDefEqProofs [g1,g2',g3']
 refine Aa (hI _ _ _) ?_
 have ee:Au e=decide (M6 e.cls 0 5):=by unfold Au;rw[et,er,eb];simp[g1,g2,g3]
 simp -implicitDefEqProofs [ee]
abbrev AvT:Prop:=∀b:EG,Kh b->R [arg (DT b)] [] (B (!IL b)) []
theorem AEH (hX:XD (D 183)):AvT (Body D At2):=by
 intro b hb
 simp -implicitDefEqProofs
 refine Aa (hX b hb) ?_
 simp -implicitDefEqProofs
theorem AC2 {α:Type} (p:α->Bool) (xs:List α):(xs.any fun x=> !p x)= !xs.all p:=by rw[List.all_eq_not_any_not];simp
theorem AE1 (hA:Dr (D 232)) (hT:VF (D 235)) (hH:At7 (D 270)) (h1:AvT (D 271)) (hC:As3 D (D 272)) (hI:Vf (D 114)):Ij (Body D AuD):=by
 intro e hl
 obtain⟨hl1,hl2,hl3⟩:=hl
 simp -implicitDefEqProofs
 refine Aa (hA _ hl1) ?_
 by_cases g1:AQ e.versions=true
 rotate_left
 ·simp -implicitDefEqProofs [g1,Au]
 by_cases g2:e.tags.length<=5
 rotate_left
 ·have g2':¬(e.tags.length:Int)<=5:=by omega
  simp -implicitDefEqProofs [g1,g2,g2',Au]
 have g2':(e.tags.length:Int)<=5:=by omega
 simp -implicitDefEqProofs [g1,g2']
 refine Aa (hT _ hl2) ?_
 by_cases g4:FI e.tags=true
 rotate_left
 ·simp -implicitDefEqProofs [g4,Au]
 simp -implicitDefEqProofs [g4]
 refine Aa (hH _ hl2) ?_
 by_cases g5:e.tags.any BH=true
 ·have e0:Au e=false:=by unfold Au;rw[g5];simp
  generalize e.tags.any BH=q at g5
  subst g5
  simp -implicitDefEqProofs [e0]
 have g5':e.tags.any BH=false:=by simpa using g5
 have ee:Au e=(decide (e.path.length<=4)&&(e.path.all IL&&decide (M6 e.cls 0 5))):=by unfold Au;rw[g5',g1,g4];simp[g2]
 rw[ee]
 generalize e.tags.any BH=q at g5'
 subst g5'
 by_cases g3:e.path.length<=4
 rotate_left
 ·have g3':¬(e.path.length:Int)<=4:=by omega
  simp -implicitDefEqProofs [g3,g3']
 have g3':(e.path.length:Int)<=4:=by omega
 simp -implicitDefEqProofs [g3,g3']
 refine Aa (hC e.path 271 [] (fun b=> !IL b) hl3.1 Api (fun j hj=>h1 e.path[j] (hl3.2 j hj))) ?_
 rw[AC2]
 generalize e.path.all IL=q
 by_cases g6:q=true
 rotate_left
 ·simp -implicitDefEqProofs [g6]
 simp -implicitDefEqProofs [g6]
 refine Aa (hI _ _ _) ?_
 simp -implicitDefEqProofs
theorem Ap2 {b:EG} (h:Gm b<=4194304):Kh b:=by
 unfold Gm at h
 exact⟨by unfold Nr maxLen;omega,by unfold Nr maxLen;omega⟩
theorem Aeg {p:List EG} (h:Cr Gm p<=4194304):lnS Kh p:=
 ⟨by have:=J9 (f:=Gm) (xs:=p);unfold maxLen;omega,fun j hj=>Ap2 (by have:=size_at (f:=Gm) hj;omega)⟩
theorem AhO {e:Ai} (h:Am e<=4194304):AbY e:=by
 unfold Am at h
 exact⟨by unfold Nr maxLen;omega,by unfold Nr maxLen;omega,Aeg (by omega)⟩
theorem AdH {w:World} (h:Af w<=4194304) {n:Nat} (hn:n<w.ends.length):Am w.ends[n]<=4194304:=by
 have:=size_at (f:=Am) hn
 have:=(Od h).2.2.1
 omega
theorem Adq {e:Ai} (h:Am e<=4194304):e.versions.length<=4194304:=by unfold Am at h;omega
def Axs (e:Ai) (s:List Int):Int:=if Au e=true then AJ s (leftOf e.versions (BZ e.path e.versions))else 0
abbrev AAY:Prop:=∀(e:Ai) (s:List Int),Am e<=4194304->s.length<=4194304->R [arg (Ah e),.sl 1 1 s.length (ints s)] [] (I (Axs e s)) []
theorem Am3 (path:List EG) (vs:List Int):(BZ path vs).length<=vs.length:=by
 unfold BZ
 split
 ·exact List.length_filter_le _ _
 ·simp
theorem AKk (a b:List Int):(leftOf a b).length<=a.length:=List.length_filter_le _ _
theorem AO1 (hE:Ij (D 207)) (hV:JH (D 222)) (hL:AfF (D 223)) (hB:FQ (D 168)):AAY (Body D AL8):=by
 intro e s hsz hs
 have hl:=AhO hsz
 have hv:=Adq hsz
 obtain⟨hl1,hl2,hl3⟩:=hl
 simp -implicitDefEqProofs
 refine Aa (hE e (AhO hsz)) ?_
 by_cases h1:Au e=true
 rotate_left
 ·simp -implicitDefEqProofs [h1,Axs]
 have hll:=Am3 e.path e.versions
 have hll2:=AKk e.versions (BZ e.path e.versions)
 simp -implicitDefEqProofs [h1]
 refine Aa (hV e.path e.versions hl3 hv) ?_
 simp -implicitDefEqProofs
 refine Aa (hL e.versions (BZ e.path e.versions) hv (by omega)) ?_
 simp -implicitDefEqProofs
 refine Aa (hB s (leftOf e.versions (BZ e.path e.versions)) hs (by omega)) ?_
 simp -implicitDefEqProofs [Axs,h1]
theorem AHO (hE:Ij (D 239)) (hV:JH (D 240)) (hL:AfF (D 189)) (hB:FQ (D 190)):AAY (Body D AwU):=by
 intro e s hsz hs
 have hl:=AhO hsz
 have hv:=Adq hsz
 obtain⟨hl1,hl2,hl3⟩:=hl
 simp -implicitDefEqProofs
 refine Aa (hE e (AhO hsz)) ?_
 by_cases h1:Au e=true
 rotate_left
 ·simp -implicitDefEqProofs [h1,Axs]
 have hll:=Am3 e.path e.versions
 have hll2:=AKk e.versions (BZ e.path e.versions)
 simp -implicitDefEqProofs [h1]
 refine Aa (hV e.path e.versions hl3 hv) ?_
 simp -implicitDefEqProofs
 refine Aa (hL e.versions (BZ e.path e.versions) hv (by omega)) ?_
 simp -implicitDefEqProofs
 refine Aa (hB s (leftOf e.versions (BZ e.path e.versions)) hs (by omega)) ?_
 simp -implicitDefEqProofs [Axs,h1]
def AsR (w:World) (i:Int):Int:=if NJ i 0 ((w.ends.length:Int)-1)then(match w.ends[i.toNat]? with | some e=>Axs e w.server | none=>0)else 0
abbrev Ayv:Prop:=∀(w:World) (i:Int),Af w<=4194304->R [arg (Bu w),I i] [] (I (AsR w i)) []
theorem AOW (hI:Vf (D 71)) (hB:AAY (D 165)):Ayv (Body D AMa):=by
 intro w i hsz
 have he:=FE hsz
 have hw:IntKind.i64.wrap ((w.ends.length:Int)-1)=(w.ends.length:Int)-1:=Ad (by omega) (by omega)
 simp -implicitDefEqProofs [hw]
 refine Aa (hI _ _ _) ?_
 by_cases h1:NJ i 0 ((w.ends.length:Int)-1)
 rotate_left
 ·simp -implicitDefEqProofs [h1,AsR]
 obtain⟨n,rfl⟩:∃n:Nat,i=n:=⟨i.toNat,by have:=h1.1;omega⟩
 have hn:n<w.ends.length:=by have:=h1.2;omega
 have hb:=Od hsz
 have hes:=AdH hsz hn
 have e:AsR w n=Axs w.ends[n] w.server:=by unfold AsR;rw[if_pos h1];simp[hn]
 rw[e]
 simp -implicitDefEqProofs [h1,hn]
 refine Aa (hB w.ends[n] w.server hes hb.1) ?_
 simp -implicitDefEqProofs
theorem AHR (hI:Au5 (D 117)) (hB:AAY (D 186)):Ayv (Body D AwW):=by
 intro w i hsz
 have he:=FE hsz
 simp -implicitDefEqProofs
 refine Aa (hI w i he) ?_
 by_cases h1:NJ i 0 ((w.ends.length:Int)-1)
 rotate_left
 ·simp -implicitDefEqProofs [h1,AsR]
 obtain⟨n,rfl⟩:∃n:Nat,i=n:=⟨i.toNat,by have:=h1.1;omega⟩
 have hn:n<w.ends.length:=by have:=h1.2;omega
 have hb:=Od hsz
 have hes:=AdH hsz hn
 have e:AsR w n=Axs w.ends[n] w.server:=by unfold AsR;rw[if_pos h1];simp[hn]
 rw[e]
 simp -implicitDefEqProofs [h1,hn]
 refine Aa (hB w.ends[n] w.server hes hb.1) ?_
 simp -implicitDefEqProofs
set_option maxHeartbeats 1000000
def Ei:List Int->Int->Nat
 | [],_=>0
 | x::r,v=>if x<v then Ei r v+1 else 0
theorem AeQ:∀(l:List Int) (v:Int),Ei l v<=l.length
 | [],_=>Nat.le_refl 0
 | x::r,v=>by
  have:=AeQ r v
  simp only[Ei,List.length_cons]
  split<;>omega
theorem Aj8 {l:List Int} {v:Int} {j:Nat} (h:j<l.length) (hv:l[j]<v):Ei (l.drop j) v=Ei (l.drop (j+1)) v+1:=by
 rw[List.drop_eq_getElem_cons h]
 simp only[Ei,if_pos hv]
theorem Ade {l:List Int} {v:Int} {j:Nat} (h:j<l.length) (hv:¬l[j]<v):Ei (l.drop j) v=0:=by
 rw[List.drop_eq_getElem_cons h]
 simp only[Ei,if_neg hv]
theorem Amr {l:List Int} {v:Int} {j:Nat} (h:l.length<=j):Ei (l.drop j) v=0:=by rw[List.drop_eq_nil_of_le h];rfl
def Ua (l:List Int) (i:Nat) (v:Int):List Int:=l.take i++v::l.drop i
theorem AgY {l:List Int} {i:Nat} {v:Int} (h:i<=l.length):(Ua l i v).length=l.length+1:=by simp[Ua];omega
def El (l:List Int) (v:Int):List Int:=if l[Ei l v]? =some v then l else Ua l (Ei l v) v
theorem Rm (l:List Int) (v:Int):(El l v).length<=l.length+1:=by
 unfold El
 split
 ·omega
 ·rw[AgY (AeQ l v)];omega
abbrev Mf:Prop:=∀(l:List Int) (v:Int),l.length<=4194304->R [.sl 1 1 l.length (ints l),I v] [] (.sl 0 1 (El l v).length (ints (El l v))) []
abbrev AvR:Prop:=∀(l:List Int) (v:Int),l.length<=4194304->R [.arr 0,I v] [.arr 1 0 l.length (ints l)] (.sl 0 1 (El l v).length (ints (El l v))) [.dead]
abbrev AIR:Prop:=∀(l:List Int) (i:Nat) (v:Int),l.length<=4194304->i<=l.length->R [.arr 0,I i,.arr 1] [.arr 1 0 l.length (ints l),.arr 1 0 1 (ints [v])] (.sl 0 1 (Ua l i v).length (ints (Ua l i v))) [.dead,.dead]
theorem Ao5:Mf (Body D QC):=by
 intro l v hl
 simp -implicitDefEqProofs
 refine Ag (fun k s=>∃j,j+k=l.length/\Ei l v=j+Ei (l.drop j) v/\s=⟨[.sl 1 1 l.length (ints l),I v,.undef,I j,.undef,.undef],[.free,.free,.free,.free,.free,.free,.free]⟩) ?_ (l.length) _ ⟨0,by simp,by simp,by simp⟩
 intro k s ⟨j,hj,hp,hs⟩
 subst hs
 by_cases hjn:j<l.length
 ·have hw:=Cv (j:=j) (by omega)
  by_cases hv:l[j]<v
  ·have hst:=Aj8 hjn hv
   simp -implicitDefEqProofs [hjn,hv]
   exact⟨k-1,by omega,j+1,by omega,by omega,by simp[hw]⟩
  ·have hst:=Ade hjn hv
   have hpe:Ei l v=j:=by omega
   have b1:l.length*8<=1099511627776:=by omega
   have b2:j*8<=1099511627776:=by omega
   have b3:(j+1)*8<=1099511627776:=by omega
   have b4:(j+1+(l.length-j))*8<=1099511627776:=by omega
   have hjl:j<=l.length:=by omega
   have hjl':(j:Int)<=l.length:=by omega
   have hmin:min j l.length=j:=by omega
   have htk:List.take (l.length-j) (List.drop j l)=List.drop j l:=List.take_of_length_le (by simp)
   by_cases he:l[j]=v
   ·have e:El l v=l:=by unfold El;rw[hpe,List.getElem?_eq_getElem hjn,he,if_pos rfl]
    rw[e]
    simp -implicitDefEqProofs [hjn,hv,he,b1]
   ·have e:El l v=l.take j++v::l.drop j:=by unfold El Ua;rw[hpe,List.getElem?_eq_getElem hjn,if_neg (by simpa using he)]
    have el:(El l v).length=j+1+(l.length-j):=by rw[e];simp;omega
    simp -implicitDefEqProofs [hjn,hv,he,hjl,hjl',hmin,b2,b3,b4]
    rw[el,e]
    simp[htk,Ab4]
 ·have hst:=Amr (v:=v) (l:=l) (j:=j) (by omega)
  have hpe:Ei l v=j:=by omega
  have b1:l.length*8<=1099511627776:=by omega
  have b2:j*8<=1099511627776:=by omega
  have b3:(j+1)*8<=1099511627776:=by omega
  have b4:(j+1+(l.length-j))*8<=1099511627776:=by omega
  have hjl:j<=l.length:=by omega
  have hjl':(j:Int)<=l.length:=by omega
  have hmin:min j l.length=j:=by omega
  have htk:List.take (l.length-j) (List.drop j l)=List.drop j l:=List.take_of_length_le (by simp)
  have e:El l v=l.take j++v::l.drop j:=by unfold El Ua;rw[hpe,List.getElem?_eq_none (by omega),if_neg (by simp)]
  have el:(El l v).length=j+1+(l.length-j):=by rw[e];simp;omega
  simp -implicitDefEqProofs [hjn,hjl,hjl',hmin,b2,b3,b4]
  rw[el,e]
  simp[htk,Ab4]
theorem AEh (hI:AIR (D 264)):AvR (Body D At1):=by
 intro l v hl
 simp -implicitDefEqProofs
 refine Ag (fun k s=>∃j,j+k=l.length/\Ei l v=j+Ei (l.drop j) v/\s=⟨[.arr 0,I v,.undef,I j,.undef,.undef],[.arr 1 0 l.length (ints l),.free,.free]⟩) ?_ (l.length) _ ⟨0,by simp,by simp,by simp⟩
 intro k s ⟨j,hj,hp,hs⟩
 subst hs
 by_cases hjn:j<l.length
 ·have hw:=Cv (j:=j) (by omega)
  by_cases hv:l[j]<v
  ·have hst:=Aj8 hjn hv
   simp -implicitDefEqProofs [hjn,hv]
   exact⟨k-1,by omega,j+1,by omega,by omega,by simp[hw]⟩
  ·have hst:=Ade hjn hv
   have hpe:Ei l v=j:=by omega
   have b1:l.length*8<=1099511627776:=by omega
   have b2:j*8<=1099511627776:=by omega
   have b3:(j+1)*8<=1099511627776:=by omega
   have b4:(j+1+(l.length-j))*8<=1099511627776:=by omega
   have hjl:j<=l.length:=by omega
   have hjl':(j:Int)<=l.length:=by omega
   have hmin:min j l.length=j:=by omega
   have htk:List.take (l.length-j) (List.drop j l)=List.drop j l:=List.take_of_length_le (by simp)
   by_cases he:l[j]=v
   ·have e:El l v=l:=by unfold El;rw[hpe,List.getElem?_eq_getElem hjn,he,if_pos rfl]
    rw[e]
    simp -implicitDefEqProofs [hjn,hv,he,b1]
   ·have e:El l v=Ua l j v:=by unfold El;rw[hpe,List.getElem?_eq_getElem hjn,if_neg (by simpa using he)]
    rw[e]
    simp -implicitDefEqProofs [hjn,hv,he]
    refine Aa (hI l j v hl hjl) ?_
    simp -implicitDefEqProofs [Cu]
 ·have hst:=Amr (v:=v) (l:=l) (j:=j) (by omega)
  have hpe:Ei l v=j:=by omega
  have b1:l.length*8<=1099511627776:=by omega
  have b2:j*8<=1099511627776:=by omega
  have b3:(j+1)*8<=1099511627776:=by omega
  have b4:(j+1+(l.length-j))*8<=1099511627776:=by omega
  have hjl:j<=l.length:=by omega
  have hjl':(j:Int)<=l.length:=by omega
  have hmin:min j l.length=j:=by omega
  have htk:List.take (l.length-j) (List.drop j l)=List.drop j l:=List.take_of_length_le (by simp)
  have e:El l v=Ua l j v:=by unfold El;rw[hpe,List.getElem?_eq_none (by omega),if_neg (by simp)]
  rw[e]
  simp -implicitDefEqProofs [hjn]
  refine Aa (hI l j v hl hjl) ?_
  simp -implicitDefEqProofs [Cu]
set_option maxHeartbeats 1000000
def UB {α:Type} (f:α->α) (xs:List α) (j:Nat):List α:=(xs.take j).map f++xs.drop j
section
variable {α:Type} {f:α->α} {xs:List α} {j:Nat}
theorem AkF:UB f xs 0=xs:=by simp[UB]
theorem AmF (h:xs.length<=j):UB f xs j=xs.map f:=by simp[UB,List.take_of_length_le h,List.drop_eq_nil_of_le h]
@[simp] theorem Al6 (h:j<=xs.length):(UB f xs j).length=xs.length:=by simp[UB];omega
theorem AgH (h:j<xs.length):(UB f xs j)[j]'(by rw[Al6 (by omega)];exact h)=xs[j]:=by
 unfold UB
 have hl:((xs.take j).map f).length=j:=by simp;omega
 have hm:min j xs.length=j:=by omega
 rw[List.getElem_append_right (by omega)]
 simp[hm]
theorem AgD (h:j<xs.length):(UB f xs j).set j (f xs[j])=UB f xs (j+1):=by
 unfold UB
 have hl:((xs.take j).map f).length=j:=by simp;omega
 have ht:xs.take (j+1)=xs.take j++ [xs[j]]:=by simp
 rw[List.set_append_right _ _ (by omega),hl,Nat.sub_self,ht,List.map_append,List.drop_eq_getElem_cons h,List.set_cons_zero,List.append_assoc]
 rfl
theorem Alv (h:j<xs.length) (hf:f xs[j]=xs[j]):UB f xs (j+1)=UB f xs j:=by
 rw[<-AgD h,hf]
 have:=AgH (f:=f) h
 conv=>lhs;rw[<-this]
 simp
end
def Ev (w:World) (e:Ai):Ai:=if 0<AJ w.server (Co e.versions w.rollout.version)then⟨Co e.versions w.rollout.version,e.tags,e.path,e.cls⟩else e
def leave (w:World):World:={w with ends:=w.ends.map (Ev w),stage:=[]}
abbrev JG:Prop:=∀w:World,Af w<=4194304->R [arg (Bu w)] [] (.agg (Bu (leave w))) []
theorem ApX (a:List Int) (v:Int):(Co a v).length<=a.length:=List.length_filter_le _ _
theorem AgL {w:World} (h:Af w<=4194304) {j:Nat} (hj:j<w.ends.length):w.ends[j].versions.length<=4194304:=by
 have:=size_at (f:=Am) hj
 have e:Am w.ends[j]=w.ends[j].versions.length+w.ends[j].tags.length+Cr Gm w.ends[j].path:=rfl
 unfold Af at h
 omega
theorem Ail {w:World} (h:Af w<=4194304):w.server.length<=4194304:=by unfold Af at h;omega
theorem YG (hC:EF (D 22)) (hW:Ic (D 167)) (hB:FQ (D 168)):JG (Body D Ia):=by
 intro w h
 have hl:=FE h
 simp -implicitDefEqProofs
 refine Aa (hC w h) ?_
 simp -implicitDefEqProofs
 refine Ag (fun k s=>∃j v5 o9,j+k=w.ends.length/\s=⟨[.undef,.ptr 0 0,.ptr 1 0,.ptr 8 0,.sc (.int .i64 j),v5,.undef,.undef],[.var ((Bu w).map (AO 1)),.var [.nil 1,.nil 1,.sc (.int .i64 0),.nil 4,.sc (.int .i64 0),.nil 1,.sc (.int .i64 0),.sc (.bool false),.sc (.int .i64 0),.sc (.int .i64 0),.nil 5,.nil 8,.sc (.int .i64 0),.sc (.int .i64 0),.sc (.int .i64 0)],.arr 1 0 w.server.length (ints w.server),.arr 1 0 w.tags.length (ints w.tags),.arr 4 0 w.ends.length ((UB (Ev w) w.ends j).flatMap Ah),.arr 1 0 w.rollout.stages.length (ints w.rollout.stages),.arr 5 0 w.stage.length (w.stage.flatMap AB),.arr 8 0 w.log.length (w.log.flatMap Az),.var [.arr 2,.arr 3,.sc (.int .i64 w.key),.arr 4,.sc (.int .i64 w.rollout.version),.arr 5,.sc (.int .i64 w.rollout.pos),.sc (.bool w.rollout.off),.sc (.int .i64 w.least),.sc (.int .i64 w.percent),.arr 6,.arr 7,.sc (.int .i64 w.now),.sc (.int .i64 w.hurt),.sc (.int .i64 w.reached)],o9,.free]⟩) ?_ w.ends.length _ ⟨0,by simp[AkF]⟩
 intro k s ⟨j,v5,o9,hj,hs⟩
 subst hs
 by_cases hjn:j<w.ends.length
 ·have hw:=Cv (j:=j) (by omega)
  have hjl:j<=w.ends.length:=by omega
  have hset:=AgD (f:=Ev w) hjn
  have hg:=AgH (f:=Ev w) hjn
  have hvl:=AgL h hjn
  have hwl:=ApX w.ends[j].versions w.rollout.version
  have hf:j*4<w.ends.length*4:=by omega
  simp -implicitDefEqProofs [hjn,hjl,hg]
  refine Aa (hW w.ends[j].versions _ hvl) ?_
  simp -implicitDefEqProofs
  refine Aa (hB w.server _ (Ail h) (by omega)) ?_
  by_cases h1:0<AJ w.server (Co w.ends[j].versions w.rollout.version)
  ·have e:Ev w w.ends[j]=⟨Co w.ends[j].versions w.rollout.version,w.ends[j].tags,w.ends[j].path,w.ends[j].cls⟩:=by unfold Ev;rw[if_pos h1]
   rw[e]at hset
   simp -implicitDefEqProofs [h1,hjn,hjl,hg,hf]
   exact⟨k-1,by omega,j+1,by omega,by simp[hw],by rw[<-hset]⟩
  ·have e:Ev w w.ends[j]=w.ends[j]:=by unfold Ev;rw[if_neg h1]
   have hsame:=Alv hjn e
   simp -implicitDefEqProofs [h1]
   exact⟨k-1,by omega,j+1,by omega,by simp[hw],by rw[hsame]⟩
 ·have hx:=AmF (f:=Ev w) (xs:=w.ends) (j:=j) (by omega)
  simp -implicitDefEqProofs [hjn,hx,leave]
theorem ACu (hC:EF (D 38)) (hW:Aw5 (D 189)) (hB:FQ (D 190)):JG (Body D At5):=by
 intro w h
 have hl:=FE h
 simp -implicitDefEqProofs
 refine Aa (hC w h) ?_
 simp -implicitDefEqProofs
 refine Ag (fun k s=>∃j v5 v6 v7 o9 o10 o11,j+k=w.ends.length/\s=⟨[.undef,.ptr 0 0,.ptr 1 0,.ptr 8 0,.sc (.int .i64 w.rollout.version),v5,v6,v7,.arr 4,.sc (.int .i64 w.ends.length),.sc (.int .i64 j),.undef,.undef],[.var ((Bu w).map (AO 1)),.var [.nil 1,.nil 1,.sc (.int .i64 0),.nil 4,.sc (.int .i64 0),.nil 1,.sc (.int .i64 0),.sc (.bool false),.sc (.int .i64 0),.sc (.int .i64 0),.nil 5,.nil 8,.sc (.int .i64 0),.sc (.int .i64 0),.sc (.int .i64 0)],.arr 1 0 w.server.length (ints w.server),.arr 1 0 w.tags.length (ints w.tags),.arr 4 0 w.ends.length ((UB (Ev w) w.ends j).flatMap Ah),.arr 1 0 w.rollout.stages.length (ints w.rollout.stages),.arr 5 0 w.stage.length (w.stage.flatMap AB),.arr 8 0 w.log.length (w.log.flatMap Az),.var [.arr 2,.arr 3,.sc (.int .i64 w.key),.arr 4,.sc (.int .i64 w.rollout.version),.arr 5,.sc (.int .i64 w.rollout.pos),.sc (.bool w.rollout.off),.sc (.int .i64 w.least),.sc (.int .i64 w.percent),.arr 6,.arr 7,.sc (.int .i64 w.now),.sc (.int .i64 w.hurt),.sc (.int .i64 w.reached)],o9,o10,o11]⟩) ?_ w.ends.length _ ⟨0,by simp[AkF]⟩
 intro k s ⟨j,v5,v6,v7,o9,o10,o11,hj,hs⟩
 subst hs
 by_cases hjn:j<w.ends.length
 ·have hw:=Cv (j:=j) (by omega)
  have hjl:j<=w.ends.length:=by omega
  have hset:=AgD (f:=Ev w) hjn
  have hg:=AgH (f:=Ev w) hjn
  have hvl:=AgL h hjn
  have hwl:=ApX w.ends[j].versions w.rollout.version
  have hf:j*4<w.ends.length*4:=by omega
  simp -implicitDefEqProofs [hjn,hjl,hg]
  refine Aa (hW w.ends[j].versions _ hvl) ?_
  by_cases h0:(Co w.ends[j].versions w.rollout.version).length<w.ends[j].versions.length
  ·have h0':((Co w.ends[j].versions w.rollout.version).length:Int)<w.ends[j].versions.length:=by omega
   simp -implicitDefEqProofs [h0,h0']
   refine Aa (hB w.server _ (Ail h) (by omega)) ?_
   by_cases h1:0<AJ w.server (Co w.ends[j].versions w.rollout.version)
   ·have e:Ev w w.ends[j]=⟨Co w.ends[j].versions w.rollout.version,w.ends[j].tags,w.ends[j].path,w.ends[j].cls⟩:=by unfold Ev;rw[if_pos h1]
    rw[e]at hset
    simp -implicitDefEqProofs [h1,hjn,hjl,hg,hf]
    exact⟨k-1,by omega,j+1,by omega,by simp[hw],by rw[<-hset]⟩
   ·have e:Ev w w.ends[j]=w.ends[j]:=by unfold Ev;rw[if_neg h1]
    have hsame:=Alv hjn e
    simp -implicitDefEqProofs [h1]
    exact⟨k-1,by omega,j+1,by omega,by simp[hw],by rw[hsame]⟩
  ·have h0':¬((Co w.ends[j].versions w.rollout.version).length:Int)<w.ends[j].versions.length:=by omega
   have e:Ev w w.ends[j]=w.ends[j]:=by
    have hall:Co w.ends[j].versions w.rollout.version=w.ends[j].versions:=List.filter_eq_self.2 (by
     have:=List.length_filter_eq_length_iff (p:=fun x=> !decide (x=w.rollout.version)) (l:=w.ends[j].versions)
     exact this.1 (by unfold Co at h0 hwl;omega))
    unfold Ev
    rw[hall]
    split<;>rfl
   have hsame:=Alv hjn e
   simp -implicitDefEqProofs [h0,h0']
   exact⟨k-1,by omega,j+1,by omega,by simp[hw],by rw[hsame]⟩
 ·have hx:=AmF (f:=Ev w) (xs:=w.ends) (j:=j) (by omega)
  simp -implicitDefEqProofs [hjn,hx,leave]
set_option maxHeartbeats 2000000
def MN {α:Type} (f:Nat->α->α) (xs:List α) (j:Nat):List α:=xs.mapIdx fun i x=>if i<j then f i x else x
section
variable {α:Type} {f:Nat->α->α} {xs:List α} {j:Nat}
@[simp] theorem WN:(MN f xs j).length=xs.length:=by simp[MN]
theorem AiZ:MN f xs 0=xs:=by
 apply List.ext_getElem
 ·simp
 ·intro n h1 h2;simp[MN]
theorem Akv (h:xs.length<=j):MN f xs j=xs.mapIdx f:=by
 apply List.ext_getElem
 ·simp
 ·intro n h1 h2
  simp only[WN]at h1
  simp only[MN,List.getElem_mapIdx]
  rw[if_pos (by omega)]
theorem AdE (h:j<xs.length):(MN f xs j)[j]'(by rw[WN];exact h)=xs[j]:=by simp[MN]
theorem Adx (h:j<xs.length):(MN f xs j).set j (f j xs[j])=MN f xs (j+1):=by
 apply List.ext_getElem
 ·simp
 ·intro n h1 h2
  simp only[List.length_set,WN]at h1
  rw[List.getElem_set]
  simp only[MN,List.getElem_mapIdx]
  by_cases hn:j=n
  ·subst hn;simp
  ·rw[if_neg hn]
   by_cases hl:n<j
   ·rw[if_pos hl,if_pos (by omega)]
   ·rw[if_neg hl,if_neg (by omega)]
theorem Aii (h:j<xs.length) (hf:f j xs[j]=xs[j]):MN f xs (j+1)=MN f xs j:=by
 rw[<-Adx h,hf]
 have:=AdE (f:=f) h
 conv=>lhs;rw[<-this]
 simp
end
def Fv (w:World) (i:Nat) (e:Ai):Ai:=if isIn w.rollout i w.ends.length=true then⟨El e.versions w.rollout.version,e.tags,e.path,e.cls⟩else e
def Hg (w:World):Bool:=AP w.rollout&& !w.rollout.off
def enter (w:World):World:=if Hg w=true then {w with ends:=w.ends.mapIdx (Fv w),stage:=[],reached:=max w.reached (w.rollout.pos+1)}else w
abbrev J3:Prop:=∀w:World,Af w<=4194304->R [arg (Bu w)] [] (.agg (Bu (enter w))) []
abbrev Afz:Prop:=∀a b:Int,R [I a,I b] [] (I (max a b)) []
abbrev Ajq:Prop:=∀a b:Int,R [I a,I b] [] (I (min a b)) []
theorem ApW:Afz (Body D WM):=by
 intro a b
 by_cases h:a<b
 ·have e:max a b=b:=by omega
  simp -implicitDefEqProofs [h,e]
 ·have e:max a b=a:=by omega
  simp -implicitDefEqProofs [h,e]
theorem AqQ:Ajq (Body D Xi):=by
 intro a b
 by_cases h:a<b
 ·have e:min a b=a:=by omega
  simp -implicitDefEqProofs [h,e]
  intro;omega
 ·have e:min a b=b:=by omega
  simp -implicitDefEqProofs [h,e]
  intro;omega
theorem Acf (hC:EF (D 22)) (hR:FX (D 145)) (hI:Af6 (D 214)) (hP:Mf (D 159)) (hM:Afz (D 215)):J3 (Body D Jp):=by
 intro w h
 have hl:=FE h
 have hr:=OU h
 simp -implicitDefEqProofs
 refine Aa (hC w h) ?_
 simp -implicitDefEqProofs
 refine Aa (hR w.rollout hr) ?_
 by_cases h1:AP w.rollout=true
 rotate_left
 ·have e:enter w=w:=by unfold enter Hg;rw[if_neg (by simp[h1])]
  simp -implicitDefEqProofs [h1,e]
 by_cases h2:w.rollout.off=true
 ·have e:enter w=w:=by unfold enter Hg;rw[if_neg (by simp[h2])]
  simp -implicitDefEqProofs [h1,h2,e]
 have h2':w.rollout.off=false:=by simpa using h2
 have e:enter w={w with ends:=w.ends.mapIdx (Fv w),stage:=[],reached:=max w.reached (w.rollout.pos+1)}:=by unfold enter Hg;rw[if_pos (by simp[h1,h2'])]
 have hp:=Abf h1
 have hwp:IntKind.i64.wrap (w.rollout.pos+1)=w.rollout.pos+1:=Ad (by omega) (by omega)
 simp -implicitDefEqProofs [h1,h2]
 refine Ag (fun k s=>∃j o9,j+k=w.ends.length/\s=⟨[.undef,.ptr 0 0,.ptr 1 0,.ptr 8 0,I j,.undef,.undef,.undef],[.var ((Bu w).map (AO 1)),.var [.nil 1,.nil 1,.sc (.int .i64 0),.nil 4,.sc (.int .i64 0),.nil 1,.sc (.int .i64 0),.sc (.bool false),.sc (.int .i64 0),.sc (.int .i64 0),.nil 5,.nil 8,.sc (.int .i64 0),.sc (.int .i64 0),.sc (.int .i64 0)],.arr 1 0 w.server.length (ints w.server),.arr 1 0 w.tags.length (ints w.tags),.arr 4 0 w.ends.length ((MN (Fv w) w.ends j).flatMap Ah),.arr 1 0 w.rollout.stages.length (ints w.rollout.stages),.arr 5 0 w.stage.length (w.stage.flatMap AB),.arr 8 0 w.log.length (w.log.flatMap Az),.var [.arr 2,.arr 3,.sc (.int .i64 w.key),.arr 4,.sc (.int .i64 w.rollout.version),.arr 5,.sc (.int .i64 w.rollout.pos),.sc (.bool w.rollout.off),.sc (.int .i64 w.least),.sc (.int .i64 w.percent),.arr 6,.arr 7,.sc (.int .i64 w.now),.sc (.int .i64 w.hurt),.sc (.int .i64 w.reached)],o9,.free]⟩) ?_ (w.ends.length) _ ⟨0,.free,by simp,by simp[AiZ,h2']⟩
 intro k s ⟨j,o9,hj,hs⟩
 subst hs
 by_cases hjn:j<w.ends.length
 ·have hw:=Cv (j:=j) (by omega)
  have hset:=Adx (f:=Fv w) hjn
  have hg:=AdE (f:=Fv w) hjn
  have hvl:=AgL h hjn
  have hf:j*4<w.ends.length*4:=by omega
  simp -implicitDefEqProofs [hjn]
  refine Aa (hI w.rollout j w.ends.length hr) ?_
  by_cases h3:isIn w.rollout j w.ends.length=true
  ·have e3:Fv w j w.ends[j]=⟨El w.ends[j].versions w.rollout.version,w.ends[j].tags,w.ends[j].path,w.ends[j].cls⟩:=by unfold Fv;rw[if_pos h3]
   rw[e3]at hset
   simp -implicitDefEqProofs [h3,hjn,hg,hf]
   refine Aa (hP w.ends[j].versions _ hvl) ?_
   simp -implicitDefEqProofs [hjn,hg,hf]
   exact⟨k-1,by omega,j+1,by omega,by simp[hw],by rw[<-hset]⟩
  ·have e3:Fv w j w.ends[j]=w.ends[j]:=by unfold Fv;rw[if_neg h3]
   have hsame:=Aii hjn e3
   simp -implicitDefEqProofs [h3]
   exact⟨k-1,by omega,j+1,by omega,by simp[hw],by rw[hsame]⟩
 ·have hx:=Akv (f:=Fv w) (xs:=w.ends) (j:=j) (by omega)
  simp -implicitDefEqProofs [hjn,hwp,hx]
  refine Aa (hM _ _) ?_
  simp -implicitDefEqProofs [e,h2']
theorem AED (hC:EF (D 38)) (hR:FX (D 176)) (hI:Af6 (D 228)) (hP:AvR (D 230)):J3 (Body D Aun):=by
 intro w h
 have hl:=FE h
 have hr:=OU h
 simp -implicitDefEqProofs
 refine Aa (hC w h) ?_
 simp -implicitDefEqProofs
 refine Aa (hR w.rollout hr) ?_
 by_cases h1:AP w.rollout=true
 rotate_left
 ·have e:enter w=w:=by unfold enter Hg;rw[if_neg (by simp[h1])]
  simp -implicitDefEqProofs [h1,e]
 by_cases h2:w.rollout.off=true
 ·have e:enter w=w:=by unfold enter Hg;rw[if_neg (by simp[h2])]
  simp -implicitDefEqProofs [h1,h2,e]
 have h2':w.rollout.off=false:=by simpa using h2
 have e:enter w={w with ends:=w.ends.mapIdx (Fv w),stage:=[],reached:=max w.reached (w.rollout.pos+1)}:=by unfold enter Hg;rw[if_pos (by simp[h1,h2'])]
 have hp:=Abf h1
 have hwp:IntKind.i64.wrap (w.rollout.pos+1)=w.rollout.pos+1:=Ad (by omega) (by omega)
 simp -implicitDefEqProofs [h1,h2]
 refine Ag (fun k s=>∃j v5 o10 o11,j+k=w.ends.length/\s=⟨[.undef,.ptr 0 0,.ptr 1 0,.ptr 8 0,.ptr 9 0,v5,.undef,I w.ends.length,I j,.undef,.undef],[.var ((Bu w).map (AO 1)),.var [.nil 1,.nil 1,.sc (.int .i64 0),.nil 4,.sc (.int .i64 0),.nil 1,.sc (.int .i64 0),.sc (.bool false),.sc (.int .i64 0),.sc (.int .i64 0),.nil 5,.nil 8,.sc (.int .i64 0),.sc (.int .i64 0),.sc (.int .i64 0)],.arr 1 0 w.server.length (ints w.server),.arr 1 0 w.tags.length (ints w.tags),.arr 4 0 w.ends.length ((MN (Fv w) w.ends j).flatMap Ah),.arr 1 0 w.rollout.stages.length (ints w.rollout.stages),.arr 5 0 w.stage.length (w.stage.flatMap AB),.arr 8 0 w.log.length (w.log.flatMap Az),.var [.arr 2,.arr 3,.sc (.int .i64 w.key),.arr 4,.sc (.int .i64 w.rollout.version),.arr 5,.sc (.int .i64 w.rollout.pos),.sc (.bool w.rollout.off),.sc (.int .i64 w.least),.sc (.int .i64 w.percent),.arr 6,.arr 7,.sc (.int .i64 w.now),.sc (.int .i64 w.hurt),.sc (.int .i64 w.reached)],.var [.sc (.int .i64 w.rollout.version),.sl 1 1 w.rollout.stages.length (ints w.rollout.stages),.sc (.int .i64 w.rollout.pos),.sc (.bool w.rollout.off)],o10,o11]⟩) ?_ (w.ends.length) _ ⟨0,.undef,.free,.free,by simp,by simp[AiZ,h2']⟩
 intro k s ⟨j,v5,o10,o11,hj,hs⟩
 subst hs
 by_cases hjn:j<w.ends.length
 ·have hw:=Cv (j:=j) (by omega)
  have hset:=Adx (f:=Fv w) hjn
  have hg:=AdE (f:=Fv w) hjn
  have hvl:=AgL h hjn
  have hf:j*4<w.ends.length*4:=by omega
  simp -implicitDefEqProofs [hjn]
  refine⟨by cases o11<;>rfl,?_⟩
  refine Aa (hI w.rollout j w.ends.length hr) ?_
  by_cases h3:isIn w.rollout j w.ends.length=true
  ·have e3:Fv w j w.ends[j]=⟨El w.ends[j].versions w.rollout.version,w.ends[j].tags,w.ends[j].path,w.ends[j].cls⟩:=by unfold Fv;rw[if_pos h3]
   rw[e3]at hset
   simp -implicitDefEqProofs [h3,hjn,hg,hf]
   refine Aa (hP w.ends[j].versions _ hvl) ?_
   simp -implicitDefEqProofs [hjn,hg,hf]
   exact⟨k-1,by omega,j+1,by omega,by simp[hw],by rw[<-hset]⟩
  ·have e3:Fv w j w.ends[j]=w.ends[j]:=by unfold Fv;rw[if_neg h3]
   have hsame:=Aii hjn e3
   simp -implicitDefEqProofs [h3]
   exact⟨k-1,by omega,j+1,by omega,by simp[hw],by rw[hsame]⟩
 ·have hx:=Akv (f:=Fv w) (xs:=w.ends) (j:=j) (by omega)
  by_cases hmx:w.reached<w.rollout.pos+1
  ·have em:max w.reached (w.rollout.pos+1)=w.rollout.pos+1:=by omega
   simp -implicitDefEqProofs [hjn,hwp,hx,e,h2',hmx,em]
  ·have em:max w.reached (w.rollout.pos+1)=w.reached:=by omega
   simp -implicitDefEqProofs [hjn,hwp,hx,e,h2',hmx,em]
def Dc (w:World):World×Bool:=if decide (w.reached=0)&&Hg w then(enter w,true)else(w,false)
abbrev OT:Prop:=∀w:World,Af w<=4194304->R [arg (Bu w)] [] (.tup [.agg (Bu (Dc w).1),B (Dc w).2]) []
theorem AeP (hC:EF (D 22)) (hR:FX (D 145)) (hE:J3 (D 146)):OT (Body D KJ):=by
 intro w h
 have hr:=OU h
 by_cases h0:w.reached=0
 rotate_left
 ·have e:Dc w=(w,false):=by unfold Dc;simp[h0]
  simp -implicitDefEqProofs [h0]
  refine Aa (hC w h) ?_
  simp -implicitDefEqProofs [e]
 simp -implicitDefEqProofs [h0]
 refine Aa (hR w.rollout hr) ?_
 by_cases h1:AP w.rollout=true
 rotate_left
 ·have e:Dc w=(w,false):=by unfold Dc Hg;simp[h1]
  simp -implicitDefEqProofs [h1]
  have hcs:=hC w h
  simp -implicitDefEqProofs [h0]at hcs
  refine Aa hcs ?_
  clear hcs
  simp -implicitDefEqProofs [e,h0]
 by_cases h2:w.rollout.off=true
 ·have e:Dc w=(w,false):=by unfold Dc Hg;simp[h2]
  simp -implicitDefEqProofs [h1,h2]
  have hcs:=hC w h
  simp -implicitDefEqProofs [h0,h2]at hcs
  refine Aa hcs ?_
  clear hcs
  simp -implicitDefEqProofs [e,h0,h2]
 have h2':w.rollout.off=false:=by simpa using h2
 have e:Dc w=(enter w,true):=by unfold Dc Hg;simp[h0,h1,h2']
 simp -implicitDefEqProofs [h1,h2]
 have hcs:=hE w h
 simp -implicitDefEqProofs [h0,h2]at hcs
 refine Aa hcs ?_
 clear hcs
 simp -implicitDefEqProofs [e]
theorem AF8 (hC:EF (D 38)) (hR:FX (D 176)) (hE:J3 (D 177)):OT (Body D Avy):=by
 intro w h
 have hr:=OU h
 by_cases h0:w.reached=0
 rotate_left
 ·have e:Dc w=(w,false):=by unfold Dc;simp[h0]
  simp -implicitDefEqProofs [h0]
  refine Aa (hC w h) ?_
  simp -implicitDefEqProofs [e]
 simp -implicitDefEqProofs [h0]
 refine Aa (hR w.rollout hr) ?_
 by_cases h1:AP w.rollout=true
 rotate_left
 ·have e:Dc w=(w,false):=by unfold Dc Hg;simp[h1]
  simp -implicitDefEqProofs [h1]
  have hcs:=hC w h
  simp -implicitDefEqProofs [h0]at hcs
  refine Aa hcs ?_
  clear hcs
  simp -implicitDefEqProofs [e,h0]
 by_cases h2:w.rollout.off=true
 ·have e:Dc w=(w,false):=by unfold Dc Hg;simp[h2]
  simp -implicitDefEqProofs [h1,h2]
  have hcs:=hC w h
  simp -implicitDefEqProofs [h0,h2]at hcs
  refine Aa hcs ?_
  clear hcs
  simp -implicitDefEqProofs [e,h0,h2]
 have h2':w.rollout.off=false:=by simpa using h2
 have e:Dc w=(enter w,true):=by unfold Dc Hg;simp[h0,h1,h2']
 simp -implicitDefEqProofs [h1,h2]
 have hcs:=hE w h
 simp -implicitDefEqProofs [h0,h2]at hcs
 refine Aa hcs ?_
 clear hcs
 simp -implicitDefEqProofs [e]
set_option maxHeartbeats 2000000
open Go.Lib (compact compactUpTo keeps)
abbrev Up (l:List Int):Prop:=l.Pairwise (· < ·)
theorem AKb:∀ {a b:List Int},Up a->Up b->(∀x,x∈a↔x∈b)->a=b
 | [],[],_,_,_=>rfl
 | [],y::b,_,_,h=>by have:=(h y).2 (by simp);simp at this
 | x::a,[],_,_,h=>by have:=(h x).1 (by simp);simp at this
 | x::a,y::b,ha,hb,h=>by
  rw[Up,List.pairwise_cons]at ha hb
  have hxy:x=y:=by
   have h1:=(h x).1 (by simp)
   have h2:=(h y).2 (by simp)
   rcases List.mem_cons.1 h1 with e | h1
   ·exact e
   ·rcases List.mem_cons.1 h2 with e | h2
    ·exact e.symm
    ·have:=hb.1 x h1;have:=ha.1 y h2;omega
  subst hxy
  congr 1
  refine AKb ha.2 hb.2 fun z=>⟨fun hz=> ?_,fun hz=> ?_⟩
  ·rcases List.mem_cons.1 ((h z).1 (by simp[hz]))with e | h1
   ·subst e;have:=ha.1 z hz;omega
   ·exact h1
  ·rcases List.mem_cons.1 ((h z).2 (by simp[hz]))with e | h1
   ·subst e;have:=hb.1 z hz;omega
   ·exact h1
theorem IQ:∀(l:List Int) (v x:Int),x∈El l v↔x∈l∨x=v:=by
 intro l v x
 unfold El
 split
 ·rename_i h
  constructor
  ·exact .inl
  ·rintro (h1 | rfl)
   ·exact h1
   ·exact List.mem_of_getElem? h
 ·unfold Ua
  rw[List.mem_append,List.mem_cons]
  have:x∈l↔x∈l.take (Ei l v)∨x∈l.drop (Ei l v):=by
   conv=>lhs;rw[<-List.take_append_drop (Ei l v) l,List.mem_append]
  rw[this]
  constructor
  ·rintro (h1 | h1 | h1)
   ·exact .inl (.inl h1)
   ·exact .inr h1
   ·exact .inl (.inr h1)
  ·rintro ((h1 | h1) | h1)
   ·exact .inl h1
   ·exact .inr (.inr h1)
   ·exact .inr (.inl h1)
theorem X6:∀(l:List Int) (v x:Int),x∈l.take (Ei l v)->x<v
 | [],v,x,h=>by simp at h
 | y::r,v,x,h=>by
  simp only[Ei]at h
  split at h
  ·rw[List.take_succ_cons]at h
   rcases List.mem_cons.1 h with rfl | h
   ·assumption
   ·exact X6 r v x h
  ·simp at h
theorem AeM:∀ {l:List Int} (v:Int),Up l->Up (El l v):=by
 intro l v hl
 unfold El
 split
 ·exact hl
 ·rename_i hne
  unfold Ua Up
  rw[List.pairwise_append,List.pairwise_cons]
  have hb:=X6 l v
  have hafter:∀y,y∈l.drop (Ei l v)->v<y:=by
   intro y hy
   by_cases hk:Ei l v<l.length
   ·have hs:=Ade (l:=l) (v:=v) hk (by
     intro hlt
     have key:∀(l:List Int) (h:Ei l v<l.length),¬l[Ei l v]<v:=by
      intro l
      induction l with
      | nil=>intro h;simp at h
      | cons x r ih=>
       intro h
       by_cases hx:x<v
       ·have e:Ei (x::r) v=Ei r v+1:=by simp[Ei,hx]
        have h':Ei r v<r.length:=by rw[e]at h;simpa using h
        have:=ih h'
        simp only[e,List.getElem_cons_succ]
        exact this
       ·have e:Ei (x::r) v=0:=by simp[Ei,hx]
        simp only[e,List.getElem_cons_zero]
        exact hx
     exact key l hk hlt)
    have key:∀(l:List Int) (h:Ei l v<l.length),¬l[Ei l v]<v:=by
     intro l
     induction l with
     | nil=>intro h;simp at h
     | cons x r ih=>
      intro h
      by_cases hx:x<v
      ·have e:Ei (x::r) v=Ei r v+1:=by simp[Ei,hx]
       have h':Ei r v<r.length:=by rw[e]at h;simpa using h
       have:=ih h'
       simp only[e,List.getElem_cons_succ]
       exact this
      ·have e:Ei (x::r) v=0:=by simp[Ei,hx]
       simp only[e,List.getElem_cons_zero]
       exact hx
    have h1:=key l hk
    have h2:l[Ei l v]≠v:=by
     intro e;apply hne;rw[List.getElem?_eq_getElem hk,e]
    rw[List.drop_eq_getElem_cons hk]at hy
    have hp:(l[Ei l v]::l.drop (Ei l v+1)).Pairwise (· < ·):=by rw[<-List.drop_eq_getElem_cons hk];exact hl.drop
    rw[List.pairwise_cons]at hp
    rcases List.mem_cons.1 hy with rfl | hy
    ·omega
    ·have:=hp.1 y hy;omega
   ·rw[List.drop_eq_nil_of_le (by omega)]at hy;simp at hy
  refine⟨hl.take,⟨hafter,hl.drop⟩,fun a ha b hb'=> ?_⟩
  have h1:=hb a ha
  rcases List.mem_cons.1 hb' with rfl | hb'
  ·exact h1
  ·have:=hafter b hb';omega
def AxH (l:List Int) (xs:List Int):List Int:=xs.foldl El l
theorem AFc:∀ {xs l:List Int},Up l->Up (AxH l xs)
 | [],_,h=>h
 | x::xs,l,h=>AFc (xs:=xs) (AeM x h)
theorem AzL:∀(xs l:List Int) (x:Int),x∈AxH l xs↔x∈l∨x∈xs
 | [],l,x=>by simp[AxH]
 | y::xs,l,x=>by
  have:=AzL xs (El l y) x
  unfold AxH at *
  rw[List.foldl_cons,this,IQ,List.mem_cons]
  constructor
  ·rintro ((h | h) | h)
   ·exact .inl h
   ·exact .inr (.inl h)
   ·exact .inr (.inr h)
  ·rintro (h | h | h)
   ·exact .inl (.inl h)
   ·exact .inl (.inr h)
   ·exact .inr h
theorem AGC (zs:List Int) (x:Int):x∈compact zs↔x∈zs:=by
 have hget:∀i,i<zs.length->zs.toArray[i]! =zs[i]! :=fun i _=>by simp
 unfold compact compactUpTo
 simp only[List.mem_map,List.mem_filter,List.mem_range]
 constructor
 ·rintro ⟨i,⟨hi,_⟩,rfl⟩
  rw[hget i hi,getElem!_pos zs i hi]
  exact List.getElem_mem hi
 ·intro hx
  have key:∀n,(h:n<zs.length)->zs[n]=x->∃i,(i<zs.length/\keeps zs.toArray i=true)/\zs.toArray[i]! =x:=by
   intro n
   induction n with
   | zero=>intro h e;exact⟨0,⟨h,by simp[keeps]⟩,by rw[hget 0 h,getElem!_pos zs 0 h,e]⟩
   | succ n ih=>
    intro h e
    by_cases hk:zs[n]=x
    ·exact ih (by omega) hk
    ·refine⟨n+1,⟨h,?_⟩,by rw[hget _ h,getElem!_pos zs _ h,e]⟩
     unfold keeps
     rw[show n+1-1=n by omega,hget _ h,hget n (by omega),getElem!_pos zs _ h,getElem!_pos zs n (by omega),e]
     simp
     exact fun h=>hk h.symm
  obtain⟨n,hn,e⟩:=List.getElem_of_mem hx
  exact key n hn e
theorem AH2 (zs:List Int) (h:zs.Pairwise (·<=·)):Up (compact zs):=by
 have hget:∀i,i<zs.length->zs.toArray[i]! =zs[i]! :=fun i _=>by simp
 unfold compact compactUpTo Up
 rw[List.pairwise_map]
 have hr:((List.range zs.length).filter (keeps zs.toArray)).Pairwise (· < ·):=List.Pairwise.filter _ List.pairwise_lt_range
 refine hr.imp_of_mem ?_
 intro i j hi hj hij
 simp only[List.mem_filter,List.mem_range]at hi hj
 have hk:=hj.2
 unfold keeps at hk
 have h0:¬j=0:=by omega
 simp only[h0,false_or,decide_eq_true_eq]at hk
 rw[hget j hj.1,hget (j-1) (by omega),getElem!_pos zs j hj.1,getElem!_pos zs (j-1) (by omega)]at hk
 rw[hget i hi.1,hget j hj.1,getElem!_pos zs i hi.1,getElem!_pos zs j hj.1]
 rw[List.pairwise_iff_getElem]at h
 have h1:=h (j-1) j (by omega) hj.1 (by omega)
 have h2:zs[i]<=zs[j-1]:=by
  by_cases e:i=j-1
  ·simp[e]
  ·exact h i (j-1) hi.1 (by omega) (by omega)
 omega
def Azk (l:List Int):List Int:=l.mergeSort fun x y=>decide (x<=y)
theorem AyK (l:List Int):(Azk l).length=l.length:=by simp[Azk]
theorem AJa (l:List Int) (x:Int):x∈Azk l↔x∈l:=by simp[Azk]
theorem AHA (l:List Int):(Azk l).Pairwise (·<=·):=by
 have:=List.pairwise_mergeSort (le:=fun x y:Int=>decide (x<=y)) (fun a b c h1 h2=>by simp at *;omega) (fun a b=>by simp;omega) l
 exact this.imp fun h=>by simpa using h
theorem AGd (l:List Int):compact (Azk l)=AxH [] l:=by
 refine AKb (AH2 _ (AHA l)) (AFc List.Pairwise.nil) fun x=> ?_
 rw[AGC,AJa,AzL]
 simp
abbrev AIN:Prop:=∀l:List Int,l.length<=4194304->R [.arr 0] [.arr 1 0 l.length (ints l)] (.tup []) [.arr 1 0 l.length (ints (Azk l))]
abbrev CompactS:Prop:=∀l:List Int,l.length<=4194304->R [.arr 0] [.arr 1 0 l.length (ints l)] (.sl 0 1 (compact l).length (ints (compact l))) [.dead]
def Auy (w:World) (xs:List Eo):List Int:=(xs.filter (Avc w)).map (·.fin)
def Ata (w:World):List Int:=AxH [] (Auy w w.log)
theorem AHX {w:World} {xs:List Eo} {j:Nat} (h:j<xs.length):Auy w (xs.take (j+1))=Auy w (xs.take j)++(if Avc w xs[j]then [xs[j].fin]else []):=by
 unfold Auy
 rw[AaH h]
 by_cases hp:Avc w xs[j]=true<;>simp[hp]
theorem AIY {w:World} {xs:List Eo} {j:Nat} (h:xs.length<=j):Auy w (xs.take j)=Auy w xs:=by rw[List.take_of_length_le h]
theorem AE6 {w:World} {xs:List Eo} {j:Nat}:(Auy w (xs.take j)).length<=j:=by
 unfold Auy
 rw[List.length_map]
 exact Adw
theorem ANG (l xs:List Int) (y:Int):AxH l (xs++ [y])=El (AxH l xs) y:=by unfold AxH;rw[List.foldl_append];rfl
theorem ADg:∀(xs l:List Int),(AxH l xs).length<=l.length+xs.length
 | [],l=>by simp[AxH]
 | x::xs,l=>by
  have h1:=ADg xs (El l x)
  have h2:=Rm l x
  unfold AxH at *
  simp only[List.foldl_cons,List.length_cons]
  omega
abbrev Axh:Prop:=∀w:World,Af w<=4194304->R [arg (Bu w)] [] (.sl 0 1 (Ata w).length (ints (Ata w))) []
theorem AOI (hB:AGT (D 158)) (hP:Mf (D 159)):Axh (Body D ALZ):=by
 intro w hsz
 have hl:=Akl hsz
 have hres:Ata w=AxH [] (Auy w w.log):=rfl
 rw[hres]
 simp -implicitDefEqProofs
 refine Ag (fun k s=>∃j o2,j+k=w.log.length/\s=⟨[.undef,.ptr 0 0,.undef,.arr 3,I j,.undef,.undef],[.var ((Bu w).map (AO 1)),.free,o2,.arr 1 0 (AxH [] (Auy w (w.log.take j))).length (ints (AxH [] (Auy w (w.log.take j))))]⟩) ?_ (w.log.length) _ ⟨0,.free,by simp,by simp[Auy,AxH]⟩
 intro k s ⟨j,o2,hj,hs⟩
 subst hs
 by_cases hjn:j<w.log.length
 ·have hw:=Cv (j:=j) (by omega)
  have hst:=AHX (w:=w) hjn
  have hfl:=AE6 (w:=w) (xs:=w.log) (j:=j)
  have hpl:=ADg (Auy w (w.log.take j)) []
  simp only[List.length_nil,Nat.zero_add]at hpl
  simp -implicitDefEqProofs [hjn]
  refine Aa (hB w w.log[j] (AG4 hsz hjn)) ?_
  by_cases h1:Avc w w.log[j]=true
  ·rw[if_pos h1]at hst
   simp -implicitDefEqProofs [h1,hjn]
   refine Aa (hP (AxH [] (Auy w (w.log.take j))) w.log[j].fin (by omega)) ?_
   simp -implicitDefEqProofs
   exact⟨k-1,by omega,j+1,by omega,by simp[hw],by rw[hst,ANG],by rw[hst,ANG]⟩
  ·rw[if_neg h1,List.append_nil]at hst
   simp -implicitDefEqProofs [h1]
   exact⟨k-1,by omega,j+1,by omega,by simp[hw],by rw[hst],by rw[hst]⟩
 ·have hx:=AIY (w:=w) (xs:=w.log) (j:=j) (by omega)
  simp -implicitDefEqProofs [hjn,hx]
theorem AHi (hB:AGT (D 196)) (hS:AIN (D 197)) (hC:CompactS (D 198)):Axh (Body D Avt):=by
 intro w hsz
 have hl:=Akl hsz
 have hres:Ata w=compact (Azk (Auy w w.log)):=(AGd _).symm
 rw[hres]
 simp -implicitDefEqProofs
 refine Ag (fun k s=>∃j v4 o2 o3 o4,j+k=w.log.length/\s=⟨[.undef,.ptr 0 0,.undef,.arr 6,v4,.sl 1 8 w.log.length (w.log.flatMap Az),I w.log.length,I j,.undef,.undef],[.var ((Bu w).map (AO 1)),.free,o2,o3,o4,.free,.arr 1 0 (Auy w (w.log.take j)).length (ints (Auy w (w.log.take j)))]⟩) ?_ (w.log.length) _ ⟨0,.undef,.free,.free,.free,by simp,by simp[Auy]⟩
 intro k s ⟨j,v4,o2,o3,o4,hj,hs⟩
 subst hs
 by_cases hjn:j<w.log.length
 ·have hw:=Cv (j:=j) (by omega)
  have hst:=AHX (w:=w) hjn
  have hfl:=AE6 (w:=w) (xs:=w.log) (j:=j)
  have hbd:((Auy w (w.log.take j)).length+1)*8<=1099511627776:=by omega
  simp -implicitDefEqProofs [hjn]
  refine Aa (hB w w.log[j] (AG4 hsz hjn)) ?_
  by_cases h1:Avc w w.log[j]=true
  ·rw[if_pos h1]at hst
   simp -implicitDefEqProofs [h1,hjn,hbd]
   exact⟨k-1,by omega,j+1,by omega,by simp[hw],by rw[hst];simp,by rw[hst]⟩
  ·rw[if_neg h1,List.append_nil]at hst
   simp -implicitDefEqProofs [h1]
   exact⟨k-1,by omega,j+1,by omega,by simp[hw],by rw[hst],by rw[hst]⟩
 ·have hx:=AIY (w:=w) (xs:=w.log) (j:=j) (by omega)
  have hfl:=AE6 (w:=w) (xs:=w.log) (j:=w.log.length)
  rw[List.take_length]at hfl
  simp -implicitDefEqProofs [hjn,hx]
  refine Aa (hS _ (by omega)) ?_
  simp -implicitDefEqProofs [AyK]
  have hc:=hC (Azk (Auy w w.log)) (by rw[AyK];omega)
  rw[AyK]at hc
  refine Aa (hc) ?_
  simp -implicitDefEqProofs
def AGu (r:AX) (i:Nat):AX:=⟨r.version,r.stages,i,r.off⟩
def AvY (r:AX) (n:Int):Nat->Int
 | 0=>0
 | k+1=>max (AvY r n k) (countIn (AGu r k) n)
def Avb (r:AX) (n s:Int):Int:=if AP r=true/\NJ s 1 r.stages.length then AvY r n s.toNat else 0
abbrev AyY:Prop:=∀(r:AX) (n s:Int),r.stages.length<=4194304->R [arg (Dj r),I n,I s] [] (I (Avb r n s)) []
theorem AOL (hR:FX (D 145)) (hI:Vf (D 71)) (hCp:Je (D 66)) (hC:V3 (D 254)) (hM:Afz (D 215)):AyY (Body D AL0):=by
 intro r n st hl
 simp -implicitDefEqProofs
 refine Aa (hR r hl) ?_
 by_cases h1:AP r=true
 rotate_left
 ·have e:Avb r n st=0:=by unfold Avb;rw[if_neg (by simp[h1])]
  simp -implicitDefEqProofs [h1,e]
 simp -implicitDefEqProofs [h1]
 refine Aa (hI _ _ _) ?_
 by_cases h2:NJ st 1 r.stages.length
 rotate_left
 ·have e:Avb r n st=0:=by unfold Avb;rw[if_neg (fun h=>h2 h.2)]
  simp -implicitDefEqProofs [h2,e]
 obtain⟨m,rfl⟩:∃m:Nat,st=m:=⟨st.toNat,by have:=h2.1;omega⟩
 have hm:m<=r.stages.length:=by have:=h2.2;omega
 have e:Avb r n m=AvY r n m:=by unfold Avb;rw[if_pos ⟨h1,h2⟩];simp
 rw[e]
 simp -implicitDefEqProofs [h2]
 refine Aa (hCp r hl) ?_
 simp -implicitDefEqProofs
 refine Ag (fun k s=>∃j at0,j+k=m/\s=⟨[.undef,I n,I m,.undef,.undef,I (AvY r n j),.ptr 2 0,I j,.undef,.undef],[.var ((Dj r).map (AO 1)),.arr 1 0 r.stages.length (ints r.stages),.var [.sc (.int .i64 r.version),.arr 1,.sc (.int .i64 at0),.sc (.bool r.off)]]⟩) ?_ (m) _ ⟨0,r.pos,by simp,by simp[AvY]⟩
 intro k s ⟨j,at0,hj,hs⟩
 subst hs
 by_cases hjn:j<m
 ·have hw:=Cv (j:=j) (by omega)
  simp -implicitDefEqProofs [hjn]
  refine Aa (hC (AGu r j) n hl) ?_
  simp -implicitDefEqProofs
  refine Aa (hM _ _) ?_
  simp -implicitDefEqProofs
  exact⟨k-1,by omega,j+1,by omega,by simp[AvY],by simp[hw]⟩
 ·obtain rfl:j=m:=by omega
  simp -implicitDefEqProofs
theorem AGL (hR:FX (D 176)) (hI:Vf (D 114)) (hC:V3 (D 263)):AyY (Body D Awc):=by
 intro r n st hl
 simp -implicitDefEqProofs
 refine Aa (hR r hl) ?_
 by_cases h1:AP r=true
 rotate_left
 ·have e:Avb r n st=0:=by unfold Avb;rw[if_neg (by simp[h1])]
  simp -implicitDefEqProofs [h1,e]
 simp -implicitDefEqProofs [h1]
 refine Aa (hI _ _ _) ?_
 by_cases h2:NJ st 1 r.stages.length
 rotate_left
 ·have e:Avb r n st=0:=by unfold Avb;rw[if_neg (fun h=>h2 h.2)]
  simp -implicitDefEqProofs [h2,e]
 obtain⟨m,rfl⟩:∃m:Nat,st=m:=⟨st.toNat,by have:=h2.1;omega⟩
 have hm:m<=r.stages.length:=by have:=h2.2;omega
 have e:Avb r n m=AvY r n m:=by unfold Avb;rw[if_pos ⟨h1,h2⟩];simp
 rw[e]
 simp -implicitDefEqProofs [h2]
 refine Ag (fun k s=>∃j at0,j+k=m/\s=⟨[.undef,I n,.undef,.ptr 0 0,.undef,I (AvY r n j),.undef,.undef,I m,I j,.undef],[.var [.sc (.int .i64 r.version),.sl 1 1 r.stages.length (ints r.stages),.sc (.int .i64 at0),.sc (.bool r.off)]]⟩) ?_ (m) _ ⟨0,r.pos,by simp,by simp[AvY]⟩
 intro k s ⟨j,at0,hj,hs⟩
 subst hs
 by_cases hjn:j<m
 ·have hw:=Cv (j:=j) (by omega)
  simp -implicitDefEqProofs [hjn]
  refine Aa (hC (AGu r j) n hl) ?_
  by_cases hmx:AvY r n j<countIn (AGu r j) n
  ·have em:AvY r n (j+1)=countIn (AGu r j) n:=by simp only[AvY];omega
   simp -implicitDefEqProofs [hmx]
   exact⟨k-1,by omega,j+1,by omega,by rw[em],by simp[hw]⟩
  ·have em:AvY r n (j+1)=AvY r n j:=by simp only[AvY];omega
   simp -implicitDefEqProofs [hmx]
   exact⟨k-1,by omega,j+1,by omega,by rw[em],by simp[hw]⟩
 ·obtain rfl:j=m:=by omega
  simp -implicitDefEqProofs
def AJV (r:AX):AX:=⟨r.version,r.stages,r.pos,false⟩
def AyU (w:World):Bool:=decide (((Ata w).length:Int)<=Avb (AJV w.rollout) w.ends.length w.reached)
abbrev AxJ:Prop:=∀w:World,Af w<=4194304->R [arg (Bu w)] [] (B (AyU w)) []
theorem AOn (hCp:Je (D 66)) (hH:Axh (D 87)) (hM:AyY (D 219)):AxJ (Body D ALT):=by
 intro w hsz
 simp -implicitDefEqProofs
 refine Aa (hCp w.rollout (OU hsz)) ?_
 simp -implicitDefEqProofs
 refine Aa (hH w hsz) ?_
 simp -implicitDefEqProofs
 refine Aa (hM (AJV w.rollout) _ _ (OU hsz)) ?_
 simp -implicitDefEqProofs [AyU]
theorem AF7 (hH:Axh (D 131)) (hM:AyY (D 245)):AxJ (Body D AvH):=by
 intro w hsz
 simp -implicitDefEqProofs
 refine Aa (hH w hsz) ?_
 simp -implicitDefEqProofs
 refine Aa (hM (AJV w.rollout) _ _ (OU hsz)) ?_
 simp -implicitDefEqProofs [AyU]
end Go.Eng.T
