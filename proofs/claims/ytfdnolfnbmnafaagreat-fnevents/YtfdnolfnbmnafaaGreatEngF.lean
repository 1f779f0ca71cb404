/- Own work: part 6 of the proof of FnEvents. -/
import Derived.Test.YtfdnolfnbmnafaaGreatEngE
import Derived.Laws.Cells
import Derived.Laws.CopyRow
set_option linter.unusedSimpArgs false
set_option linter.unusedVariables false
namespace Go.Eng
def A7 (H:Hp):Gq→Hp
 | []=>H
 | (k,o)::r=>A7 (fun j=>if j=k then o else H j) r
def Did (F:Fr) (β:Nat→Base) (own:Nat→Option (Nat×List Nat)) (H:Hp) (w:World) (r:Result Next) (v:V) (u:Gq):Prop:=
 ∃x w' β' own',(r= .ok (.value x) w'∨(r= .ok .skip w'∧x=undef))∧(∀z y,VR F β own H w z y→VR F β' own' (A7 H u) w' z y)∧
  Inv F β' own' (A7 H u) w'∧VR F β' own' (A7 H u) w' v x
section
variable {P:Program} {F:Fr} {β:Nat→Base} {own:Nat→Option (Nat×List Nat)} {H:Hp} {w w':World}
theorem Step.refl' (inv:Inv F β own H w) (hh:w'.heap=w.heap) (ho:w'.os=w.os) (ht:w'.tape=w.tape) (hu:w'.output=w.output):
 Step F β own H w β own H w' (fun k=>k∈([]:Gq).map (·.1)) where
 size:=by rw[hh];exact Nat.le_refl _
 os:=ho
 tape:=ht
 output:=hu
 blk:=fun b _ _=>by rw[hh]
 bork:=fun _ b _ h=>⟨by rw[hh],h⟩
 lab:=fun _ _ _ h _=>h
 labn:=fun b p h=>⟨by rw[hh];exact(inv.ownb b p h).1,fun _=>by rw[h];simp⟩
 same:=fun _ _=>⟨rfl,rfl⟩
 arrs:=fun _ _ _ _ _ h=>by simp at h
 vars:=fun _ _ h=>by simp at h
 deads:=fun _ h=>by simp at h
 frees:=fun _ h=>by simp at h
 home:=fun _ _ _ _ _ _ _ _ _ h=>by simp at h
theorem Did.pure' (inv:Inv F β own H w) {r:Result Next} {v:V} {x:Value} (hr:r= .ok (.value x) w') (hh:w'.heap=w.heap) (ho:w'.os=w.os) (ht:w'.tape=w.tape)
 (hu:w'.output=w.output) (hv:VR F β own H w v x):Did F β own H w r v []:=by
 have st:=Step.refl' inv hh ho ht hu
 exact⟨x,w',β,own,.inl hr,fun _ _ h=>st.vr inv h,st.inv inv (fun _ h=>by simp at h) (fun _ h=>by simp at h),st.vr inv hv⟩
theorem Did.pure (inv:Inv F β own H w) {r:Result Next} {v:V} {x:Value} (hr:r= .ok (.value x) w) (hv:VR F β own H w v x):Did F β own H w r v []:=
 Did.pure' inv hr rfl rfl rfl rfl hv
theorem ANQ (inv:Inv F β own H w) (hb:F.bor=true) {fl b:Nat} (h1:1≤fl) (h:F.S w own fl b):F.S w own 2 b:=by
 have key:b<F.w0.heap.size→F.own0 b=none→F.S w own 2 b:=by
  intro h1 h2
  refine⟨hb,Nat.lt_of_lt_of_le h1 inv.size,fun k hk=> ?_⟩
  exact absurd h2 ((inv.ownb b _ hk).2 h1)
 match fl,h1 with
 | 1,_=>exact key h.1 h.2
 | 2,_=>exact h
 | 3,_=>exact key (inv.glob b h).1 (inv.glob b h).2.1
 | n+4,_=>exact h
theorem Ow.AOv (inv:Inv F β own H w) (hb:F.bor=true) {lim k:Nat} {p:List Nat} {v:V} {x:Value} (hp:p≠ [])
 (h:Ow F.Ah w own (F.S w own) lim k p v x):Rd F.Ah w (F.S w own 2) v x:=by
 have hS:∀ {fl:Nat} {v:V} {x:Value},1≤fl→Rd F.Ah w (F.S w own fl) v x→Rd F.Ah w (F.S w own 2) v x:=
  fun h1 h=>h.move (fun b hb'=>ANQ inv hb h1 hb') (fun _ _=>rfl)
 induction h with
 | sc h1=>exact .sc h1
 | @own p e len cells a cap vs hl hw hv hm hc ih=>
  refine .sl hl.1 hw hv ?_ (fun i v x hv hx=>ih i v x hv hx (by simp))
  rcases hm with hm | ⟨b,o,ha,hbk,hr⟩
  ·left
   have:len*e≤cap*e:=Nat.mul_le_mul_right _ hl.1
   exact List.eq_nil_of_length_eq_zero (by omega)
  ·refine .inr ⟨b,o,ha,⟨hb,Sj hr,fun k' hk'=> ?_⟩,EF hr⟩
   rw[hbk]at hk'
   cases hk'
   exact hp rfl
 | ro h1 h2 h=>exact hS h1 h
 | @ptr p cells b o vs hv hbk hm hc ih=>
  have:=Rd.rptr (Ah:=F.Ah) (w:=w) (P:=F.S w own 2) (fl:=0) (cells:=cells) (off:=0) (b:=b) (o:=o) (vs:=vs) hv
   ⟨hb,Sj hm,fun k' hk'=>by rw[hbk]at hk';cases hk';exact hp rfl⟩ (EF hm) (fun i v x hv hx=>ih i v x hv hx (by simp))
  simpa using this
 | rptr h1 h2 h=>exact hS h1 h
 | fn h2 h=>exact hS (Nat.le_refl 1) h
 | agg h1 hv hc ih=>exact .agg h1 hv (fun i v x hv hx=>ih i v x hv hx (by simp))
 | tup hv hc ih=>exact .tup hv (fun i v x hv hx=>ih i v x hv hx (by simp))
 | undef=>exact .undef
theorem Rd.flag {Ah:Nat→Option FuncId} {Q:Nat→Prop} {v:V} {x:Value} (fl:Nat) (h:Rd Ah w Q v x):Rd Ah w Q (Be fl v) x:=by
 cases h with
 | sc h1=>exact .sc h1
 | nil e=>exact .sl (vs:=[]) (Nat.le_refl 0) (by simp) rfl (.inl rfl) (by simp)
 | sl hl hn hv hm hc=>exact .sl hl hn hv hm hc
 | rptr hv hP hm hc=>exact .rptr hv hP hm hc
 | fn hf hv hc=>exact .undef
 | agg h1 hv hc=>exact .undef
 | tup hv hc=>exact .undef
 | undef=>exact .undef
theorem VR.AOx {fl:Nat} (h1:1≤fl) {v:V} {x:Value} (h:Rd F.Ah w (F.S w own fl) v x):VR F β own H w (Be fl v) x:=by
 have h':=h.flag fl
 cases v with
 | sc v=>cases h;exact .sc ‹_›
 | nil e=>exact .rd h1 h'
 | sl fl' e len cs=>exact .rd h1 h'
 | rptr fl' cs off=>exact .rptr h1 h'
 | _=>exact .undef
theorem VR.AN0 (inv:Inv F β own H w) {t k:Nat} {p:List Nat} (hp:p≠ []) {v v':V} {x:Value} (h:Ow F.Ah w own (F.S w own) t k p v x)
 (hc:TY F.bor v=some v'):VR F β own H w v' x:=by
 cases v with
 | sc v=>cases h;simp[TY]at hc;subst hc;exact .sc ‹_›
 | sl fl e len cs=>
  match fl with
  | 0=>
   simp only[TY]at hc
   split at hc
   ·rename_i hb
    cases hc
    exact .rd (by omega) ((h.AOv inv hb hp).flag 2)
   ·cases hc
  | n+1=>
   simp only[TY]at hc
   cases hc
   cases h with
   | ro h1 h2 h=>exact .rd h1 h
 | _=>simp[TY]at hc
theorem Q7 (b o n:Nat):(⟨b,o,none⟩:Addr).add n=⟨b,o+n,none⟩:=by unfold Addr.add;split<;>simp_all
theorem Ayd {b o:Nat} {vs:List Value} (h:Rds w b o vs) {off n:Nat} (hn:off+n≤vs.length):
 (loadCells ⟨b,o+off,none⟩ n).run P w= .ok ((vs.drop off).take n).toArray w:=by
 have:=run_loadCells_list (P:=P) w ⟨b,o+off,none⟩ ((vs.drop off).take n) (fun j v hj=>by
  rw[Q7]
  have hj':j<n:=by
   have:=List.getElem?_eq_some_iff.1 hj
   obtain⟨h1,_⟩:=this
   simp at h1;omega
  have h2:=h.2 (off+j) (by omega)
  rw[show o+off+j=o+(off+j)by omega,h2]
  simpa[List.getElem?_take,hj',List.getElem?_drop]using hj)
 simpa[List.length_take,List.length_drop,Nat.min_eq_left (show n≤vs.length-off by omega)]using this
theorem AHK {b o:Nat} {vs:List Value} (h:Rds w b o vs) {off:Nat} {x:Value} (hx:vs[off]? =some x):
 (load ⟨b,o+off,none⟩).run P w= .ok x w:=by
 have hlt:off<vs.length:=(List.getElem?_eq_some_iff.1 hx).1
 have:=h.2 off hlt
 rw[run_load,this,hx]
theorem Aoj {vs:List Value} (h:GY vs) (off n:Nat):GY ((vs.drop off).take n):=
 fun x hx=>h x (List.mem_of_mem_drop (List.mem_of_mem_take hx))
theorem Yo {cs c:List V} {off n:Nat} (h:Iy cs off n=some c):off+n≤cs.length∧c=(cs.drop off).take n:=by
 unfold Iy at h
 split at h
 ·cases h;exact⟨‹_›,rfl⟩
 ·cases h
theorem Ie {α:Type} (l:List α) (off n i:Nat):((l.drop off).take n)[i]? =if i<n then l[off+i]? else none:=by
 rw[List.getElem?_take]
 split
 ·rw[List.getElem?_drop]
 ·rfl
theorem Ac2 {bor:Bool}:∀ {c c':List V},OW bor c=some c'→c'.length=c.length∧∀(i:Nat) (v':V),c'[i]? =some v'→∃v,c[i]? =some v∧TY bor v=some v'
 | [],c',h=>by simp[OW]at h;subst h;simp
 | a::r,c',h=>by
  simp only[OW]at h
  cases ha:TY bor a with
  | none=>simp[ha]at h
  | some a'=>
   cases hr:OW bor r with
   | none=>simp[ha,hr]at h
   | some r'=>
    simp[ha,hr]at h
    subst h
    obtain⟨h1,h2⟩:=Ac2 hr
    refine⟨by simp[h1],?_⟩
    intro i v' hv
    cases i with
    | zero=>simp at hv;subst hv;exact⟨a,by simp,ha⟩
    | succ i=>simpa using h2 i v' (by simpa using hv)
theorem Aqx (inv:Inv F β own H w) {Hm:Hp} (hm:∀k,Hm k=H k∨Hm k= .dead) {n:Nat} {v:V} {x:Value} {cs:List V} (hv:VR F β own H w v x)
 (h:AcM F.bor Hm n v=some cs):∃b o off vs,x= .pointer (some ⟨b,o+off,none⟩)∧Rds w b o vs∧off+n≤vs.length∧cs.length=n∧
  ∀(i:Nat) (v:V) (x:Value),cs[i]? =some v→vs[off+i]? =some x→VR F β own H w v x:=by
 have arrcase:∀ {k off e t len:Nat} {acs:List V} {c:List V},VR F β own H w (.ptr k off) x→Al (H k)=some (e,t,len,acs)→Iy acs off n=some c→OW F.bor c=some cs→
  ∃b o off vs,x= .pointer (some ⟨b,o+off,none⟩)∧Rds w b o vs∧off+n≤vs.length∧cs.length=n∧
  ∀(i:Nat) (v:V) (x:Value),cs[i]? =some v→vs[off+i]? =some x→VR F β own H w v x:=by
  intro k off e t len acs c hv hk hg hc
  obtain⟨hle,rfl⟩:=Yo hg
  obtain⟨hl,hcs⟩:=Ac2 hc
  have ho:AR F own w k (β k) e t len acs:=by
   have:=inv.objs k
   cases hk':H k<;>rw[hk']at hk this<;>simp[Al]at hk
   ·obtain⟨rfl,rfl,rfl,rfl⟩:=hk;exact this
   ·obtain⟨rfl,rfl,rfl,rfl⟩:=hk;exact this.1
  cases hv with
  | goneP h1=>rw[h1]at hk;simp[Al]at hk
  | @ptr _ _ b o h1 hb=>
   obtain⟨vs,h2,h3,h4,h5,h6⟩:=ho
   rcases h5 with h5 | ⟨b',o',ha,hbk,hr⟩
   ·have:len*e≤(β k).cap*e:=Nat.mul_le_mul_right _ h4.1
    have h0:acs.length=0:=by omega
    have hn0:n=0:=by omega
    have ho0:off=0:=by omega
    subst hn0
    refine⟨b,o,off,[],rfl,⟨by simp[GY],by simp⟩,by simp[ho0],by simp at hl;simp[hl],?_⟩
    intro i v x hv hx
    simp at hx
   ·rw[hb]at ha
    cases ha
    refine⟨b,o,off,vs,rfl,EF hr,by omega,by rw[hl];simp;omega,?_⟩
    intro i v x hv hx
    obtain⟨u,hu,huc⟩:=hcs i v hv
    rw[Ie]at hu
    split at hu
    ·exact VR.AN0 inv (p:=[off+i]) (by simp) (h6 (off+i) u x hu hx) huc
    ·cases hu
 cases v with
 | ptr k off=>
  simp only[AcM]at h
  rcases hm k with hk | hk<;>rw[hk]at h
  ·cases hk':H k with
   | free=>simp[hk']at h
   | dead=>simp[hk']at h
   | var vcs=>
    simp only[hk']at h
    obtain⟨hle,rfl⟩:=Yo h
    have ho:=inv.objs k
    rw[hk']at ho
    obtain⟨b,o,vs,h1,h2,h3,h4,h5⟩:=ho
    cases hv with
    | goneP g1=>rw[hk']at g1;cases g1
    | @ptr _ _ b' o' g1 g2=>
     rw[h1]at g2
     cases g2
     refine⟨b,o,off,vs,rfl,EF h4,by omega,by simp;omega,?_⟩
     intro i v x hv hx
     rw[Ie]at hv
     split at hv
     ·exact h5 (off+i) v x hv hx
     ·cases hv
   | arr e t len acs=>
    simp only[hk']at h
    cases hg:Iy acs off n with
    | none=>simp[hg]at h
    | some c=>simp only[hg]at h;exact arrcase hv (by rw[hk'];rfl) hg h
   | tarr k' o' e t len acs=>
    simp only[hk']at h
    cases hg:Iy acs off n with
    | none=>simp[hg]at h
    | some c=>simp only[hg]at h;exact arrcase hv (by rw[hk'];rfl) hg h
  ·simp at h
 | rptr fl rcs off=>
  simp only[AcM]at h
  split at h
  ·rename_i h1
   cases hg:Iy rcs off n with
   | none=>simp[hg]at h
   | some c=>
    simp only[hg]at h
    cases h
    obtain⟨hle,rfl⟩:=Yo hg
    cases hv with
    | rptr h1' hr=>
     cases hr with
     | @rptr _ _ _ b o vs hvl hP hmem hc=>
      refine⟨b,o,off,vs,rfl,hmem,by omega,by simp;omega,?_⟩
      intro i v x hv hx
      simp only[List.getElem?_map]at hv
      rw[Ie]at hv
      split at hv
      ·cases hv':rcs[off+i]? with
       | none=>simp[hv']at hv
       | some u=>
        simp[hv']at hv
        subst hv
        exact VR.AOx h1 (hc (off+i) u x hv' hx)
      ·simp at hv
  ·cases h
 | _=>simp[AcM]at h
end
end Go.Eng
