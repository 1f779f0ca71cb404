/- Own work: part 34 of the proof of FnEvents. -/
import Derived.Test.YtfdnolfnbmnafaaGreatEngAG
set_option linter.unusedSimpArgs false
set_option linter.unusedVariables false
namespace Go.Eng
def OM (P:Program) (Ah:Nat→Option FuncId) (takes:List Nat) (ngiven:Nat) (st:List Tmp) (nt:Nat):SC→Code→Bool
 | .skip,.skip=>true
 | .reg r,.region _ ops d=>AMy P Ah takes ngiven st nt r d ops
 | .seq a b,.seq x y=>OM P Ah takes ngiven st nt a x&&OM P Ah takes ngiven st nt b y
 | .cond k a b,.cond (.tmp t) x y=>st[k]? ==some t&&OM P Ah takes ngiven st nt a x&&OM P Ah takes ngiven st nt b y
 | .block id a,.block id' x=>id==id'&&OM P Ah takes ngiven st nt a x
 | .loop a,.loop x=>OM P Ah takes ngiven st nt a x
 | .exit id,.exit id'=>id==id'
 | .ret,.ret=>true
 | .stuck,_=>true
 | _,_=>false
def AMl:Out→Exit
 | .normal=> .normal
 | .exit id=> .exit id
 | .ret=> .ret
section
variable {P:Program} {F:Fr} {st:List Tmp} {nt:Nat}
theorem AAS (ACK:P.follows .mixedOrders=true) {c:Cf} (hcb:c.bor=F.bor) (hct:c.takes=F.takes) {D:Dn} (hD:∀g a gi r o,D g a gi r o→Den P F.Ah F.G g a gi r o) (hF:∀g f,F.Ah g=some f→okF P f=true):
 ∀(sc:SC) (code:Code) {β:Nat→Base} {own:Nat→Option (Nat×List Nat)} {s:St} {a:Act} {w:World} {Qs:Out→St→Prop} {Q:Exit→Act→World→Prop},OM P F.Ah F.takes F.ngiven st nt sc code=true→
  Rel F st nt β own s a w→swp D c sc Qs s→(∀o s' a' w' β' own',Qs o s'→Rel F st nt β' own' s' a' w'→Q (AMl o) a' w')→code.wp P Q a w:=by
 intro sc
 induction sc with
 | skip=>
  intro code β own s a w Qs Q hm rel h hQ
  cases code<;>simp only[OM,Bool.false_eq_true]at hm
  exact wp_skip (hQ .normal s a w β own h rel)
 | reg r=>
  intro code β own s a w Qs Q hm rel h hQ
  cases code<;>simp only[OM,Bool.false_eq_true]at hm
  exact AFs ACK hcb hct hD hF hm rel h (fun s' a' w' β' own' hq r'=>hQ .normal s' a' w' β' own' hq r')
 | seq x y ihx ihy=>
  intro code β own s a w Qs Q hm rel h hQ
  cases code<;>simp only[OM,Bool.false_eq_true,Bool.and_eq_true]at hm
  refine wp_seq (ihx _ hm.1 rel h ?_)
  intro o s' a' w' β' own' hq r'
  cases o with
  | normal=>exact ihy _ hm.2 r' hq hQ
  | exit id=>exact hQ (.exit id) s' a' w' β' own' hq r'
  | ret=>exact hQ .ret s' a' w' β' own' hq r'
 | cond k x y ihx ihy=>
  intro code β own s a w Qs Q hm rel h hQ
  cases code with
  | cond cc x' y'=>
   cases cc with
   | tmp t=>
    simp only[OM,Bool.and_eq_true,beq_iff_eq]at hm
    have hv:=rel.env k t hm.1.1
    have h':(match s.env.getD k .undef with
     | .sc (.bool t)=>if t then swp D c x Qs ⟨s.env.set k .undef,s.H⟩else swp D c y Qs ⟨s.env.set k .undef,s.H⟩
     | _=>False):=h
    have rel':Rel F st nt β own ⟨s.env.set k .undef,s.H⟩ a w:=by
     refine⟨rel.inv,fun i t' hi=> ?_,rel.nt,rel.defers⟩
     dsimp only
     by_cases hik:i=k
     ·subst hik
      have:(s.env.set i V.undef).getD i .undef= .undef:=by
       rw[List.getD_eq_getElem?_getD,List.getElem?_set]
       simp
       split<;>rfl
      rw[this];exact .undef
     ·rw[List.getD_eq_getElem?_getD,List.getElem?_set_ne (fun h=>hik h.symm),←List.getD_eq_getElem?_getD]
      exact rel.env i t' hi
    split at h'
    ·rename_i b hb
     rw[hb]at hv
     have he:=Pz hv
     refine wp_cond (t:=b) he ?_
     cases b with
     | true=>exact ihx _ hm.1.2 rel' (by simpa using h') hQ
     | false=>exact ihy _ hm.2 rel' (by simpa using h') hQ
    ·exact h'.elim
   | _=>simp only[OM,Bool.false_eq_true]at hm
  | _=>simp only[OM,Bool.false_eq_true]at hm
 | block id x ihx=>
  intro code β own s a w Qs Q hm rel h hQ
  cases code<;>simp only[OM,Bool.false_eq_true,Bool.and_eq_true,beq_iff_eq]at hm
  obtain⟨rfl,hm⟩:=hm
  refine wp_block (ihx _ hm rel h ?_)
  intro o s' a' w' β' own' hq r'
  cases o with
  | normal=>exact hQ .normal s' a' w' β' own' hq r'
  | exit i=>
   show Exit.inBlock _ Q (.exit i) a' w'
   simp only[Exit.inBlock]
   have hq':if i=id then Qs .normal s' else Qs (.exit i) s':=hq
   split at hq'
   ·rename_i hi;rw[if_pos hi];exact hQ .normal s' a' w' β' own' hq' r'
   ·rename_i hi;rw[if_neg hi];exact hQ (.exit i) s' a' w' β' own' hq' r'
  | ret=>exact hQ .ret s' a' w' β' own' hq r'
 | loop x ihx=>
  intro code β own s a w Qs Q hm rel h hQ
  cases code<;>simp only[OM,Bool.false_eq_true]at hm
  rename_i body
  obtain⟨n,h⟩:=h
  intro b k cs
  have key:∀(n:Nat) {β:Nat→Base} {own:Nat→Option (Nat×List Nat)} {s:St} {a:Act} {w:World},Rel F st nt β own s a w→
   Nat.rec (motive:=fun _=>St→Prop) (fun _=>False) (fun _ ih s=>swp D c x (fun o s'=>match o with | .normal=>ih s' | o=>Qs o s') s) n s→
   ∃e a' w',Q e a' w'∧Arrives P (lone (b.at a (.code body:: .inLoop body::k)) cs w) b k cs e a' w':=by
   intro n
   induction n with
   | zero=>intro β own s a w _ h;exact h.elim
   | succ n ih=>
    intro β own s a w rel h
    have hb:=ihx body (Q:=Exit.then (fun a' w'=>∃(s':St) (β':Nat→Base) (own':Nat→Option (Nat×List Nat)),Rel F st nt β' own' s' a' w'∧
     Nat.rec (motive:=fun _=>St→Prop) (fun _=>False) (fun _ ih s=>swp D c x (fun o s'=>match o with | .normal=>ih s' | o=>Qs o s') s) n s') Q) hm rel h (by
     intro o s' a' w' β' own' hq r'
     cases o with
     | normal=>exact⟨s',β',own',r',hq⟩
     | exit id=>exact hQ (.exit id) s' a' w' β' own' hq r'
     | ret=>exact hQ .ret s' a' w' β' own' hq r')
    obtain⟨e,a₁,w₁,hq,harr⟩:=hb b (.inLoop body::k) cs
    cases e with
    | normal=>
     obtain⟨s',β',own',r',hr⟩:=hq
     obtain⟨e₂,a₂,w₂,hq₂,harr₂⟩:=ih r' hr
     exact⟨e₂,a₂,w₂,hq₂,.of_steps (Steps.trans harr (.one step_inLoop)) harr₂⟩
    | exit id=>exact⟨_,a₁,w₁,hq,.pass (x:= .inLoop body) rfl (fun _ _=> .inl (by simp)) harr⟩
    | goto l=>exact⟨_,a₁,w₁,hq,.pass (x:= .inLoop body) rfl (fun _ _=> .inl (by simp)) harr⟩
    | ret=>exact⟨_,a₁,w₁,hq,.pass (x:= .inLoop body) rfl (fun _ _=> .inl (by simp)) harr⟩
    | panic ch=>exact⟨_,a₁,w₁,hq,.pass (x:= .inLoop body) rfl (fun _ _=> .inl (by simp)) harr⟩
    | outgrown=>exact⟨_,a₁,w₁,hq,.pass (x:= .inLoop body) rfl (fun _ _=> .inl (by simp)) harr⟩
  obtain⟨e,a',w',hq,harr⟩:=key n rel h
  exact⟨e,a',w',hq,.of_steps (.one step_loop) harr⟩
 | exit id=>
  intro code β own s a w Qs Q hm rel h hQ
  cases code<;>simp only[OM,Bool.false_eq_true,beq_iff_eq]at hm
  subst hm
  exact wp_exit (hQ (.exit id) s a w β own h rel)
 | ret=>
  intro code β own s a w Qs Q hm rel h hQ
  cases code<;>simp only[OM,Bool.false_eq_true]at hm
  exact wp_ret (hQ .ret s a w β own h rel)
 | stuck=>intro code β own s a w Qs Q hm rel h hQ;exact h.elim
end
end Go.Eng
