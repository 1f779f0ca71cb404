/- Own work: part 36 of the proof of FnEvents. -/
import Derived.Test.YtfdnolfnbmnafaaGreatEngAI
set_option linter.unusedSimpArgs false
set_option linter.unusedVariables false
namespace Go.Eng
def ABM (own:Nat→Option (Nat×List Nat)) (n:Nat) (ks:List Nat) (μ:Nat→List Nat):Nat→Option (Nat×List Nat):=fun b=>
 match own b with
 | some (k,p)=>if k∈ks then some (n,μ k++p)else if k<n then some (k,p)else none
 | none=>none
section
variable {P:Program} {F:Fr} {st:List Tmp} {nt:Nat}
theorem Akq {β:Nat→Base} {own:Nat→Option (Nat×List Nat)} {s:St} {a:Act} {w:World} (rel:Rel F st nt β own s a w) {fn:Func} {f:Bp} (hm:Ajd P st f.results fn.results.toList=true)
 (hng:F.ngiven=f.ngiven) {res:V} {outs:List O} (h:finish f s res outs):∃x own',(results fn a.tmps).run P w= .ok x w∧Post F outs res x w own':=by
 unfold finish at h
 split at h
 ·exact h.elim
 rename_i l hl
 split at h
 ·rename_i v ks hg
  obtain⟨rfl,rfl⟩:=h
  obtain⟨x,hx,hv⟩:=AyZ rel hm hl
  obtain⟨b1,b2,μ,b3⟩:=AEC rel.inv (fun _=> .inl rfl) hv hg
  refine⟨x,ABM own F.ngiven ks μ,hx,?_⟩
  have hlab:∀b k p,k∈ks→own b=some (k,p)→ABM own F.ngiven ks μ b=some (F.ngiven,μ k++p):=by
   intro b k p hk hb;unfold ABM;rw[hb];simp[hk]
  have hlab2:∀b k p,k∉ks→k<F.ngiven→own b=some (k,p)→ABM own F.ngiven ks μ b=some (k,p):=by
   intro b k p hk hlt hb;unfold ABM;rw[hb];simp[hk,hlt]
  refine⟨rel.inv.size,rel.inv.os,rel.inv.tape,rel.inv.output,rel.inv.keep,?_,?_,?_,?_⟩
  ·intro b p hb
   unfold ABM at hb
   cases ho:own b with
   | none=>rw[ho]at hb;cases hb
   | some q=>exact rel.inv.ownb b q ho
  ·refine b3 (own':=ABM own F.ngiven ks μ) (w':=w) (S':=fun _ b=>F.G b) (lim:=0) (k:=F.ngiven) (μ':=μ) (Nat.le_refl 0) (fun _ _=>rfl) ⟨fun b k1 p h1 h2=>⟨hlab b k1 p h1 h2,rfl⟩,?_⟩
   intro fl b h1 h2 h3
   have:=Anx h1 (by omega)
   subst this
   exact⟨h3,rfl⟩
  ·simp[hng]
  ·intro i o hi
   simp only[List.getElem?_map,Option.map_eq_some_iff]at hi
   obtain⟨j,hj,rfl⟩:=hi
   have hj2:j=i∧i<f.ngiven:=by
    have:=List.getElem?_eq_some_iff.1 hj
    obtain⟨h1,h2⟩:=this
    simp at h1 h2
    exact⟨h2.symm,h1⟩
   obtain⟨rfl,hjn⟩:=hj2
   split
   ·trivial
   rename_i hks
   have hks':j∉ks:=by simpa using hks
   have ho:=rel.inv.objs j
   cases hH:hp s.H j with
   | free=>trivial
   | dead=>trivial
   | tarr _ _ _ _ _ _=>trivial
   | arr e t len cs=>
    rw[hH]at ho
    cases t with
    | succ t=>trivial
    | zero=>
     refine⟨rfl,?_⟩
     have hβ:β j=F.β0 j:=rel.inv.given j (by omega) (by rw[hH];simp)
     obtain⟨vs,g1,g2,g3,g4,g5⟩:=(ho:AR F own w j (β j) e 0 len cs)
     rw[←hβ]
     refine⟨vs,g1,g2,g3,?_,?_⟩
     ·rcases g4 with g4 | ⟨b,ob,q1,q2,q3⟩
      ·exact .inl g4
      ·exact .inr ⟨b,ob,q1,hlab2 b j [] hks' (by omega) q2,q3⟩
     ·intro i v x hv hx
      refine(g5 i v x hv hx).move (Nat.le_refl 0) ?_ (fun _ _ _ _ _=>rfl) (fun b q hb=>⟨hlab2 b j _ hks' (by omega) hb,rfl⟩)
      intro fl b h1 h2 h3
      have:=Anx h1 (by omega)
      subst this
      exact h3
   | var cs=>
    rw[hH]at ho
    simp only[AhE]
    split
    ·rename_i hpl
     have hβ:β j=F.β0 j:=rel.inv.given j (by omega) (by rw[hH];simp)
     obtain⟨b,ob,vs,g1,g2,g3,g4,g5⟩:=ho
     refine⟨b,ob,vs,by rw[←hβ];exact g1,hlab2 b j [] hks' (by omega) g2,g3,g4,?_⟩
     intro i v x hv hx
     have:=g5 i v x hv hx
     rcases XI hpl hv with⟨u,rfl⟩ | ⟨e,len,c,rfl⟩
     ·cases this;exact .sc ‹_›
     ·cases this with
      | rd h1 hr=>exact hr
    ·trivial
 ·exact h.elim
theorem Post.as {bor:Bool} {takes:List Nat} {outs:List O} {res:V} {x:Value} {w:World} {own:Nat→Option (Nat×List Nat)} (h:Post (F.as bor takes) outs res x w own):Post F outs res x w own:=by
 refine⟨h.size,h.os,h.tape,h.output,h.keep,h.lab,h.res,h.outl,fun i o ho=> ?_⟩
 have:=h.out i o ho
 cases o<;>exact this
theorem AGY (ACK:P.follows .mixedOrders=true) {Ah:Nat→Option FuncId} {G:Gl} {D:Dn} (hD:∀g a gi r o,D g a gi r o→Den P Ah G g a gi r o) (hF:∀g f,Ah g=some f→okF P f=true)
 {g:Nat} {f:Bp} {fn:Func} (hfn:∀id,Ah g=some id→P.funcs[id]? =some fn) (hm:Bq P Ah st f fn=true) {args:List V} {given:List O} {res:V} {outs:List O} (h:Body D f args given res outs):
 Den P Ah G g args given res outs:=by
 intro id hid F hFf hFG hFb hFt hFn inv xs hxs
 simp only[Bq,Bool.and_eq_true,decide_eq_true_eq,List.all_eq_true,beq_iff_eq]at hm
 obtain⟨⟨⟨hb,hp⟩,hlen⟩,hr⟩:=hm
 obtain⟨ha,hgl,hsw⟩:=h
 split at hb
 rotate_left
 ·cases hb
 rename_i code hcode
 subst hFf;subst hFG
 have hxl:xs.length=f.params.length:=by rw[hxs.1,ha]
 refine calls_of_wp (hfn id hid) hcode ?_
 have inv':Inv (F.as f.bor f.takes) F.β0 F.own0 (Eng.hp given) F.w0:=AMb hFb hFt inv
 have rel:Rel (F.as f.bor f.takes) st fn.ntmps F.β0 F.own0 (AwN f args given) {tmps:=xs.toArray++Array.replicate (fn.ntmps-xs.toArray.size) undef,defers:=[]} F.w0:=by
  refine⟨?_,?_,?_,rfl⟩
  ·show Inv _ _ _ (Eng.hp (given++List.replicate _ .free)) _
   rw[AHD];exact inv'
  ·intro i t hi
   show VR _ _ _ (Eng.hp (given++List.replicate _ .free)) _ ((AnH f args).getD i .undef) _
   rw[AHD]
   unfold AnH
   rcases Aju args f.params.zipIdx (List.replicate f.nslots .undef) i with⟨j,g1,g2⟩ | ⟨g1,g2⟩ | g1
   ·rw[g2]
    have hst:=hp (i,j) g1
    dsimp only at hst
    rw[hi]at hst
    have htj:t=j:=by simpa using hst
    subst htj
    have hj:t<f.params.length:=by
     obtain⟨_,h2,_⟩:=List.mem_zipIdx g1
     rw[Nat.zero_add]at h2
     exact h2
    have hjx:t<xs.length:=by rw[hxl];exact hj
    have hja:t<args.length:=by rw[ha];exact hj
    have:=hxs.2 t args[t] xs[t] (by simp) (by simp)
    have e1:args.getD t .undef=args[t]:=by simp[List.getD_eq_getElem?_getD,hja]
    have e2:(xs.toArray++Array.replicate (fn.ntmps-xs.toArray.size) undef).getD t undef=xs[t]:=by
     rw[Array.getD_eq_getD_getElem?,Array.getElem?_append_left (by simpa using hjx)]
     simp[hjx]
    rw[e1]
    show VR _ _ _ _ _ _ ((xs.toArray++Array.replicate (fn.ntmps-xs.toArray.size) undef).getD t undef)
    rw[e2]
    exact ALx hFb this
   ·rw[g1]
    have:(List.replicate f.nslots V.undef).getD i .undef= .undef:=by
     rw[List.getD_eq_getElem?_getD,List.getElem?_replicate]
     split<;>rfl
    rw[this];exact .undef
   ·rw[g1];exact .undef
  ·simp
   omega
 have hng:F.ngiven=f.ngiven:=by rw[hFn,hgl]
 have hcode2:OM P F.Ah f.takes F.ngiven st fn.ntmps f.body code=true:=by rw[hng];exact hb
 refine AAS ACK (F:=F.as f.bor f.takes) (c:=⟨f.bor,f.takes⟩) rfl rfl hD hF f.body code hcode2 rel hsw ?_
 intro o s' a' w' β' own' hq r'
 cases o with
 | normal=>
  obtain⟨x,own2,h1,h2⟩:=Akq r' hr hng hq
  exact⟨r'.defers,x,h1,own2,h2.as⟩
 | exit i=>exact hq.elim
 | ret=>
  obtain⟨x,own2,h1,h2⟩:=Akq r' hr hng hq
  exact⟨r'.defers,x,h1,own2,h2.as⟩
end
end Go.Eng
