/- Own work: part 17 of the proof of FnEvents. -/
import Derived.Test.YtfdnolfnbmnafaaGreatEngP
set_option linter.unusedSimpArgs false
set_option linter.unusedVariables false
namespace Go.Eng
def Ag2 (own:Nat→Option (Nat×List Nat)) (k off s:Nat):Nat→Option (Nat×List Nat):=fun b=>
 match own b with
 | some (k1,i::q)=>if k1=k∧i=off then some (s,q)else some (k1,i::q)
 | r=>r
section
variable {P:Program} {F:Fr} {β:Nat→Base} {own:Nat→Option (Nat×List Nat)} {H:Hp} {w w':World}
theorem AxP {k off s b:Nat} {q:List Nat} (h:own b=some (k,off::q)):Ag2 own k off s b=some (s,q):=by
 unfold Ag2;rw[h];simp
theorem AFt {k off s b k1:Nat} {p:List Nat} (h:own b=some (k1,p)) (hn:¬(k1=k∧p.head? =some off)):Ag2 own k off s b=some (k1,p):=by
 unfold Ag2;rw[h]
 cases p with
 | nil=>rfl
 | cons i q=>simp at hn⊢;intro h1 h2;exact absurd h2 (hn h1)
theorem AEN {k off s b:Nat} {p:Nat×List Nat} (h:Ag2 own k off s b=some p):own b≠none:=by
 unfold Ag2 at h
 intro hn
 rw[hn]at h
 cases h
theorem AF2 (inv : Inv F β own H w) (hbor : F.bor = false) {k s off e' t len' e len : Nat} {cs c : List V} (hs : s ∈ F.takes) (hf : H s = .free) (hk : Al (H k) = some (e', t, len', cs))
    (hc : cs[off]? = some (.sl 0 e len c)) {O' : O}
    (hO : (H k = .arr e' t len' cs ∧ O' = .arr e' t len' (cs.set off .undef)) ∨ ∃ k2 o2, H k = .tarr k2 o2 e' t len' cs ∧ O' = .tarr k2 o2 e' t len' (cs.set off .undef))
    {b o : Nat} (hb : (β k).a = some ⟨b, o, none⟩) :
    ∃ x β' own', w.cell? ⟨b, o + off, none⟩ = some x ∧ (∀ z y, VR F β own H w z y → VR F β' own' (A7 H [(k, O'), (s, .tarr k off e t len c)]) w z y) ∧
      Inv F β' own' (A7 H [(k, O'), (s, .tarr k off e t len c)]) w ∧ VR F β' own' (A7 H [(k, O'), (s, .tarr k off e t len c)]) w (.arr s) x := by
  obtain ⟨vs, g1, g2, g3, g4, g5⟩ := Nj inv hk
  have hsk : s ≠ k := fun h => by rw [← h, hf] at hk; simp [Al] at hk
  have hoff : off < cs.length := (List.getElem?_eq_some_iff.1 hc).1
  obtain ⟨x, hx⟩ : ∃ x, vs[off]? = some x := ⟨vs[off]'(by omega), by simp⟩
  have how := g5 off _ x hc hx
  have hO' : Al O' = some (e', t, len', cs.set off .undef) := by
    rcases hO with ⟨_, h⟩ | ⟨_, _, _, h⟩ <;> rw [h] <;> rfl
  rcases g4 with g4 | ⟨b', o', h1, h2, h3⟩
  · have : len' * e' ≤ (β k).cap * e' := Nat.mul_le_mul_right _ g3.1
    omega
  rw [hb] at h1
  cases h1
  have hcell : w.cell? ⟨b, o + off, none⟩ = some x := by rw [(EF h3).2 off (by omega)]; exact hx
  cases how with
  | ro h1 _ _ => exact absurd h1 (by omega)
  | @own _ _ _ _ a cap us hl hw hv hm hcc =>
  have hH : ∀ j, A7 H [(k, O'), (s, .tarr k off e t len c)] j = if j = s then .tarr k off e t len c else if j = k then O' else H j := fun j => rfl
  have hlab : ∀ b k1 p, own b = some (k1, p) → ¬ (k1 = k ∧ p.head? = some off) → Ag2 own k off s b = some (k1, p) := fun b k1 p => AFt
  have hnos : ∀ k2 off e t len cs, H k2 ≠ .tarr s off e t len cs := by
    intro k2 off e t len cs hh
    have := inv.objs k2
    rw [hh] at this
    exact this.2.2.1.2 hf
  have st : Step F β own H w (fun j => if j = s then ⟨a, cap⟩ else β j) (Ag2 own k off s) (A7 H [(k, O'), (s, .tarr k off e t len c)]) w (fun j => j = k ∨ j = s) := by
    refine ⟨Nat.le_refl _, rfl, rfl, rfl, fun _ _ _ => rfl, ?_, ?_, ?_, ?_, ?_, ?_, ?_, ?_, ?_⟩
    · intro hh; rw [hbor] at hh; cases hh
    · intro b2 k1 p hp hK
      exact hlab b2 k1 p hp (fun hh => hK (.inl hh.1))
    · intro b2 p hp
      have hne := AEN hp
      cases ho : own b2 with
      | none => exact absurd ho hne
      | some q => exact ⟨(inv.ownb b2 q ho).1, fun _ => by simp⟩
    · intro j hj
      have h1 : j ≠ k := fun h => hj (.inl h)
      have h2 : j ≠ s := fun h => hj (.inr h)
      exact ⟨by simp [h2], by rw [hH, if_neg h2, if_neg h1]⟩
    · intro j e2 t2 l2 c2 hj h
      rcases hj with hj | hj
      · subst hj
        rw [hk] at h; cases h
        exact .inr ⟨by simp [hsk.symm], _, _, by rw [hH, if_neg hsk.symm, if_pos rfl]; exact hO'⟩
      · subst hj; rw [hf] at h; simp [Al] at h
    · intro j c2 hj h
      rcases hj with hj | hj
      · subst hj; rw [h] at hk; simp [Al] at hk
      · subst hj; rw [hf] at h; cases h
    · intro j hj h
      rcases hj with hj | hj
      · subst hj; rw [h] at hk; simp [Al] at hk
      · subst hj; rw [hf] at h; cases h
    · intro j hj h
      rcases hj with hj | hj
      · subst hj; rw [hH, if_neg hsk.symm, if_pos rfl]
        rcases hO with ⟨_, h⟩ | ⟨_, _, _, h⟩ <;> rw [h] <;> simp
      · subst hj; exact absurd hf h
    · intro s2 j o2 e2 t2 l2 c2 hs2 hh hj ha
      rcases hj with hj | hj
      · subst hj
        exact ⟨Hq.2 ⟨_, _, _, _, hk⟩, fun b2 o3 h3 h4 => ⟨hlab b2 j [] h4 (by simp), rfl⟩⟩
      · subst hj; exact absurd hh (hnos _ _ _ _ _ _)
  have hsS : ∀ fl b2, 1 ≤ fl → F.S w own fl b2 → F.S w (Ag2 own k off s) fl b2 ∧ w.heap[b2]? = w.heap[b2]? := fun fl b2 h1 h => st.sS inv fl b2 h1 h
  have hARk : AR F (Ag2 own k off s) w k (β k) e' t len' (cs.set off .undef) := by
    refine ⟨vs, by simp [g1], by simp [g2], g3, .inr ⟨b, o, hb, hlab b k [] h2 (by simp), h3⟩, ?_⟩
    intro i v y hv hy
    rw [List.getElem?_set] at hv
    split at hv
    · first
      | (cases hv; exact .undef)
      | (split at hv
         · cases hv; exact .undef
         · cases hv)
    · rename_i hne
      refine ML (g5 i v y hv hy) (Nat.le_refl t) (fun b2 q hb2 => ⟨hlab b2 k _ hb2 ?_, rfl⟩) (fun fl b2 h1 h2 => hsS fl b2 h1 h2)
      simp; exact fun h => hne h.symm
  have hARs : AR F (Ag2 own k off s) w s ⟨a, cap⟩ e t len c := by
    refine ⟨us, hv, hw, hl, ?_, ?_⟩
    · rcases hm with hm | ⟨b2, o2, q1, q2, q3⟩
      · exact .inl hm
      · exact .inr ⟨b2, o2, q1, AxP q2, q3⟩
    · intro i v y hv' hy
      refine ML (hcc i v y hv' hy) (Nat.le_refl t) (fun b2 q hb2 => ⟨?_, rfl⟩) (fun fl b2 h1 h2 => hsS fl b2 h1 h2)
      exact AxP (by simpa using hb2)
  refine ⟨_, fun j => if j = s then ⟨a, cap⟩ else β j, Ag2 own k off s, hcell, fun z y h => st.vr inv h, st.inv inv ?_ ?_, ?_⟩
  · intro j hj
    rcases hj with hj | hj
    · subst hj
      rw [hH, if_neg hsk.symm, if_pos rfl]
      rcases hO with ⟨h4, h5⟩ | ⟨k2, o2, h4, h5⟩
      · subst h5
        show AR F (Ag2 own j off s) w j (if j = s then _ else _) e' t len' _
        rw [if_neg hsk.symm]; exact hARk
      · subst h5
        have h6 := inv.objs j
        rw [h4] at h6
        obtain ⟨h7, h8, ⟨h9, h10⟩, h11⟩ := h6
        refine ⟨by dsimp only; rw [if_neg hsk.symm]; exact hARk, h8, ⟨h9, ?_⟩, ?_⟩
        · rw [hH]
          by_cases hks : k2 = s
          · rw [if_pos hks]; simp
          · rw [if_neg hks, if_neg h9]; exact h10
        · intro ha
          rw [hH] at ha
          by_cases hks : k2 = s
          · subst hks; exact absurd hf h10
          · rw [if_neg hks, if_neg h9] at ha
            obtain ⟨b3, o3, q1, q2, q3⟩ := h11 ha
            refine ⟨b3, o3, by dsimp only; rw [if_neg hks]; exact q1, hlab b3 k2 [] q2 (by simp), ?_⟩
            dsimp only
            rw [if_neg hsk.symm]; exact q3
    · subst hj
      rw [hH, if_pos rfl]
      refine ⟨by dsimp only; rw [if_pos rfl]; exact hARs, hs, ⟨hsk.symm, ?_⟩, ?_⟩
      · rw [hH, if_neg hsk.symm, if_pos rfl]
        rcases hO with ⟨_, h⟩ | ⟨_, _, _, h⟩ <;> rw [h] <;> simp
      · intro _
        refine ⟨b, o, by dsimp only; rw [if_neg hsk.symm]; exact hb, hlab b k [] h2 (by simp), ?_⟩
        dsimp only
        rw [if_pos rfl]; exact hcell
  · intro j hj hlt hnd
    rcases hj with hj | hj
    · subst hj
      refine ⟨by simp [hsk.symm], fun hh => ?_⟩
      rw [hh] at hk; simp [Al] at hk
    · subst hj
      exact absurd hf (inv.gfree j hlt)
  · have := VR.arr (F := F) (β := fun j => if j = s then (⟨a, cap⟩ : Base) else β j) (own := Ag2 own k off s) (H := A7 H [(k, O'), (s, .tarr k off e t len c)]) (w := w) (k := s)
      (e := e) (t := t) (len := len) (cs := c) (by rw [hH, if_pos rfl]; rfl)
    simpa using this
theorem AKN (inv:Inv F β own H w) {Hm:Hp} (hm:∀k,Hm k=H k∨Hm k= .dead) {t:TypeId} (hn:nB P t none=true) {s:Nat} (hs:s∈F.takes) {a:Value} {va v:V}
 (ha:VR F β own H w va a) {u:Gq} (h:AyQ F.bor Hm s va=some (v,u)):Did F β own H w ((do pure (.value (←Instr.loadAt t a)):Sem Next).run P w) v u:=by
 unfold AyQ at h
 split at h
 ·cases h
 rename_i hbor
 have hbor:F.bor=false:=by simpa using hbor
 split at h
 ·rename_i k off hf
  have hf':=AbC hm hf
  have hkc:Hm k= .dead∨Hm k=H k:=by
   rcases hm k with h5 | h5
   ·exact .inr h5
   ·exact .inl h5
  have fin:∀ {e' tt len' e len:Nat} {cs c:List V} {O':O},Al (H k)=some (e',tt,len',cs)→cs[off]? =some (.sl 0 e len c)→
   ((H k= .arr e' tt len' cs∧O' = .arr e' tt len' (cs.set off .undef))∨∃k2 o2,H k= .tarr k2 o2 e' tt len' cs∧O' = .tarr k2 o2 e' tt len' (cs.set off .undef))→
   Did F β own H w ((do pure (.value (←Instr.loadAt t a)):Sem Next).run P w) (.arr s) [(k,O'),(s,.tarr k off e tt len c)]:=by
   intro e' tt len' e len cs c O' hk hc hO
   cases ha with
   | goneP h1=>rw[h1]at hk;simp[Al]at hk
   | @ptr _ _ b o h1 hb=>
    obtain⟨x,β',own',q1,q2,q3,q4⟩:=AF2 inv hbor hs hf' hk hc hO hb
    refine⟨x,w,β',own',.inl ?_,q2,q3,q4⟩
    simp only[nB,beq_iff_eq]at hn
    simp only[Instr.loadAt,Instr.sureAddr,Sem.run_bind,Sem.run_pure,Result.andThen_ok,loadVar,Ur hn,Bool.false_eq_true,if_false]
    rw[run_load,q1]
    rfl
  split at h
  ·rename_i e' tt len' cs hc
   split at h
   ·rename_i e len c hcc
    cases h
    have hk:H k= .arr e' tt len' cs:=by
     rcases hkc with h5 | h5
     ·rw[h5]at hc;cases hc
     ·rw[←h5];exact hc
    exact fin (by rw[hk];rfl) hcc (.inl ⟨hk,rfl⟩)
   ·cases h
  ·rename_i k2 o2 e' tt len' cs hc
   split at h
   ·rename_i e len c hcc
    cases h
    have hk:H k= .tarr k2 o2 e' tt len' cs:=by
     rcases hkc with h5 | h5
     ·rw[h5]at hc;cases hc
     ·rw[←h5];exact hc
    exact fin (by rw[hk];rfl) hcc (.inr ⟨k2,o2,hk,rfl⟩)
   ·cases h
  ·cases h
 ·cases h
theorem AKA (inv:Inv F β own H w) {Hm:Hp} (hm:∀k,Hm k=H k∨Hm k= .dead) {ev:Src→V} {ρ:Operand→Value} {t:TypeId} {kv k e len:Nat} (ht:slB P t e=true) (hlen:len*e≤2 ^ 24) (hlen2:len≤2 ^ 24)
 (hz:∀et,P.underlying t=some (.slice et)→∃z,(P.info? et).bind (·.zero)=some z∧z.cells.size=e) {parts:List Src} {qs:Array (Nat×Operand)}
 (hidx:qs.toList.map (·.1)=List.range len) (hpl:parts.length=qs.toList.length)
 (hev:∀(j:Nat) (s:Src) (q:Nat×Operand),parts[j]? =some s→qs.toList[j]? =some q→VR F β own H w (ev s) (ρ q.2))
 {v:V} {u:Gq} (h:AzZ F.bor Hm ev kv k e len parts=some (v,u)):
 Did F β own H w ((do pure (.value (←Instr.buildSlice t len (qs.map fun(i,x)=>(i,ρ x)))):Sem Next).run P w) v u:=by
 unfold AzZ at h
 split at h
 ·rename_i v0 u0 cs0 hb hkv
  split at h
  ·rename_i hbor
   split at h
   ·cases h
   ·rename_i hnk
    cases h
    obtain⟨x,cells,et,cs,t',ks,μ,rfl,rfl,hfree,hks,hμ,hr,hvr,hinv,hv⟩:=AaY inv hm ht hlen hlen2 hz hidx hpl hev hb
    have hHkv:H kv= .var cs0:=by
     rcases hm kv with g | g
     ·rw[←g];exact hkv
     ·rw[g]at hkv;cases hkv
    have hnk':¬kv∈ks∧¬kv=k:=by
     simp only[EY,List.map_append,List.map_map,List.map_cons,List.map_nil,List.contains_eq_mem,List.mem_append,List.mem_singleton,decide_eq_true_eq,not_or]at hnk
     refine⟨fun hh=>hnk.1 ?_,hnk.2⟩
     exact List.mem_map.2 ⟨kv,hh,rfl⟩
    have hkeys:(EY ks++ [(k,O.arr e t' len cs)]).map (·.1)=ks++ [k]:=by
     simp only[EY,List.map_append,List.map_map,List.map_cons,List.map_nil]
     congr 1
     conv=>rhs;rw[←List.map_id ks]
     rfl
    rw[hkeys]
    have hH1:A7 H (EY ks++ [(k,O.arr e t' len cs)]) kv= .var cs0:=by rw[IG,if_neg hnk'.2,if_neg hnk'.1];exact hHkv
    have hβ1:(fun j=>if j=k then(⟨some ⟨w.heap.size,0,none⟩,len⟩:Base)else β j) kv=β kv:=if_neg hnk'.2
    have hown:∀b j p,own b=some (j,p)→(Eo own (some w.heap.size) ks k fun k1 p=>μ k1++p) b=if j∈ks then some (k,μ j++p)else some (j,p):=by
     intro b j p hb
     have hlt:=(inv.ownb b _ hb).1
     unfold Eo
     rw[if_neg (by simp;omega),hb]
    have hheap:∀b,b<w.heap.size→({w with heap:=w.heap.push (.cells cells et)}:World).heap[b]? =w.heap[b]? :=by
     intro b hb
     show(w.heap.push _)[b]? =_
     rw[Array.getElem?_push,if_neg (by omega)]
    have hsz:({w with heap:=w.heap.push (.cells cells et)}:World).heap.size=w.heap.size+1:=Array.size_push _
    generalize hw1:({w with heap:=w.heap.push (.cells cells et)}:World)=w1 at *
    generalize hβg:(fun j=>if j=k then(⟨some ⟨w.heap.size,0,none⟩,len⟩:Base)else β j)=β1 at *
    generalize hog:(Eo own (some w.heap.size) ks k fun k1 p=>μ k1++p)=own1 at *
    generalize hHg:A7 H (EY ks++ [(k,O.arr e t' len cs)])=H1 at *
    obtain⟨cs1,hcs1⟩:∃cs1,cs1=cs0.map (ADn Hm (ks++ [k])):=⟨_,rfl⟩
    have hu:∀j,A7 H1 [(kv,.var cs1)] j=if j=kv then .var cs1 else H1 j:=fun j=>rfl
    have stp:Step F β1 own1 H1 w1 β1 own1 (A7 H1 [(kv,.var cs1)]) w1 (fun j=>j=kv):=by
     refine⟨Nat.le_refl _,rfl,rfl,rfl,fun _ _ _=>rfl,fun _ b _ h=>⟨rfl,h⟩,fun _ _ _ h _=>h,fun b p h=>⟨(hinv.ownb b p h).1,fun _=>by rw[h];simp⟩,?_,?_,?_,?_,?_,?_⟩
     ·intro j hj;exact⟨rfl,by rw[hu,if_neg hj]⟩
     ·intro j _ _ _ _ hj h;rw[hj,hH1]at h;cases h
     ·intro j _ hj _;exact .inr ⟨rfl,_,by rw[hu,if_pos hj]⟩
     ·intro j hj h;rw[hj,hH1]at h;cases h
     ·intro j hj _;rw[hu,if_pos hj];simp
     ·intro _ j _ _ _ _ _ _ _ hj h;rw[hu,if_pos hj]at h;cases h
    have inv2:Inv F β1 own1 (A7 H1 [(kv,.var cs1)]) w1:=by
     refine stp.inv hinv ?_ (fun j hj _ _=>⟨rfl,by rw[hj,hH1];simp⟩)
     intro j hj
     subst hj
     rw[hu,if_pos rfl]
     have ho:=inv.objs j
     rw[hHkv]at ho
     obtain⟨b,o,vs,g1,g2,g3,g4,g5⟩:=ho
     refine⟨b,o,vs,by rw[hβ1];exact g1,by rw[hown b _ _ g2,if_neg hnk'.1],by rw[hcs1];simpa using g3,IE g4 (hheap b (inv.ownb b _ g2).1),?_⟩
     intro i v y hv' hy
     rw[hcs1,List.getElem?_map,Option.map_eq_some_iff]at hv'
     obtain⟨v1,hv1,rfl⟩:=hv'
     have hx0:=g5 i v1 y hv1 hy
     have hstay:=stp.vr hinv (hvr _ _ hx0)
     unfold ADn
     split
     ·rename_i j1
      split
      ·rename_i hc1
       split
       ·rename_i e1 len1 cs2 hj1
        split
        ·rename_i hall
         have hHj:H j1= .arr e1 0 len1 cs2:=by
          rcases hm j1 with g | g
          ·rw[←g];exact hj1
          ·rw[g]at hj1;cases hj1
         have hjk:j1∈ks:=by
          simp only[List.contains_eq_mem,List.mem_append,List.mem_singleton,decide_eq_true_eq]at hc1
          rcases hc1 with h1 | h1
          ·exact h1
          ·rw[h1,hfree]at hHj;cases hHj
         have ho:=inv.objs j1
         rw[hHj]at ho
         obtain⟨ws,a1,a2,a3,a4,a5⟩:=ho
         cases hx0 with
         | @arr _ e2 t2 len2 cs3 he=>
          rw[hHj]at he
          simp only[Al,Option.some.injEq,Prod.mk.injEq]at he
          obtain⟨rfl,rfl,rfl,rfl⟩:=he
          refine .rd (by omega) (.sl (vs:=ws) a3.1 a2 a1 ?_ ?_)
          ·rcases a4 with a4 | ⟨b1,o1,c1,c2,c3⟩
           ·left
            have:len1*e1≤(β j1).cap*e1:=Nat.mul_le_mul_right _ a3.1
            exact List.eq_nil_of_length_eq_zero (by omega)
           ·right
            have hlt:=(inv.ownb b1 _ c2).1
            refine⟨b1,o1,c1,⟨hbor,by omega,fun k'=> ?_⟩,Abd (EF c3) (hheap b1 hlt)⟩
            rw[hown b1 _ _ c2,if_pos hjk]
            obtain⟨i1,hi1⟩:=hμ j1
            simp[hi1]
          ·intro i1 v2 y2 hv2 hy2
           have hsc:=List.all_eq_true.1 hall v2 (List.mem_of_getElem? hv2)
           have how:=a5 i1 v2 y2 hv2 hy2
           cases v2 with
           | sc y3=>
            cases how with
            | sc h1=>exact .sc h1
           | _=>simp[Vl]at hsc
         | goneA hd=>rw[hHj]at hd;cases hd
        ·exact hstay
       ·exact hstay
      ·exact hstay
     ·exact hstay
    refine⟨x,w1,β1,own1,.inl hr,fun z y h=> ?_,?_,?_⟩
    ·rw[VQ,hHg,←hcs1];exact stp.vr hinv (hvr z y h)
    ·rw[VQ,hHg,←hcs1];exact inv2
    ·rw[VQ,hHg,←hcs1];exact stp.vr hinv hv
  ·cases h
 ·cases h
end
end Go.Eng
