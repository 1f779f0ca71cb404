/- Own work: part 23 of the proof of FnExactConsoleLine. -/
import Derived.Test.YtogmkdgkgfhhoaaGreatDoorEP22
import Derived.Test.YtogmkdgkgfhhoaaGreatDoorProg
import Derived.Shelf.Spec.SlicesInsertGrow
import Derived.KernelRfl
import Derived.Shelf.Bits.Mul64
import Derived.LoopN
set_option linter.unusedSimpArgs false
set_option linter.unusedVariables false
namespace Go.Eng.Ins
open Go Go.Proofs Go.Shelf Go.RowKit Go.Lib Go.Sort Go.Eng
set_option maxRecDepth 100000
theorem inf:∃i:TypeInfo,Tryz.prog.info? 264=some i/\i.size=2/\i.bytes=32/\i.zero=some (.agg #[.int .i64 0,.slice none 0 0]):=by
 have h:(Tryz.prog.info? 264).isSome=true:=by kernel_rfl
 obtain⟨i,hi⟩:=Option.isSome_iff_exists.1 h
 have h1:(Tryz.prog.info? 264).map (·.size)=some 2:=by kernel_rfl
 have h2:(Tryz.prog.info? 264).map (·.bytes)=some 32:=by kernel_rfl
 have h3:(Tryz.prog.info? 264).bind (·.zero)=some (.agg #[.int .i64 0,.slice none 0 0]):=by kernel_rfl
 rw[hi]at h1 h2 h3
 simp only[Option.map_some,Option.some.injEq,Option.bind_some]at h1 h2 h3
 exact⟨i,hi,h1,h2,h3⟩
theorem Asf {P:Program} (w:World) (dT sT ty elem:TypeId) (s:Nat) (b o dLen dCap:Nat) (a:Addr) (sLen sCap:Nat) (cs:List Value)
 (hu:P.underlying dT=some (.slice elem)) (hs:(P.info? elem).map (·.size)=some s) (hn:cs.length=Nat.min sLen dLen*s)
 (hsrc:∀j v,cs[j]? =some v->w.cell? (a.add j)=some v) (hc:∀j,j<cs.length->(w.cell? ⟨b,o+j,none⟩).isSome=true) (hf:∀j,j<cs.length->w.frozen? ⟨b,o+j,none⟩=false) (h1:∀v∈cs,v.oneCell' =true):
 (Builtin.copy_ #[dT,sT] ty #[.slice (some ⟨b,o,none⟩) dLen dCap,.slice (some a) sLen sCap]).run P w= .ok (goInt (Nat.min sLen dLen)) (w.setCells b o cs):=by
 have hl:=run_loadCells_list (P:=P) w a cs hsrc
 have hst:=run_storeCells_cells (P:=P) b o cs 0 w (by simpa using hc) (by simpa using hf) h1
 cases hq:P.info? elem with
 | none=>simp[hq]at hs
 | some i=>
  have hi:i.size=s:=by simpa[hq]using hs
  rw[hn]at hl
  simp[Builtin.copy_,run_underlying hu,Builtin.lenOf,Builtin.firstCells,sizeOf,typeInfo,hq,hi,hl,hst]
set_option maxHeartbeats 4000000 in
theorem AI0 (b off n c i vb voff vc:Nat) (cs vs:List Value) (w:World) (hi:i<n) (hroom:n+1<=c) (hc63:c<=9223372036854775807) (hvb:vb≠b)
 (hcl:cs.length=n*2) (hvl:vs.length=2)
 (hcs:∀j v,cs[j]? =some v->w.cell? ⟨b,off+j,none⟩=some v) (hsp:∀j,j<(n+1)*2->(w.cell? ⟨b,off+j,none⟩).isSome=true) (hfz:∀j,j<(n+1)*2->w.frozen? ⟨b,off+j,none⟩=false)
 (hvs:∀j v,vs[j]? =some v->w.cell? ⟨vb,voff+j,none⟩=some v) (h1c:∀v∈cs,v.oneCell' =true) (h1v:∀v∈vs,v.oneCell' =true)
 (tA tB:TypeId) (kA kB:Nat) (hsa:w.shape? vb=some (tA,kA)) (hsb:w.shape? b=some (tB,kB)) (hkB:kB≠0) (hfa:w.frozen? ⟨vb,voff,none⟩=false) (hfe:w.frozen? ⟨vb,kA,none⟩=false):
 Calls Tryz.prog 466 #[.slice (some ⟨b,off,none⟩) n c,.int .i64 i,.slice (some ⟨vb,voff,none⟩) 1 vc] w fun e w'=>
  e= .returned (.slice (some ⟨b,off,none⟩) (n+1) c)/\w' =(w.drew.setCells b (off+(i+1)*2) (cs.drop (i*2))).setCells b (off+i*2) vs:=by
 have hz1:¬((1:Int)=0):=by omega
 have hz2:¬((i:Int)=(n:Int)):=by omega
 obtain⟨i0,hi0,hs0,hb0,hz0⟩:=inf
 have hsz:(Tryz.prog.info? 264).map (·.size)=some 2:=by rw[hi0];simp[hs0]
 have hso:∀w,(Go.sizeOf 264).run Tryz.prog w= .ok 2 w:=fun w=>by simp[Go.sizeOf,typeInfo,hi0,hs0]
 have hov:∀lb cb,(callFunc 490 #[.slice (some ⟨vb,voff,none⟩) 1 vc,.slice (some ⟨b,off+(i+1)*2,none⟩) lb cb]).run Tryz.prog w= .ok (.value (.bool false)) w:=fun lb cb=>by
  rw[run_callFunc_extern Tryz.func490 (by kernel_rfl) (by kernel_rfl) (by kernel_rfl) (e:=Extern.SlicesOverlaps.overlaps #[138,138] #[4]) (by kernel_rfl),
   Lib.run_overlaps_apart w 138 4 264 Tryz.underlying138 2 hso ⟨vb,voff,none⟩ ⟨b,off+(i+1)*2,none⟩ 1 vc lb cb hvb tA tB kA kB hsa hsb hkB hfa hfe]
  rfl
 have hdl:(cs.drop (i*2)).length=(n-i)*2:=by rw[List.length_drop,hcl];omega
 have hw1:IntKind.i64.wrap ((i:Int)+1)=(i:Int)+1:=by rw[IntKind.wrap_i64];omega
 have hb1:(0:Int)<=(i:Int)+1:=by omega
 have hin:i<=n:=by omega
 have htn:((i:Int)+1).toNat=i+1:=by omega
 have hb2:¬(c=i+1):=by omega
 have hb3:(i:Int)<=(n:Int)+1:=by omega
 have hb4:¬(c=i):=by omega
 have hb5:(i:Int)<=((n+1:Nat):Int):=by omega
 have mixed:Tryz.prog.follows .mixedOrders=true:=by kernel_rfl
 have hcp1:∀ty dc sc,(Builtin.copy_ #[138,138] ty #[.slice (some ⟨b,off+(i+1)*2,none⟩) (n-i) dc,.slice (some ⟨b,off+i*2,none⟩) (n+1-i) sc]).run Tryz.prog w.drew= .ok (goInt ((n-i:Nat):Int)) (w.drew.setCells b (off+(i+1)*2) (cs.drop (i*2))):=fun ty dc sc=>by
  have hmin:Nat.min (n+1-i) (n-i)=n-i:=by simp only[Nat.min_def];split<;>omega
  have:=Asf (P:=Tryz.prog) w.drew 138 138 ty 264 2 b (off+(i+1)*2) (n-i) dc ⟨b,off+i*2,none⟩ (n+1-i) sc (cs.drop (i*2)) Tryz.underlying138 hsz (by rw[hdl,hmin])
   (fun j v hj=>by rw[Addr.add_lit,Nat.add_assoc];exact hcs (i*2+j) v (by rwa [List.getElem?_drop]at hj))
   (fun j hj=>by rw[Nat.add_assoc];exact hsp _ (by omega)) (fun j hj=>by rw[Nat.add_assoc];exact hfz _ (by omega)) (fun v hv=>h1c v (List.mem_of_mem_drop hv))
  rw[hmin]at this
  exact this
 obtain⟨W1,hW1⟩:∃W1,W1=w.drew.setCells b (off+(i+1)*2) (cs.drop (i*2)):=⟨_,rfl⟩
 have hsp1:∀k,k<(n+1)*2->(W1.cell? ⟨b,off+k,none⟩).isSome=true:=fun k hk=>by
  rw[hW1]
  exact isSome_setCells b _ _ _ (fun j hj=>by rw[Nat.add_assoc];exact hsp _ (by omega)) _ (hsp k hk)
 have hcp2:∀(W:World),(∀x,W.cell? x=W1.cell? x)->(∀x,W.frozen? x=W1.frozen? x)->∀ty dc,(Builtin.copy_ #[138,138] ty #[.slice (some ⟨b,off+i*2,none⟩) (n+1-i) dc,.slice (some ⟨vb,voff,none⟩) 1 vc]).run Tryz.prog W= .ok (goInt 1) (W.setCells b (off+i*2) vs):=fun W hWc hWf ty dc=>by
  have hmin:Nat.min 1 (n+1-i)=1:=by simp only[Nat.min_def];split<;>omega
  have:=Asf (P:=Tryz.prog) W 138 138 ty 264 2 b (off+i*2) (n+1-i) dc ⟨vb,voff,none⟩ 1 vc vs Tryz.underlying138 hsz (by rw[hvl,hmin])
   (fun j v hj=>by
    rw[Addr.add_lit,hWc,hW1,World.cell?_setCells_out b _ _ _ _ (fun h _=>absurd h hvb)]
    exact hvs j v hj)
   (fun j hj=>by rw[hWc,Nat.add_assoc];exact hsp1 _ (by omega)) (fun j hj=>by rw[hWf,hW1,World.frozen?_setCells,Nat.add_assoc];exact hfz _ (by omega)) h1v
  rw[hmin]at this
  exact this
 rw[<-hW1]at hcp1
 go_enter Tryz.func466,Tryz.ntmps466
 go_wp2_with (simp only[hov])
 go_region_law_o (refine step_copy_runI rfl _ _ 138 138 rfl _ _ (by simp[Act.eval,Act.put]) (by simp[Act.eval,Act.put]) (hcp1 _ _ _) ?_)
 go_wp2_with (at_builtin;refine wpList_copy_runI _ rfl _ _ 138 138 rfl _ _ rfl rfl (hcp2 _ (fun _=>rfl) (fun _=>rfl) _ _) ?_)
 go_ret
 first | exact⟨rfl,rfl⟩ | exact⟨rfl,by rw[hW1]⟩
set_option maxHeartbeats 4000000 in
theorem AFn (b off n c vb voff vc:Nat) (vs:List Value) (w:World) (hroom:n+1<=c) (hc63:c<=9223372036854775807) (hvl:vs.length=2)
 (hsp:∀j,j<2->(w.cell? ⟨b,off+n*2+j,none⟩).isSome=true) (hfz:∀j,j<2->w.frozen? ⟨b,off+n*2+j,none⟩=false)
 (hvs:∀j v,vs[j]? =some v->w.cell? ⟨vb,voff+j,none⟩=some v) (h1v:∀v∈vs,v.oneCell' =true):
 Calls Tryz.prog 466 #[.slice (some ⟨b,off,none⟩) n c,.int .i64 n,.slice (some ⟨vb,voff,none⟩) 1 vc] w fun e w'=>
  e= .returned (.slice (some ⟨b,off,none⟩) (n+1) c)/\w' =w.setCells b (off+n*2) vs:=by
 have hz1:¬((1:Int)=0):=by omega
 obtain⟨i0,hi0,hs0,hb0,hz0⟩:=inf
 have mixed:Tryz.prog.follows .mixedOrders=true:=by kernel_rfl
 have hsrc:Go.Src Tryz.prog i0.size 138 (.slice (some ⟨vb,voff,none⟩) 1 vc) 1 vs w:=Go.Src.ofSlice w Tryz.underlying138 ⟨vb,voff,none⟩ 1 vc vs (by omega) (fun j u hj=>by rw[Addr.add_lit];exact hvs j u hj) h1v
 have hrun:∀ty,(Builtin.append_ #[138,138] ty #[.slice (some ⟨b,off,none⟩) n c,.slice (some ⟨vb,voff,none⟩) 1 vc]).run Tryz.prog w= .ok (.slice (some ⟨b,off,none⟩) (n+1) c) (w.setCells b (off+n*2) vs):=fun ty=>by
  have:=run_append_room_src w 138 138 ty 264 i0 Tryz.underlying138 hi0 b off n c (.slice (some ⟨vb,voff,none⟩) 1 vc) 1 vs hsrc hroom (fun j hj=>by rw[hs0];exact hsp j (by omega)) (fun j hj=>by rw[hs0];exact hfz j (by omega))
  rw[hs0]at this
  exact this
 go_enter Tryz.func466,Tryz.ntmps466
 go_wp2_with (at_builtin;refine Lib.wpList_append_run _ rfl _ _ _ _ rfl _ _ rfl rfl _ _ (hrun _) ?_)
 go_ret
 exact⟨rfl,rfl⟩
set_option maxHeartbeats 4000000 in
theorem AFo (base:Option Addr) (n c vb voff vc:Nat) (cs vs:List Value) (w:World) (hnc:n<=c) (hroom:c<n+1) (hbig:(n+1)*32<=140737488355328)
 (hcl:cs.length=n*2) (hvl:vs.length=2) (hnil:base=none->n=0)
 (hcs:∀a,base=some a->∀j v,cs[j]? =some v->w.cell? (a.add j)=some v)
 (hvs:∀j v,vs[j]? =some v->w.cell? ⟨vb,voff+j,none⟩=some v) (h1v:∀v∈vs,v.oneCell' =true):
 Calls Tryz.prog 466 #[.slice base n c,.int .i64 n,.slice (some ⟨vb,voff,none⟩) 1 vc] w fun e w'=>
  e= .returned (.slice (some ⟨w.heap.size,0,none⟩) (n+1) (grownCap w (n+1) c 264))/\
  w' =w.drew.alloc (.cells ((cs++vs).toArray++Builtin.zeroCells #[.int .i64 0,.slice none 0 0] (grownCap w (n+1) c 264-(n+1))) 264):=by
 have hz1:¬((1:Int)=0):=by omega
 obtain⟨i0,hi0,hs0,hb0,hz0⟩:=inf
 have mixed:Tryz.prog.follows .mixedOrders=true:=by kernel_rfl
 have hsrc:Go.Src Tryz.prog i0.size 138 (.slice (some ⟨vb,voff,none⟩) 1 vc) 1 vs w:=Go.Src.ofSlice w Tryz.underlying138 ⟨vb,voff,none⟩ 1 vc vs (by omega) (fun j u hj=>by rw[Addr.add_lit];exact hvs j u hj) h1v
 have hold:(Builtin.firstCells i0.size n (.slice base n c)).run Tryz.prog w.drew= .ok cs.toArray w.drew:=by
  rw[hs0]
  cases base with
  | none=>
   have h0:=hnil rfl
   subst h0
   have hc0:cs=[]:=List.length_eq_zero_iff.1 (by simpa using hcl)
   rw[hc0]
   exact run_firstCells_none w.drew 2 0 0 c
  | some a=>exact run_firstCells_some w.drew 2 n a n c cs (by omega) (fun j v hj=>hcs a rfl j v hj)
 have hrun:∀ty,(Builtin.append_ #[138,138] ty #[.slice base n c,.slice (some ⟨vb,voff,none⟩) 1 vc]).run Tryz.prog w=
  .ok (.slice (some ⟨w.heap.size,0,none⟩) (n+1) (grownCap w (n+1) c 264)) (w.drew.alloc (.cells ((cs++vs).toArray++Builtin.zeroCells #[.int .i64 0,.slice none 0 0] (grownCap w (n+1) c 264-(n+1))) 264)):=fun ty=>
  run_append_grow_src w 138 138 ty 264 i0 _ Tryz.underlying138 hi0 hz0 base n c cs hold _ 1 vs hsrc hroom (by omega) (by rw[hb0];exact growslice_fits hroom hbig)
 go_enter Tryz.func466,Tryz.ntmps466
 cases base with
 | none=>
  have h0:=hnil rfl
  subst h0
  go_wp2_with (at_builtin;refine Lib.wpList_append_run _ rfl _ _ _ _ rfl _ _ rfl rfl _ _ (hrun _) ?_)
  go_ret
  exact⟨rfl,rfl⟩
 | some a=>
  obtain⟨ab,ao,asp⟩:=a
  go_wp2_with (at_builtin;refine Lib.wpList_append_run _ rfl _ _ _ _ rfl _ _ rfl rfl _ _ (hrun _) ?_)
  all_goals (go_ret;exact⟨rfl,rfl⟩)
set_option maxHeartbeats 4000000 in
theorem AJM (b off n c i vb voff vc:Nat) (cs vs:List Value) (w:World) (hi:i<n) (hnc:n<=c) (hroom:c<n+1) (hbig:(n+1)*32<=140737488355328)
 (hcl:cs.length=n*2) (hvl:vs.length=2)
 (hcs:∀j v,cs[j]? =some v->w.cell? ⟨b,off+j,none⟩=some v)
 (hvs:∀j v,vs[j]? =some v->w.cell? ⟨vb,voff+j,none⟩=some v) (h1c:∀v∈cs,v.oneCell' =true) (h1v:∀v∈vs,v.oneCell' =true):
 Calls Tryz.prog 466 #[.slice (some ⟨b,off,none⟩) n c,.int .i64 i,.slice (some ⟨vb,voff,none⟩) 1 vc] w fun e w'=>
  e= .returned (.slice (some ⟨w.heap.size,0,none⟩) (n+1) (grownCap w (n+1) c 264))/\
  w' =(((w.alloc (.cells ((cs.take (i*2)).toArray++Builtin.zeroCells #[.int .i64 0,.slice none 0 0] (n+1-i)++Builtin.zeroCells #[.int .i64 0,.slice none 0 0] (grownCap w (n+1) c 264-(n+1))) 264)).drew.setCells w.heap.size (i*2) vs).drew).setCells w.heap.size ((i+1)*2) (cs.drop (i*2)):=by
 have hz1:¬((1:Int)=0):=by omega
 have hz2:¬((i:Int)=(n:Int)):=by omega
 have hz3:(c:Int)<(n:Int)+1:=by omega
 obtain⟨i0,hi0,hs0,hb0,hz0⟩:=inf
 have mixed:Tryz.prog.follows .mixedOrders=true:=by kernel_rfl
 have hsz:(Tryz.prog.info? 264).map (·.size)=some 2:=by rw[hi0];simp[hs0]
 have hbw:b<w.heap.size:=block_lt_of_cell (hcs 0 _ (List.getElem?_eq_getElem (by omega)))
 have hvw:vb<w.heap.size:=block_lt_of_cell (hvs 0 _ (List.getElem?_eq_getElem (by omega)))
 have hkk:(n:Int)+1-(i:Int)=((n+1-i:Nat):Int):=by omega
 have hik:i+(n+1-i)=n+1:=by omega
 have hold:(Builtin.firstCells i0.size i (.slice (some ⟨b,off,none⟩) i c)).run Tryz.prog w.drew= .ok (cs.take (i*2)).toArray w.drew:=by
  rw[hs0]
  exact run_firstCells_some w.drew 2 i ⟨b,off,none⟩ i c (cs.take (i*2)) (by rw[List.length_take];omega) (fun j v hj=>by
   rw[Addr.add_lit]
   rw[List.getElem?_take]at hj
   split at hj
   ·exact hcs j v hj
   ·cases hj)
 have hrz:∀ty,(Builtin.append_ #[138,3] ty #[.slice (some ⟨b,off,none⟩) i c,.int .i64 ((n:Int)+1-(i:Int))]).run Tryz.prog w=
  .ok (.slice (some ⟨w.heap.size,0,none⟩) (n+1) (grownCap w (n+1) c 264)) (w.drew.alloc (.cells ((cs.take (i*2)).toArray++Builtin.zeroCells #[.int .i64 0,.slice none 0 0] (n+1-i)++Builtin.zeroCells #[.int .i64 0,.slice none 0 0] (grownCap w (n+1) c 264-(n+1))) 264)):=fun ty=>by
  have h:=Lib.run_append_grow_zeros w 138 3 ty 264 i0 _ .i64 .i64 Tryz.underlying138 Tryz.underlying3 hi0 hz0 (some ⟨b,off,none⟩) i c (cs.take (i*2)) hold (n+1-i) (by omega) (by omega) (by omega) (by omega) (by rw[hb0];omega) (by rw[hb0,hik];exact growslice_fits hroom hbig)
  rw[hik]at h
  rw[hkk]
  exact h
 obtain⟨G,hG⟩:∃G,G=grownCap w (n+1) c 264:=⟨_,rfl⟩
 obtain⟨ROW,hROW⟩:∃ROW:Array Value,ROW=(cs.take (i*2)).toArray++Builtin.zeroCells #[.int .i64 0,.slice none 0 0] (n+1-i)++Builtin.zeroCells #[.int .i64 0,.slice none 0 0] (G-(n+1)):=⟨_,rfl⟩
 rw[<-hG]at hrz⊢
 rw[<-hROW]at hrz⊢
 have hRl:(n+1)*2<=ROW.size:=by
  rw[hROW]
  simp[Builtin.zeroCells]
  omega
 obtain⟨W1,hW1⟩:∃W1,W1=w.drew.alloc (.cells ROW 264):=⟨_,rfl⟩
 rw[<-hW1]at hrz
 have hN:∀j,j<(n+1)*2->(W1.cell? ⟨w.heap.size,j,none⟩).isSome=true:=fun j hj=>by
  rw[hW1,World.cell?_alloc_at (w:=w.drew) ROW _ w.heap.size j rfl,Array.getElem?_eq_getElem (by omega)];rfl
 have hNf:∀j,W1.frozen? ⟨w.heap.size,j,none⟩=false:=fun j=>by rw[hW1];exact World.frozen?_alloc_at (w:=w.drew) ROW _ w.heap.size j rfl
 have hOb:∀j v,w.cell? ⟨b,j,none⟩=some v->W1.cell? ⟨b,j,none⟩=some v:=fun j v h=>by rw[hW1,World.cell?_alloc_past (w:=w.drew) _ b j hbw];exact h
 have hOv:∀j v,w.cell? ⟨vb,j,none⟩=some v->W1.cell? ⟨vb,j,none⟩=some v:=fun j v h=>by rw[hW1,World.cell?_alloc_past (w:=w.drew) _ vb j hvw];exact h
 have hcpA:∀(W:World),(∀x,W.cell? x=W1.cell? x)->(∀x,W.frozen? x=W1.frozen? x)->∀ty dc,(Builtin.copy_ #[138,138] ty #[.slice (some ⟨w.heap.size,i*2,none⟩) (n+1-i) dc,.slice (some ⟨vb,voff,none⟩) 1 vc]).run Tryz.prog W= .ok (goInt 1) (W.setCells w.heap.size (i*2) vs):=fun W hWc hWf ty dc=>by
  have hmin:Nat.min 1 (n+1-i)=1:=by simp only[Nat.min_def];split<;>omega
  have:=Asf (P:=Tryz.prog) W 138 138 ty 264 2 w.heap.size (i*2) (n+1-i) dc ⟨vb,voff,none⟩ 1 vc vs Tryz.underlying138 hsz (by rw[hvl,hmin])
   (fun j v hj=>by rw[Addr.add_lit,hWc];exact hOv _ v (hvs j v hj))
   (fun j hj=>by rw[hWc];exact hN _ (by omega)) (fun j hj=>by rw[hWf];exact hNf _) h1v
  rw[hmin]at this
  exact this
 have hGn:n+1<=G:=by rw[hG];exact grownCap_ge w _ _ _
 have hG63:G<=9223372036854775807:=by
  have:=grownCap_le_maxLen w (n+1) c 264 (by unfold maxLen;omega)
  rw[<-hG]at this
  unfold maxLen at this
  omega
 have hGi:¬(G=i):=by omega
 have hGim:¬(G=i+1):=by omega
 have hci:¬(c=i):=by omega
 have hbN:b≠w.heap.size:=by omega
 have hdl:(cs.drop (i*2)).length=(n-i)*2:=by rw[List.length_drop,hcl];omega
 have hcpB:∀(W:World),(∀x,W.cell? x=(W1.setCells w.heap.size (i*2) vs).cell? x)->(∀x,W.frozen? x=(W1.setCells w.heap.size (i*2) vs).frozen? x)->∀ty dc sc,(Builtin.copy_ #[138,138] ty #[.slice (some ⟨w.heap.size,(i+1)*2,none⟩) (n-i) dc,.slice (some ⟨b,off+i*2,none⟩) (n-i) sc]).run Tryz.prog W= .ok (goInt ((n-i:Nat):Int)) (W.setCells w.heap.size ((i+1)*2) (cs.drop (i*2))):=fun W hWc hWf ty dc sc=>by
  have hmin:Nat.min (n-i) (n-i)=n-i:=by simp only[Nat.min_def];split<;>omega
  have:=Asf (P:=Tryz.prog) W 138 138 ty 264 2 w.heap.size ((i+1)*2) (n-i) dc ⟨b,off+i*2,none⟩ (n-i) sc (cs.drop (i*2)) Tryz.underlying138 hsz (by rw[hdl,hmin])
   (fun j v hj=>by
    rw[Addr.add_lit,hWc,World.cell?_setCells_out _ _ _ _ _ (fun h _=>absurd h hbN),Nat.add_assoc]
    exact hOb _ v (hcs (i*2+j) v (by rwa [List.getElem?_drop]at hj)))
   (fun j hj=>by rw[hWc];exact isSome_setCells _ _ _ _ (fun t ht=>hN _ (by omega)) _ (hN _ (by omega)))
   (fun j hj=>by rw[hWf,World.frozen?_setCells];exact hNf _) (fun v hv=>h1c v (List.mem_of_mem_drop hv))
  rw[hmin]at this
  exact this
 subst hW1
 have hE1:∀x,((w.alloc (.cells ROW 264)).drew).cell? x=(w.drew.alloc (.cells ROW 264)).cell? x:=fun x=>rfl
 have hE2:∀x,((w.alloc (.cells ROW 264)).drew).frozen? x=(w.drew.alloc (.cells ROW 264)).frozen? x:=fun x=>rfl
 have hF1:∀x,(((w.alloc (.cells ROW 264)).drew.setCells w.heap.size (i*2) vs).drew).cell? x=((w.drew.alloc (.cells ROW 264)).setCells w.heap.size (i*2) vs).cell? x:=fun x=>rfl
 have hF2:∀x,(((w.alloc (.cells ROW 264)).drew.setCells w.heap.size (i*2) vs).drew).frozen? x=((w.drew.alloc (.cells ROW 264)).setCells w.heap.size (i*2) vs).frozen? x:=fun x=>rfl
 have hw1:IntKind.i64.wrap ((i:Int)+1)=(i:Int)+1:=by rw[IntKind.wrap_i64];omega
 have hb1:(0:Int)<=(i:Int)+1:=by omega
 have hin:i<=n:=by omega
 have htn:((i:Int)+1).toNat=i+1:=by omega
 have hb3:(i:Int)<=(n:Int):=by omega
 clear hkk hik hold hROW hG hRl
 go_enter Tryz.func466,Tryz.ntmps466
 go_wp2_with (first
  | (at_builtin;refine Lib.wpList_append_run _ rfl _ _ _ _ rfl _ _ rfl rfl _ _ (hrz _) ?_)
  | (at_builtin;refine wpList_copy_runI _ rfl _ _ 138 138 rfl _ _ rfl rfl (hcpA _ hE1 hE2 _ _) ?_)
  | (at_builtin;refine wpList_copy_runI _ rfl _ _ 138 138 rfl _ _ rfl rfl (hcpB _ (fun _=>rfl) (fun _=>rfl) _ _ _) ?_))
 go_region_law_o (refine step_copy_runI rfl _ _ 138 138 rfl (.slice (some ⟨w.heap.size,(i+1)*2,none⟩) (n-i) (G-(i+1))) (.slice (some ⟨b,off+i*2,none⟩) (n-i) (c-i)) (by simp[Act.eval,Act.put]) (by simp[Act.eval,Act.put]) (hcpB _ hF1 hF2 3 (G-(i+1)) (c-i)) ?_)
 go_wp2
 go_ret
 exact⟨rfl,rfl⟩
theorem Aw6 {l d:List Value} {off i n:Nat} (hi:i<=l.length) (hn:l.length+d.length<=n) (c:Array Value) (hc:off+n<=c.size) (hl:∀j,j<i->c[off+j]? =l[j]?) (j:Nat) (hj:j<l.length+d.length):
 (Atj (off+i) d (Atj (off+i+d.length) (l.drop i) c))[off+j]? =(l.take i++d++l.drop i)[j]? :=by
 have ht:(l.take i).length=i:=by simp;omega
 by_cases h1:j<i
 ·rw[Arq _ _ _ _ (.inl (by omega)),Arq _ _ _ _ (.inl (by omega)),hl j h1,List.append_assoc,List.getElem?_append_left (by omega),List.getElem?_take,if_pos h1]
 ·by_cases h2:j<i+d.length
  ·have:=Aus d (off+i) (j-i) (Atj (off+i+d.length) (l.drop i) c) (by omega) (by rw[AkS];omega)
   rw[show off+i+(j-i)=off+j by omega]at this
   rw[this,List.append_assoc,List.getElem?_append_right (by omega),List.getElem?_append_left (by omega),ht]
  ·rw[Arq _ _ _ _ (.inr (by omega))]
   have:=Aus (l.drop i) (off+i+d.length) (j-i-d.length) c (by simp;omega) (by simp;omega)
   rw[show off+i+d.length+(j-i-d.length)=off+j by omega]at this
   rw[this,List.append_assoc,List.getElem?_append_right (by omega),List.getElem?_append_right (by omega),ht]
theorem AAb {l d:List Value} {i:Nat} (h1:Fj l) (h2:Fj d):Fj (l.take i++d++l.drop i):=by
 intro v hv
 rcases List.mem_append.1 hv with hv | hv
 ·rcases List.mem_append.1 hv with hv | hv
  ·exact h1 v (List.mem_of_mem_take hv)
  ·exact h2 v hv
 ·exact h1 v (List.mem_of_mem_drop hv)
theorem ALI:AK7 Tryz.prog 466:=by
 intro a n cap i vb vo vc vs ds w hi hn hcap hvl hdl hm hV hvc
 have hds:∀j x,ds[j]? =some x->w.cell? ⟨vb,vo+j,none⟩=some x:=fun j x hj=>AA7 hV hj
 have hdo:Fj ds:=hV.1
 have hgc:=AfX w (n+1) cap 264
 have hgb:=AeI w (n+1) cap 264 (by omega)
 have hlen:(vs.take (i*2)++ds++vs.drop (i*2)).length=(n+1)*2:=by simp[hvl,hdl];omega
 have zc:∀k,(Builtin.zeroCells #[Value.int .i64 0,.slice none 0 0] k).size=k*2:=fun k=>by simp[Builtin.zeroCells]
 have endGrow:cap<n+1->i=n->Fj vs->(∀a0,a=some a0->∀j x,vs[j]? =some x->w.cell? (a0.add j)=some x)->(a=none->n=0)->_:=fun hc hin ho hcells hnil=>
  (AFo a n cap vb vo vc vs ds w hcap.1 hc (by omega) hvl hdl hnil hcells hds hdo).mono
   (R':=fun e w'=>∃b' o' cap',e= .returned (.slice (some ⟨b',o',none⟩) (n+1) cap')/\(n+1<=cap'/\cap'<=9223372036854775807)/\
    Has w' b' o' (vs.take (i*2)++ds++vs.drop (i*2)) (cap'*2)/\(w.heap.size<=b'∨∃o,a=some ⟨b',o,none⟩/\cap≠0)/\
    w.heap.size<=w'.heap.size/\w'.os=w.os/\w'.tape=w.tape/\w'.output=w.output/\∀b,b<w.heap.size->b≠b'->w'.heap[b]? =w.heap[b]?)
   fun e w' ⟨he,hw⟩=>by
    subst hw
    refine⟨_,_,_,he,⟨hgc,hgb⟩,⟨AAb ho hdo,_,264,alloc_at w.drew _,?_,by rw[hlen];exact Nat.mul_le_mul_right _ hgc,fun j hj=> ?_⟩,.inl (Nat.le_refl _),by rw[Atm];simp,rfl,rfl,rfl,fun b hb _=>AuW w.drew _ hb⟩
    ·simp[zc,hvl,hdl];omega
    ·rw[hlen]at hj
     have e1:vs.take (i*2)=vs:=List.take_of_length_le (by omega)
     have e2:vs.drop (i*2)=[]:=List.drop_eq_nil_of_le (by omega)
     rw[Nat.zero_add,e1,e2,List.append_nil,Array.getElem?_append,if_pos (by simp[hvl,hdl];omega)]
     simp
 rcases hm with hm | ⟨b,o,rfl,hhas,hbne⟩
 ·subst hm
  obtain rfl:n=0:=by omega
  obtain rfl:i=0:=by omega
  have hv0:vs=[]:=List.length_eq_zero_iff.1 (by omega)
  subst hv0
  exact endGrow (by omega) rfl (fun v hv=>by cases hv) (fun a0 _ j x hj=>by simp at hj) (fun _=>rfl)
 ·have ho:Fj vs:=hhas.1
  have hcs:∀j x,vs[j]? =some x->w.cell? ⟨b,o+j,none⟩=some x:=fun j x hj=>AA7 hhas hj
  have hbl:=TT hhas
  have keep:∀(f:Array Value->Array Value) (W:World),W.heap=w.heap->∀b2,b2<w.heap.size->b2≠b->(mapBlock W b f).heap[b2]? =w.heap[b2]? :=fun f W hW b2 _ h2=>by rw[Auh _ _ h2,hW]
  by_cases hroom:n+1<=cap
  ·by_cases hin:i=n
   ·subst hin
    refine(AFn b o i cap vb vo vc ds w hroom hcap.2 hdl (fun j hj=> ?_) (fun j _=>Au9 hhas _) hds hdo).mono fun e w' ⟨he,hw⟩=> ?_
    ·have:=AAn hhas (j:=i*2+j) (by omega)
     rwa [<-Nat.add_assoc]at this
    ·rw[AhJ]at hw
     subst hw
     refine⟨b,o,cap,he,⟨hroom,hcap.2⟩,?_,.inr ⟨o,rfl,by omega⟩,by rw[AsE];exact Nat.le_refl _,rfl,rfl,rfl,fun b2 h1 h2=>keep _ w rfl b2 h1 h2⟩
     refine AxA hhas (Auo _ _ _) (AkS _ _) (fun c h1 h2 j hj=> ?_) (AAb ho hdo) (by rw[hlen];omega)
     have:=Aw6 (l:=vs) (d:=ds) (off:=o) (i:=i*2) (n:=cap*2) (by omega) (by omega) c h1 (fun j hj=>h2 j (by omega)) j (by rw[hlen]at hj;omega)
     have e2:vs.drop (i*2)=[]:=List.drop_eq_nil_of_le (by omega)
     rw[e2]at this⊢
     exact this
   ·obtain⟨tA,kA,hsa,_⟩:=AyR hV
    obtain⟨tB,kB,hsb,hkB⟩:=AyR hhas
    refine(AI0 b o n cap i vb vo vc vs ds w (by omega) hroom hcap.2 (Ne.symm hbne) hvl hdl hcs (fun j hj=>AAn hhas (by omega)) (fun j _=>Au9 hhas _) hds ho hdo tA tB kA kB hsa hsb (by omega) (Au9 hV _) (Au9 hV _)).mono fun e w' ⟨he,hw⟩=> ?_
    rw[AhJ,AhJ,mapBlock_mapBlock]at hw
    subst hw
    refine⟨b,o,cap,he,⟨hroom,hcap.2⟩,?_,.inr ⟨o,rfl,by omega⟩,by rw[AsE];exact Nat.le_refl _,rfl,rfl,rfl,fun b2 h1 h2=>keep _ w.drew rfl b2 h1 h2⟩
    refine AxA hhas (Auo _ _ _) (fun c=>by rw[AkS,AkS]) (fun c h1 h2 j hj=> ?_) (AAb ho hdo) (by rw[hlen];omega)
    have:=Aw6 (l:=vs) (d:=ds) (off:=o) (i:=i*2) (n:=cap*2) (by omega) (by omega) c h1 (fun j hj=>h2 j (by omega)) j (by rw[hlen]at hj;omega)
    rw[hdl,show o+i*2+2=o+(i+1)*2 by omega]at this
    exact this
  ·by_cases hin:i=n
   ·rw[hin]
    rw[hin]at endGrow
    refine endGrow (by omega) rfl ho (fun a0 ha j x hj=> ?_) (fun h=>by cases h)
    cases ha
    rw[Addr.add_lit]
    exact hcs j x hj
   ·refine(AJM b o n cap i vb vo vc vs ds w (by omega) hcap.1 (by omega) (by omega) hvl hdl hcs hds ho hdo).mono fun e w' ⟨he,hw⟩=> ?_
    rw[AhJ,AhJ]at hw
    have hsz:w'.heap.size=w.heap.size+1:=by
     rw[hw,AsE];simp only[World.drew];rw[AsE,Atm]
    have hoff:∀b',b' <w.heap.size->w'.heap[b']? =w.heap[b']? :=by
     intro b' hb'
     rw[hw,Auh _ _ (by omega)]
     simp only[World.drew]
     rw[Auh _ _ (by omega)]
     exact AuW w _ hb'
    refine⟨w.heap.size,0,_,he,⟨hgc,hgb⟩,?_,.inl (Nat.le_refl _),by omega,by rw[hw];rfl,by rw[hw];rfl,by rw[hw];rfl,fun b' hb' _=>hoff b' hb'⟩
    obtain⟨R0,hR0⟩:∃R0:Array Value,R0=(vs.take (i*2)).toArray++Builtin.zeroCells #[.int .i64 0,.slice none 0 0] (n+1-i)++Builtin.zeroCells #[.int .i64 0,.slice none 0 0] (grownCap w (n+1) cap 264-(n+1)):=⟨_,rfl⟩
    have hR0s:R0.size=grownCap w (n+1) cap 264*2:=by rw[hR0];simp[zc,hvl];omega
    have hat:w'.heap[w.heap.size]? =some (.cells (Atj ((i+1)*2) (vs.drop (i*2)) (Atj (i*2) ds R0)) 264 (0,0)):=by
     rw[hw,Auo]
     simp only[World.drew]
     rw[Auo]
     simp only[]
     rw[alloc_at,<-hR0]
     rfl
    refine⟨AAb ho hdo,_,264,hat,?_,by rw[hlen];exact Nat.mul_le_mul_right _ hgc,fun j hj=> ?_⟩
    ·rw[AkS,AkS,hR0s];omega
    ·rw[hlen]at hj
     have hg2:(n+1)*2<=grownCap w (n+1) cap 264*2:=Nat.mul_le_mul_right _ hgc
     have ht:(vs.take (i*2)).length=i*2:=by simp;omega
     rw[Nat.zero_add]
     by_cases q1:j<i*2
     ·rw[Arq _ _ _ _ (.inl (by omega)),Arq _ _ _ _ (.inl q1),hR0,List.append_assoc,List.getElem?_append_left (by omega),Array.getElem?_append,if_pos (by simp[zc,hvl];omega),Array.getElem?_append,if_pos (by simp;omega)]
      simp
     ·by_cases q2:j<i*2+2
      ·rw[Arq _ _ _ _ (.inl (by omega))]
       have:=Aus ds (i*2) (j-i*2) R0 (by omega) (by omega)
       rw[show i*2+(j-i*2)=j by omega]at this
       rw[this,List.append_assoc,List.getElem?_append_right (by omega),List.getElem?_append_left (by omega),ht]
      ·have:=Aus (vs.drop (i*2)) ((i+1)*2) (j-(i+1)*2) (Atj (i*2) ds R0) (by simp;omega) (by rw[AkS];simp;omega)
       rw[show(i+1)*2+(j-(i+1)*2)=j by omega]at this
       rw[this,List.append_assoc,List.getElem?_append_right (by omega),List.getElem?_append_right (by omega),ht,hdl]
       congr 1;omega
end Go.Eng.Ins
namespace Go.Eng.Ins
open Go Go.Proofs Go.Shelf Go.RowKit Go.Lib Go.Sort Go.Eng
set_option maxRecDepth 100000
theorem mk2 (w:World):(Instr.makeSlice 24 (.int .i64 2) (.int .i64 2)).run Tryz.prog w= .ok (.slice (some ⟨w.heap.size,0,none⟩) 2 2) (w.alloc (.cells #[.int .i64 0,.int .i64 0] 3)):=by kernel_rfl
theorem mk1 (w:World):(Instr.makeSlice 24 (.int .i64 1) (.int .i64 1)).run Tryz.prog w= .ok (.slice (some ⟨w.heap.size,0,none⟩) 1 1) (w.alloc (.cells #[.int .i64 0] 3)):=by kernel_rfl
theorem mk0 (w:World):(Instr.makeSlice 24 (.int .i64 0) (.int .i64 0)).run Tryz.prog w= .ok (.slice (some ⟨w.heap.size,0,none⟩) 0 0) (w.alloc (.cells #[] 3)):=by kernel_rfl
theorem siz:(Tryz.prog.info? 3).map (·.size)=some 1:=by kernel_rfl
set_option maxHeartbeats 4000000 in
theorem ALJ (b o cap:Nat) (v:Int) (w:World) (hv:w.cell? ⟨b,o,none⟩=some (.int .i64 v)):
 Calls Tryz.prog 464 #[.slice (some ⟨b,o,none⟩) 1 cap,.int .i64 2] w fun e w'=>e= .returned (.slice (some ⟨w.heap.size,0,none⟩) 2 2)/\w' =(((w.alloc (.cells #[.int .i64 0,.int .i64 0] 3)).setCells w.heap.size 0 [.int .i64 v]).drew).setCells w.heap.size 1 [.int .i64 v]:=by
 have mixed:Tryz.prog.follows .mixedOrders=true:=by kernel_rfl
 have hbw:b<w.heap.size:=block_lt_of_cell hv
 obtain⟨W1,hW1⟩:∃W1,W1=w.alloc (.cells #[.int .i64 0,.int .i64 0] 3):=⟨_,rfl⟩
 have hN:∀j,j<2->(W1.cell? ⟨w.heap.size,j,none⟩).isSome=true:=fun j hj=>by
  rw[hW1,World.cell?_alloc_at (w:=w) _ _ w.heap.size j rfl,Array.getElem?_eq_getElem (by simpa using hj)];rfl
 have hNf:∀j,W1.frozen? ⟨w.heap.size,j,none⟩=false:=fun j=>by rw[hW1];exact World.frozen?_alloc_at (w:=w) _ _ w.heap.size j rfl
 have hOv:W1.cell? ⟨b,o,none⟩=some (.int .i64 v):=by rw[hW1,World.cell?_alloc_past (w:=w) _ b o hbw];exact hv
 have hcA:∀ty,(Builtin.copy_ #[24,24] ty #[.slice (some ⟨w.heap.size,0,none⟩) 2 2,.slice (some ⟨b,o,none⟩) 1 cap]).run Tryz.prog W1= .ok (goInt 1) (W1.setCells w.heap.size 0 [.int .i64 v]):=fun ty=>by
  have:=Asf (P:=Tryz.prog) W1 24 24 ty 3 1 w.heap.size 0 2 2 ⟨b,o,none⟩ 1 cap [.int .i64 v] Tryz.underlying24 siz rfl
   (fun j x hj=>by
    match j,hj with
    | 0,hj=>simp at hj;subst hj;rw[Addr.add_lit];exact hOv
    | j+1,hj=>simp at hj)
   (fun j hj=>by rw[Nat.zero_add];simp at hj;exact hN j (by omega)) (fun j hj=>by rw[Nat.zero_add];exact hNf j) (by simp[Value.oneCell'])
  exact this
 obtain⟨W2,hW2⟩:∃W2,W2=W1.setCells w.heap.size 0 [.int .i64 v]:=⟨_,rfl⟩
 rw[<-hW2]at hcA
 have hcB:∀ty dc sc,(Builtin.copy_ #[24,24] ty #[.slice (some ⟨w.heap.size,1,none⟩) 1 dc,.slice (some ⟨w.heap.size,0,none⟩) 1 sc]).run Tryz.prog W2.drew= .ok (goInt 1) (W2.drew.setCells w.heap.size 1 [.int .i64 v]):=fun ty dc sc=>by
  have:=Asf (P:=Tryz.prog) W2.drew 24 24 ty 3 1 w.heap.size 1 1 dc ⟨w.heap.size,0,none⟩ 1 sc [.int .i64 v] Tryz.underlying24 siz rfl
   (fun j x hj=>by
    match j,hj with
    | 0,hj=>
     simp at hj;subst hj;rw[Addr.add_lit]
     have:=World.cell?_setCells_in w.heap.size [Value.int .i64 v] 0 W1 (fun j hj=>by rw[Nat.zero_add];simp at hj;exact hN j (by omega)) 0 (by simp)
     rw[<-hW2]at this
     simpa using this
    | j+1,hj=>simp at hj)
   (fun j hj=>by
    simp at hj;subst hj
    show(W2.cell? _).isSome=true
    rw[hW2]
    exact isSome_setCells _ _ _ _ (fun j hj=>by rw[Nat.zero_add];simp at hj;exact hN j (by omega)) _ (hN 1 (by omega))) (fun j hj=>by
    show W2.frozen? _=false
    rw[hW2,World.frozen?_setCells];exact hNf _) (by simp[Value.oneCell'])
  exact this
 subst hW2
 subst hW1
 clear hN hNf hOv
 go_enter Tryz.func464,Tryz.ntmps464
 go_wp2_with (first
  | go_in
  | (simp only[mk2])
  | (at_builtin;refine wpList_copy_runI _ rfl _ _ 24 24 rfl _ _ rfl rfl (hcA _) ?_))
 refine wp_loop_rounds 2 ?_
 simp only[Code.rounds]
 go_wp2
 go_region_law_o (refine step_copy_runI rfl _ _ 24 24 rfl _ _ (by simp[Act.eval,Act.put]) (by simp[Act.eval,Act.put]) (hcB _ _ _) ?_)
 go_wp2
 go_ret
 exact⟨rfl,rfl⟩
set_option maxHeartbeats 4000000 in
theorem ALM (b o cap:Nat) (v:Int) (w:World) (hv:w.cell? ⟨b,o,none⟩=some (.int .i64 v)):
 Calls Tryz.prog 464 #[.slice (some ⟨b,o,none⟩) 1 cap,.int .i64 1] w fun e w'=>e= .returned (.slice (some ⟨w.heap.size,0,none⟩) 1 1)/\w' =(w.alloc (.cells #[.int .i64 0] 3)).setCells w.heap.size 0 [.int .i64 v]:=by
 have mixed:Tryz.prog.follows .mixedOrders=true:=by kernel_rfl
 have hbw:b<w.heap.size:=block_lt_of_cell hv
 have hcA:∀ty,(Builtin.copy_ #[24,24] ty #[.slice (some ⟨w.heap.size,0,none⟩) 1 1,.slice (some ⟨b,o,none⟩) 1 cap]).run Tryz.prog (w.alloc (.cells #[.int .i64 0] 3))= .ok (goInt 1) ((w.alloc (.cells #[.int .i64 0] 3)).setCells w.heap.size 0 [.int .i64 v]):=fun ty=>by
  have:=Asf (P:=Tryz.prog) (w.alloc (.cells #[.int .i64 0] 3)) 24 24 ty 3 1 w.heap.size 0 1 1 ⟨b,o,none⟩ 1 cap [.int .i64 v] Tryz.underlying24 siz rfl
   (fun j x hj=>by
    match j,hj with
    | 0,hj=>simp at hj;subst hj;rw[Addr.add_lit,World.cell?_alloc_past (w:=w) _ b _ hbw];exact hv
    | j+1,hj=>simp at hj)
   (fun j hj=>by rw[Nat.zero_add];simp at hj;subst hj;rw[World.cell?_alloc_at (w:=w) _ _ w.heap.size 0 rfl];rfl) (fun j hj=>by exact World.frozen?_alloc_at (w:=w) _ _ w.heap.size _ rfl) (by simp[Value.oneCell'])
  exact this
 go_enter Tryz.func464,Tryz.ntmps464
 go_wp2_with (first
  | go_in
  | (simp only[mk1])
  | (at_builtin;refine wpList_copy_runI _ rfl _ _ 24 24 rfl _ _ rfl rfl (hcA _) ?_))
 refine wp_loop_rounds 1 ?_
 simp only[Code.rounds]
 go_wp2
 go_ret
 exact⟨rfl,rfl⟩
set_option maxHeartbeats 4000000 in
theorem ALH (b o cap:Nat) (w:World):
 Calls Tryz.prog 464 #[.slice (some ⟨b,o,none⟩) 1 cap,.int .i64 0] w fun e w'=>e= .returned (.slice (some ⟨w.heap.size,0,none⟩) 0 0)/\w' =w.alloc (.cells #[] 3):=by
 have mixed:Tryz.prog.follows .mixedOrders=true:=by kernel_rfl
 have hcA:∀ty,(Builtin.copy_ #[24,24] ty #[.slice (some ⟨w.heap.size,0,none⟩) 0 0,.slice (some ⟨b,o,none⟩) 1 cap]).run Tryz.prog (w.alloc (.cells #[] 3))= .ok (goInt 0) (w.alloc (.cells #[] 3)):=fun ty=>by
  have:=Asf (P:=Tryz.prog) (w.alloc (.cells #[] 3)) 24 24 ty 3 1 w.heap.size 0 0 0 ⟨b,o,none⟩ 1 cap [] Tryz.underlying24 siz rfl
   (fun j x hj=>by simp at hj) (fun j hj=>by simp at hj) (fun j hj=>by simp at hj) (by simp)
  exact this
 go_enter Tryz.func464,Tryz.ntmps464
 go_wp2_with (first
  | go_in
  | (simp only[mk0])
  | (at_builtin;refine wpList_copy_runI _ rfl _ _ 24 24 rfl _ _ rfl rfl (hcA _) ?_))
 refine wp_loop_rounds 1 ?_
 simp only[Code.rounds]
 go_wp2
 go_ret
 exact⟨rfl,rfl⟩
theorem ALP:∃i:TypeInfo,Tryz.prog.info? 3=some i/\i.size=1/\i.bytes=8/\i.zero=some (.int .i64 0):=by
 have h:(Tryz.prog.info? 3).isSome=true:=by kernel_rfl
 obtain⟨i,hi⟩:=Option.isSome_iff_exists.1 h
 have h1:(Tryz.prog.info? 3).map (·.size)=some 1:=by kernel_rfl
 have h2:(Tryz.prog.info? 3).map (·.bytes)=some 8:=by kernel_rfl
 have h3:(Tryz.prog.info? 3).bind (·.zero)=some (.int .i64 0):=by kernel_rfl
 rw[hi]at h1 h2 h3
 simp only[Option.map_some,Option.some.injEq,Option.bind_some]at h1 h2 h3
 exact⟨i,hi,h1,h2,h3⟩
set_option maxHeartbeats 4000000 in
theorem ALr (w:World):Calls Tryz.prog 514 #[.slice none 0 0,.int .i64 0] w fun e w'=>e= .returned (.slice none 0 0)/\w' =w:=by
 have mixed:Tryz.prog.follows .mixedOrders=true:=by kernel_rfl
 go_enter Tryz.func514,Tryz.ntmps514
 go_wp2
 go_ret
 exact⟨rfl,rfl⟩
set_option maxHeartbeats 4000000 in
theorem ALt (n:Nat) (w:World) (h0:0<n) (hn:n<=16777216):Calls Tryz.prog 514 #[.slice none 0 0,.int .i64 n] w fun e w'=>e= .returned (.slice (some ⟨w.heap.size,0,none⟩) 0 (grownCap w n 0 3))/\
 w' =w.drew.alloc (.cells (([]:List Value).toArray++Builtin.zeroCells #[.int .i64 0] n++Builtin.zeroCells #[.int .i64 0] (grownCap w n 0 3-n)) 3):=by
 have mixed:Tryz.prog.follows .mixedOrders=true:=by kernel_rfl
 obtain⟨i0,hi0,hs0,hb0,hz0⟩:=ALP
 have h1:¬((n:Int)<0):=by omega
 have h3:wrap64 ((n:Int)-((0:Int)-(0:Int)))=(n:Int):=by unfold wrap64;omega
 have h3':wrap64 ((n:Int)-(0:Int))=(n:Int):=by unfold wrap64;omega
 have h4:(n:Int)>0:=by omega
 have hold:(Builtin.firstCells i0.size 0 (.slice none 0 0)).run Tryz.prog w.drew= .ok ([]:List Value).toArray w.drew:=run_firstCells_none w.drew i0.size 0 0 0
 have hrz:∀ty,(Builtin.append_ #[24,3] ty #[.slice none 0 0,.int .i64 (n:Int)]).run Tryz.prog w=
  .ok (.slice (some ⟨w.heap.size,0,none⟩) n (grownCap w n 0 3)) (w.drew.alloc (.cells (([]:List Value).toArray++Builtin.zeroCells #[.int .i64 0] n++Builtin.zeroCells #[.int .i64 0] (grownCap w n 0 3-n)) 3)):=fun ty=>by
  have h:=Lib.run_append_grow_zeros w 24 3 ty 3 i0 _ .i64 .i64 Tryz.underlying24 Tryz.underlying3 hi0 hz0 none 0 0 [] hold n (by omega) (by omega) (by omega) (by omega) (by rw[hb0];omega) (by rw[hb0];exact growslice_fits (by omega) (by omega))
  simp only[Nat.zero_add]at h
  exact h
 have hGn:n<=grownCap w n 0 3:=grownCap_ge w _ _ _
 obtain⟨G,hG⟩:∃G,G=grownCap w n 0 3:=⟨_,rfl⟩
 rw[<-hG]at hrz hGn⊢
 have hG63:G<=9223372036854775807:=by
  have:=grownCap_le_maxLen w n 0 3 (by unfold maxLen;omega)
  rw[<-hG]at this
  unfold maxLen at this
  omega
 clear hold hG
 go_enter Tryz.func514,Tryz.ntmps514
 go_wp2_with (at_builtin;refine Lib.wpList_append_run _ rfl _ _ _ _ rfl _ _ rfl rfl _ _ (hrz _) ?_)
 all_goals (go_ret;exact⟨rfl,rfl⟩)
end Go.Eng.Ins
