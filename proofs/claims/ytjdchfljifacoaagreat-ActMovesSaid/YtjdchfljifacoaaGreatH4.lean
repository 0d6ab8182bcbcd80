import Derived.Test.YtjdchfljifacoaaGreatP9
set_option linter.all false
set_option maxRecDepth 1000000
set_option maxHeartbeats 8000000
namespace Go.Proofs.YtjdchfljifacoaaGreat.Am
section
open Go Go.RowKit Go.Lib
def zM:List Value:=[.int .i64 0,.int .i64 0,.int .i64 0,.int .i64 0,.bool false]
theorem YB:∃j,Tryz.prog.info? 36=some j/\j.size=5:=z9.1 (show(Tryz.prog.info? 36).map (·.size)=some 5 by kernel_rfl)
theorem XM(b off n c i vb voff m vc:Nat)(cs vs:List Value)(w:World)(hi:i<n)(hm:0<m)(hroom:n+m<=c)(hc63:n+m<=9223372036854775807)(hvb:vb≠b)(hcl:cs.length=n*5)(hvl:vs.length=m*5)(hcs:∀j v,cs[j]? =some v->w.cell? ⟨b,off+j,none⟩=some v)(hsp:∀j,j<(n+m)*5->(w.cell? ⟨b,off+j,none⟩).isSome=true)(hfz:∀j,j<(n+m)*5->w.frozen? ⟨b,off+j,none⟩=false)(hvs:∀j v,vs[j]? =some v->w.cell? ⟨vb,voff+j,none⟩=some v)(h1c:∀v∈cs,v.oneCell'=true)(h1v:∀v∈vs,v.oneCell'=true)(tA tB:TypeId)(kA kB:Nat)(hsa:w.shape? vb=some (tA,kA))(hsb:w.shape? b=some (tB,kB))(hkA:kA≠0)(hfb:∀j,w.frozen? ⟨b,j,none⟩=false):Calls Tryz.prog 168 #[.slice (some ⟨b,off,none⟩) n c,.int .i64 i,.slice (some ⟨vb,voff,none⟩) m vc] w λe w'=>e=.returned (.slice (some ⟨b,off,none⟩) (n+m) c)/\w'=(w.drew.setCells b (off+(i+m)*5) (cs.drop (i*5))).setCells b (off+i*5) vs:=by
 obtain⟨i0,hi0,hzs⟩:=YB;have hz1:¬((m:Int)=0):=by omega
 have hz2:¬((i:Int)=(n:Int)):=by omega
 have hov:∀lb cb,(callFunc 194 #[.slice (some ⟨vb,voff,none⟩) m vc,.slice (some ⟨b,off+(i+m)*5,none⟩) lb cb]).run Tryz.prog w=.ok (.value (.bool false)) w:=λlb cb=>by rw[run_callFunc_extern Tryz.func194 (by kernel_rfl) (by kernel_rfl) (by kernel_rfl) (e:=Extern.SlicesOverlaps.overlaps #[29,29] #[4]) (by kernel_rfl),LG w 29 4 36 Tryz.underlying29 5 Tryz.sizeOf36 ⟨vb,voff,none⟩ ⟨b,off+(i+m)*5,none⟩ m vc lb cb hvb tA tB kA kB hsa hsb hkA (hfb _) (hfb _)];rfl
 have hdl:(cs.drop (i*5)).length=(n-i)*i0.size:=by rw[tD,hcl,hzs,Nat.sub_mul]
 have hdl6:(cs.drop (i*5)).length=(n-i)*5:=by rw[hdl,hzs]
 have mixed:Tryz.prog.follows .mixedOrders=true:=by kernel_rfl
 have hw1:IntKind.i64.wrap ((i:Int)+(m:Int))=(i:Int)+(m:Int):=by rw[IntKind.wrap_i64];omega
 have hb1:(0:Int)<=(i:Int)+(m:Int):=by omega
 have hin:i<=n:=by omega
 have htn:((i:Int)+(m:Int)).toNat=i+m:=by omega
 have hb2:¬(c=i+m):=by omega
 have hb3:(i:Int)<=(n:Int)+(m:Int):=by omega
 have hb4:¬(c=i):=by omega
 have hcp1:∀ty dc sc,(Builtin.copy_ #[29,29] ty #[.slice (some ⟨b,off+(i+m)*5,none⟩) (n+m-(i+m)) dc,.slice (some ⟨b,off+i*5,none⟩) (n+m-i) sc]).run Tryz.prog w.drew=.ok (goInt ((n-i:Nat):Int)) (w.drew.setCells b (off+(i+m)*5) (cs.drop (i*5))):=λty dc sc=>
  H4 w.drew _ _ ty 36 b (off+(i+m)*5) (n+m-(i+m)) dc ⟨b,off+i*5,none⟩ (n+m-i) sc (n-i) (cs.drop (i*5)) Tryz.underlying29 hi0 (by simp only[Nat.min_def];split<;>omega) hdl
   (λj v hj=>by rw[Addr.add_lit,tV];exact hcs (i*5+j) v (by rwa [Gd]at hj))
   (λj hj=>by rw[hdl6]at hj;rw[tV];exact hsp _ (by omega)) (λj hj=>by rw[hdl6]at hj;rw[tV];exact hfz _ (by omega)) (λv hv=>h1c v (H8 hv))
 obtain⟨W1,hW1⟩:∃W1,W1=w.drew.setCells b (off+(i+m)*5) (cs.drop (i*5)):=⟨_,rfl⟩
 have hsp1:∀k,k<(n+m)*5->(W1.cell? ⟨b,off+k,none⟩).isSome=true:=λk hk=>by rw[hW1];exact World.isSome_setCells b _ _ w.drew _ (hsp k hk)
 have hcp2:∀(ρ:World),(∀x,ρ.cell? x=W1.cell? x)->(∀x,ρ.frozen? x=W1.frozen? x)->∀ty dc,(Builtin.copy_ #[29,29] ty #[.slice (some ⟨b,off+i*5,none⟩) (n+m-i) dc,.slice (some ⟨vb,voff,none⟩) m vc]).run Tryz.prog ρ=.ok (goInt m) (ρ.setCells b (off+i*5) vs):=λρ hWc hWf ty dc=>
  H4 ρ _ _ ty 36 b (off+i*5) (n+m-i) dc ⟨vb,voff,none⟩ m vc m vs Tryz.underlying29 hi0 (by simp only[Nat.min_def];split<;>omega) (by rw[hvl,hzs])
   (λj v hj=>by rw[Addr.add_lit,hWc,hW1,World.cell?_setCells_out b _ _ _ _ (λh _=>absurd h hvb)];exact hvs j v hj)
   (λj hj=>by rw[hvl]at hj;rw[hWc,tV];exact hsp1 _ (by omega)) (λj hj=>by rw[hvl]at hj;rw[hWf,hW1,World.frozen?_setCells,tV];exact hfz _ (by omega)) h1v
 rw[<-hW1]at hcp1;clear hsp1 hcs hsp hfz hvs h1c h1v hdl hdl6 hcl hvl
 go_enter Tryz.func168,Tryz.ntmps168
 go_wp2_with (simp only[hov])
 go_region_law_o (refine step_copy_runI rfl _ _ 29 29 rfl _ _ (by simp[Act.eval,Act.put]) (by simp[Act.eval,Act.put]) (hcp1 _ _ _) ?_)
 go_wp2_with (at_builtin;refine wpList_copy_runI _ rfl _ _ 29 29 rfl _ _ rfl rfl (hcp2 _ (λ_=>rfl) (λ_=>rfl) _ _) ?_)
 go_ret
 first|exact⟨rfl,rfl⟩|exact⟨rfl,by rw[hW1]⟩
theorem UN(b off n c vb voff m vc:Nat)(vs:List Value)(w:World)(hm:0<m)(hroom:n+m<=c)(hc63:n+m<=9223372036854775807)(hvl:vs.length=m*5)(hsp:∀j,j<m*5->(w.cell? ⟨b,off+n*5+j,none⟩).isSome=true)(hfz:∀j,j<m*5->w.frozen? ⟨b,off+n*5+j,none⟩=false)(hvs:∀j v,vs[j]? =some v->w.cell? ⟨vb,voff+j,none⟩=some v)(h1v:∀v∈vs,v.oneCell'=true):Calls Tryz.prog 168 #[.slice (some ⟨b,off,none⟩) n c,.int .i64 n,.slice (some ⟨vb,voff,none⟩) m vc] w λe w'=>e=.returned (.slice (some ⟨b,off,none⟩) (n+m) c)/\w'=w.setCells b (off+n*5) vs:=by
 obtain⟨i0,hi0,hzs⟩:=YB;have hz1:¬((m:Int)=0):=by omega
 have mixed:Tryz.prog.follows .mixedOrders=true:=by kernel_rfl
 have hrun:∀ty,(Builtin.append_ #[29,29] ty #[.slice (some ⟨b,off,none⟩) n c,.slice (some ⟨vb,voff,none⟩) m vc]).run Tryz.prog w=.ok (.slice (some ⟨b,off,none⟩) (n+m) c) (w.setCells b (off+n*5) vs):=λty=>by have:=run_append_room_cells (P:=Tryz.prog) w 29 ty 36 i0 Tryz.underlying29 hi0 b off n c ⟨vb,voff,none⟩ m vc vs (by rw[hvl,hzs]) (λj u hj=>by rw[Addr.add_lit];exact hvs j u hj) h1v hroom (λj hj=>by rw[hzs];exact hsp j (by omega)) (λj hj=>by rw[hzs];exact hfz j (by omega));rw[hzs]at this;exact this
 clear hsp hfz hvs h1v hvl
 go_enter Tryz.func168,Tryz.ntmps168
 go_wp2_with (at_builtin;refine Lib.wpList_append_run _ rfl _ _ _ _ rfl _ _ rfl rfl _ _ (hrun _) ?_)
 go_ret
 exact⟨rfl,rfl⟩
theorem Tn:∃j,Tryz.prog.info? 36=some j/\j.zero=some (.agg zM.toArray)/\j.size=5/\j.bytes=40:=by
 have h:(Tryz.prog.info? 36).map (λi=>(i.zero,i.size,i.bytes))=some (some (.agg zM.toArray),5,40):=by kernel_rfl
 obtain⟨i,hi,h2⟩:=z9.1 h;simp only[IE]at h2;exact⟨i,hi,h2⟩
theorem UO(b off n c vb voff m vc:Nat)(cs vs:List Value)(w:World)(hm:0<m)(hnc:n<=c)(hroom:c<n+m)(hbig:(n+m)*40<=140737488355328)(hcl:cs.length=n*5)(hvl:vs.length=m*5)(hcs:Lies w b off cs)(hvs:Lies w vb voff vs):Calls Tryz.prog 168 #[.slice (some ⟨b,off,none⟩) n c,.int .i64 n,.slice (some ⟨vb,voff,none⟩) m vc] w λe w'=>∃g us,e=.returned (.slice (some ⟨w.heap.size,0,none⟩) (n+m) g)/\n+m<=g/\w'=w.drew.alloc (.cells (cs++vs++us).toArray 36):=by
 obtain⟨i0,hi0,hz0,hzs,hzb⟩:=Tn;have hz1:¬((m:Int)=0):=by omega
 have mixed:Tryz.prog.follows .mixedOrders=true:=by kernel_rfl
 obtain⟨g,hg⟩:∃g,g=grownCap w (n+m) c 36:=⟨_,rfl⟩
 obtain⟨W1,hW1⟩:∃W1,W1=w.drew.alloc (.cells (cs.toArray++vs.toArray++Builtin.zeroCells (Value.agg zM.toArray).cells (g-(n+m))) 36):=⟨_,rfl⟩
 have hrun:∀ty,(Builtin.append_ #[29,29] ty #[.slice (some ⟨b,off,none⟩) n c,.slice (some ⟨vb,voff,none⟩) m vc]).run Tryz.prog w=.ok (.slice (some ⟨w.heap.size,0,none⟩) (n+m) g) W1:=λty=>by have:=Hh (P:=Tryz.prog) (w:=w) 29 ty 36 i0 _ Tryz.underlying29 hi0 hz0 (.inr ⟨b,off,rfl,hcs⟩) (.inr ⟨vb,voff,rfl,hvs⟩) n m c vc (by rw[hcl,hzs]) (by rw[hvl,hzs]) hroom (by rw[hzb];exact hbig) (by rw[hzb];decide);rw[this,hW1,hg]
 have hge:n+m<=g:=by rw[hg];exact grownCap_ge w _ _ _
 have hW:RowKit.Hid (W1=w.drew.alloc (.cells (cs.toArray++vs.toArray++Builtin.zeroCells (Value.agg zM.toArray).cells (g-(n+m))) 36)):=hW1;clear hcs hvs hvl hcl hW1 hg;refine Calls.mono (R:=λe w'=>e=.returned (.slice (some ⟨w.heap.size,0,none⟩) (n+m) g)/\w'=W1) ?_ ?_
 ·go_enter Tryz.func168,Tryz.ntmps168
  go_wp2_with (at_builtin;refine Lib.wpList_append_run _ rfl _ _ _ _ rfl _ _ rfl rfl _ _ (hrun _) ?_)
  all_goals (go_ret;exact⟨rfl,rfl⟩)
 ·rintro e w' ⟨rfl,rfl⟩;exact⟨g,(Builtin.zeroCells (Value.agg zM.toArray).cells (g-(n+m))).toList,rfl,hge,by rw[hW.out];congr 2;apply Array.ext';simp⟩
theorem jT(sb:Option Addr)(vb voff m vc:Nat)(vs:List Value)(w:World)(hm:0<m)(hbig:m*40<=140737488355328)(hvl:vs.length=m*5)(hvs:Lies w vb voff vs):Calls Tryz.prog 168 #[.slice sb 0 0,.int .i64 0,.slice (some ⟨vb,voff,none⟩) m vc] w λe w'=>∃g us,e=.returned (.slice (some ⟨w.heap.size,0,none⟩) m g)/\m<=g/\w'=w.drew.alloc (.cells (vs++us).toArray 36):=by
 obtain⟨i0,hi0,hz0,hzs,hzb⟩:=Tn;have hz1:¬((m:Int)=0):=by omega
 have mixed:Tryz.prog.follows .mixedOrders=true:=by kernel_rfl
 obtain⟨g,hg⟩:∃g,g=grownCap w (0+m) 0 36:=⟨_,rfl⟩
 obtain⟨W1,hW1⟩:∃W1,W1=w.drew.alloc (.cells (([]:List Value).toArray++vs.toArray++Builtin.zeroCells (Value.agg zM.toArray).cells (g-(0+m))) 36):=⟨_,rfl⟩
 have hrun:∀ty,(Builtin.append_ #[29,29] ty #[.slice sb 0 0,.slice (some ⟨vb,voff,none⟩) m vc]).run Tryz.prog w=.ok (.slice (some ⟨w.heap.size,0,none⟩) m g) W1:=λty=>by have:=Hh (P:=Tryz.prog) (w:=w) 29 ty 36 i0 _ Tryz.underlying29 hi0 hz0 (sb:=sb) (olds:=[]) (.inl rfl) (.inr ⟨vb,voff,rfl,hvs⟩) 0 m 0 vc (by simp) (by rw[hvl,hzs]) (by omega) (by rw[hzb,sI];exact hbig) (by rw[hzb];decide);rw[this,hW1,hg,sI]
 have hge:m<=g:=by rw[hg];exact sN (by omega) (grownCap_ge w (0+m) 0 _)
 have hW:RowKit.Hid (W1=w.drew.alloc (.cells (([]:List Value).toArray++vs.toArray++Builtin.zeroCells (Value.agg zM.toArray).cells (g-(0+m))) 36)):=hW1;clear hvs hvl hW1 hg;refine Calls.mono (R:=λe w'=>e=.returned (.slice (some ⟨w.heap.size,0,none⟩) m g)/\w'=W1) ?_ ?_
 ·rcases sb with _|a
  ·go_enter Tryz.func168,Tryz.ntmps168
   go_wp2_with (at_builtin;refine Lib.wpList_append_run _ rfl _ _ _ _ rfl _ _ rfl rfl _ _ (hrun _) ?_)
   all_goals (go_ret;exact⟨rfl,rfl⟩)
  ·go_enter Tryz.func168,Tryz.ntmps168
   go_wp2_with (at_builtin;refine Lib.wpList_append_run _ rfl _ _ _ _ rfl _ _ rfl rfl _ _ (hrun _) ?_)
   all_goals (go_ret;exact⟨rfl,rfl⟩)
 ·rintro e w' ⟨rfl,rfl⟩;exact⟨g,(Builtin.zeroCells (Value.agg zM.toArray).cells (g-(0+m))).toList,rfl,hge,by rw[hW.out];congr 2;apply Array.ext';simp⟩
theorem dO(b off n c i vb voff m vc:Nat)(cs vs:List Value)(w:World)(hi:i<n)(hm:0<m)(hnc:n<=c)(hroom:c<n+m)(hbig:(n+m)*40<=140737488355328)(hcl:cs.length=n*5)(hvl:vs.length=m*5)(hcs:Lies w b off cs)(hvs:Lies w vb voff vs)(h1c:∀v∈cs,v.oneCell'=true)(h1v:∀v∈vs,v.oneCell'=true):Calls Tryz.prog 168 #[.slice (some ⟨b,off,none⟩) n c,.int .i64 i,.slice (some ⟨vb,voff,none⟩) m vc] w λe w'=>∃(g:Nat)(us:List Value),e=.returned (.slice (some ⟨w.heap.size,0,none⟩) (n+m) g)/\n+m<=g/\(n+m-i)*5<=us.length/\w'=(((w.alloc (.cells (cs.take (i*5)++us).toArray 36)).drew.setCells w.heap.size (i*5) vs).drew).setCells w.heap.size ((i+m)*5) (cs.drop (i*5)):=by
 have mixed:Tryz.prog.follows .mixedOrders=true:=by kernel_rfl
 obtain⟨i0,hi0,hz0,hzs,hzb⟩:=Tn;have hz1:¬((m:Int)=0):=by omega
 have hz2:¬((i:Int)=(n:Int)):=by omega
 have hz3:(c:Int)<(n:Int)+(m:Int):=by omega
 have hbw:b<w.heap.size:=block_lt_of_cell (hcs 0 _ (dY (by omega)));have hvw:vb<w.heap.size:=block_lt_of_cell (hvs 0 _ (dY (by omega)));have hkk:(n:Int)+(m:Int)-(i:Int)=((n+m-i:Nat):Int):=by omega
 have hik:i+(n+m-i)=n+m:=by omega
 have hold:(Builtin.firstCells i0.size i (.slice (some ⟨b,off,none⟩) i c)).run Tryz.prog w.drew=.ok (cs.take (i*5)).toArray w.drew:=by
  rw[hzs];exact run_firstCells_some w.drew 5 i ⟨b,off,none⟩ i c (cs.take (i*5)) (by rw[u9];omega) (λj v hj=>by
   rw[Addr.add_lit];rw[v9]at hj;split at hj
   ·exact hcs j v hj
   ·cases hj)
 obtain⟨G,hG⟩:∃G,G=grownCap w (n+m) c 36:=⟨_,rfl⟩
 obtain⟨us,hus⟩:∃us,us=(Builtin.zeroCells (Value.agg zM.toArray).cells (n+m-i)).toList++(Builtin.zeroCells (Value.agg zM.toArray).cells (G-(n+m))).toList:=⟨_,rfl⟩
 have hul:(n+m-i)*5<=us.length:=by rw[hus,nK,EJ];simp[Builtin.zeroCells,Value.cells,zM]
 obtain⟨W1,hW1⟩:∃W1,W1=w.drew.alloc (.cells (cs.take (i*5)++us).toArray 36):=⟨_,rfl⟩
 have hrz:∀ty,(Builtin.append_ #[29,3] ty #[.slice (some ⟨b,off,none⟩) i c,.int .i64 ((n:Int)+(m:Int)-(i:Int))]).run Tryz.prog w=.ok (.slice (some ⟨w.heap.size,0,none⟩) (n+m) G) W1:=λty=>by have h:=Lib.run_append_grow_zeros w 29 3 ty 36 i0 _ .i64 .i64 Tryz.underlying29 Tryz.underlying3 hi0 hz0 (some ⟨b,off,none⟩) i c (cs.take (i*5)) hold (n+m-i) (by omega) (by omega) (by omega) (by omega) (by rw[hzb];omega) (by rw[hzb,hik];exact growslice_fits hroom hbig);rw[hik]at h;rw[hkk,h,hW1,hus,hG];congr 3;simp
 have hRl:(n+m)*5<=(cs.take (i*5)++us).toArray.size:=by rw[List.size_toArray,nK,u9,hcl];omega
 have hN:∀j,j<(n+m)*5->(W1.cell? ⟨w.heap.size,j,none⟩).isSome=true:=λj hj=>by rw[hW1,World.cell?_alloc_at (w:=w.drew) _ _ w.heap.size j rfl,kC (by omega)];rfl
 have hNf:∀j,W1.frozen? ⟨w.heap.size,j,none⟩=false:=λj=>by rw[hW1];exact World.frozen?_alloc_at (w:=w.drew) _ _ w.heap.size j rfl
 have hOb:∀j v,w.cell? ⟨b,j,none⟩=some v->W1.cell? ⟨b,j,none⟩=some v:=λj v h=>by rw[hW1,World.cell?_alloc_past (w:=w.drew) _ b j hbw];exact h
 have hOv:∀j v,w.cell? ⟨vb,j,none⟩=some v->W1.cell? ⟨vb,j,none⟩=some v:=λj v h=>by rw[hW1,World.cell?_alloc_past (w:=w.drew) _ vb j hvw];exact h
 have hcpA:∀(ρ:World),(∀x,ρ.cell? x=W1.cell? x)->(∀x,ρ.frozen? x=W1.frozen? x)->∀ty dc,(Builtin.copy_ #[29,29] ty #[.slice (some ⟨w.heap.size,i*5,none⟩) (n+m-i) dc,.slice (some ⟨vb,voff,none⟩) m vc]).run Tryz.prog ρ=.ok (goInt m) (ρ.setCells w.heap.size (i*5) vs):=λρ hWc hWf ty dc=>
  H4 ρ _ _ ty 36 w.heap.size (i*5) (n+m-i) dc ⟨vb,voff,none⟩ m vc m vs Tryz.underlying29 hi0 (by simp only[Nat.min_def];split<;>omega) (by rw[hvl,hzs])
   (λj v hj=>by rw[Addr.add_lit,hWc];exact hOv _ v (hvs j v hj))
   (λj hj=>by rw[hvl]at hj;rw[hWc];exact hN _ (by omega)) (λj hj=>by rw[hWf];exact hNf _) h1v
 have hGn:n+m<=G:=by rw[hG];exact grownCap_ge w _ _ _
 have hG63:G<=9223372036854775807:=by have:=grownCap_le_maxLen w (n+m) c 36 (by unfold maxLen;omega);rw[<-hG]at this;unfold maxLen at this;omega
 have hGi:¬(G=i):=by omega
 have hGim:¬(G=i+m):=by omega
 have hci:¬(c=i):=by omega
 have hbN:b≠w.heap.size:=by omega
 have hdl:(cs.drop (i*5)).length=(n-i)*5:=by rw[tD,hcl,Nat.sub_mul]
 have hcpB:∀(ρ:World),(∀x,ρ.cell? x=(W1.setCells w.heap.size (i*5) vs).cell? x)->(∀x,ρ.frozen? x=(W1.setCells w.heap.size (i*5) vs).frozen? x)->∀ty dc sc,(Builtin.copy_ #[29,29] ty #[.slice (some ⟨w.heap.size,(i+m)*5,none⟩) (n+m-(i+m)) dc,.slice (some ⟨b,off+i*5,none⟩) (n-i) sc]).run Tryz.prog ρ=.ok (goInt ((n-i:Nat):Int)) (ρ.setCells w.heap.size ((i+m)*5) (cs.drop (i*5))):=λρ hWc hWf ty dc sc=>
  H4 ρ _ _ ty 36 w.heap.size ((i+m)*5) (n+m-(i+m)) dc ⟨b,off+i*5,none⟩ (n-i) sc (n-i) (cs.drop (i*5)) Tryz.underlying29 hi0 (by simp only[Nat.min_def];split<;>omega) (by rw[hdl,hzs])
   (λj v hj=>by rw[Addr.add_lit,hWc,World.cell?_setCells_out _ _ _ _ _ (λh _=>absurd h hbN),tV];exact hOb _ v (hcs (i*5+j) v (by rwa [Gd]at hj)))
   (λj hj=>by rw[hdl]at hj;rw[hWc];exact World.isSome_setCells _ _ _ _ _ (hN _ (by omega)))
   (λj hj=>by rw[hWf,World.frozen?_setCells];exact hNf _) (λv hv=>h1c v (H8 hv))
 refine Calls.mono (R:=λe w'=>e=.returned (.slice (some ⟨w.heap.size,0,none⟩) (n+m) G)/\w'=(((w.alloc (.cells (cs.take (i*5)++us).toArray 36)).drew.setCells w.heap.size (i*5) vs).drew).setCells w.heap.size ((i+m)*5) (cs.drop (i*5))) ?_ (λe w' hh=>⟨G,us,hh.1,hGn,hul,hh.2⟩);have hW:RowKit.Hid (W1=w.drew.alloc (.cells (cs.take (i*5)++us).toArray 36)):=hW1;obtain⟨ROW,hROW⟩:∃ROW:Array Value,ROW=(cs.take (i*5)++us).toArray:=⟨_,rfl⟩
 rw[<-hROW]at hW1⊢;subst hW1;have hE1:∀x,((w.alloc (.cells ROW 36)).drew).cell? x=(w.drew.alloc (.cells ROW 36)).cell? x:=λx=>rfl
 have hE2:∀x,((w.alloc (.cells ROW 36)).drew).frozen? x=(w.drew.alloc (.cells ROW 36)).frozen? x:=λx=>rfl
 have hF1:∀x,(((w.alloc (.cells ROW 36)).drew.setCells w.heap.size (i*5) vs).drew).cell? x=((w.drew.alloc (.cells ROW 36)).setCells w.heap.size (i*5) vs).cell? x:=λx=>rfl
 have hF2:∀x,(((w.alloc (.cells ROW 36)).drew.setCells w.heap.size (i*5) vs).drew).frozen? x=((w.drew.alloc (.cells ROW 36)).setCells w.heap.size (i*5) vs).frozen? x:=λx=>rfl
 have hw1:IntKind.i64.wrap ((i:Int)+(m:Int))=(i:Int)+(m:Int):=by rw[IntKind.wrap_i64];omega
 have hb1:(0:Int)<=(i:Int)+(m:Int):=by omega
 have hin:i<=n:=by omega
 have htn:((i:Int)+(m:Int)).toNat=i+m:=by omega
 have hb3:(i:Int)<=(n:Int):=by omega
 clear hkk hik hold hROW hG hRl hus hul hN hNf hOb hOv hdl hcs hvs h1c h1v hcl hvl hW
 go_enter Tryz.func168,Tryz.ntmps168
 go_wp2_with (first
  |(at_builtin;refine Lib.wpList_append_run _ rfl _ _ _ _ rfl _ _ rfl rfl _ _ (hrz _) ?_)
  |(at_builtin;refine wpList_copy_runI _ rfl _ _ 29 29 rfl _ _ rfl rfl (hcpA _ hE1 hE2 _ _) ?_))
 go_region_law_o (refine step_copy_runI rfl _ _ 29 29 rfl (.slice (some ⟨w.heap.size,(i+m)*5,none⟩) (n+m-(i+m)) (G-(i+m))) (.slice (some ⟨b,off+i*5,none⟩) (n-i) (c-i)) (by simp[Act.eval,Act.put]) (by simp[Act.eval,Act.put]) (hcpB _ hF1 hF2 3 (G-(i+m)) (c-i)) ?_)
 go_wp2
 go_ret
 exact⟨rfl,rfl⟩
theorem tC{rows:List (List AV)}{u d:List AV}{i:Nat}(hi:i<=rows.length)(hn:(rows.length+1)*40<=140737488355328)(hr6:∀r∈rows,r.length=5):K4 Tryz.prog 168 5 rows [.i i,.sl 5 false [u] d] (rows.take i++[u]++rows.drop i):=by
 intro U vs vals base b o cap gl hlt hr hv h1 hl hc hor;obtain⟨y1,ys1,rfl,r1,r2⟩:=hr;obtain⟨y2,ys2,rfl,r3,r4⟩:=r2;simp only[RepL]at r4;subst r4;simp only[Rep]at r1;subst r1;obtain⟨vbase,vc,us,rfl,_,_,u1,u2,_,u3,_,u4,_⟩:=LW r3;rcases u4 with u4|⟨vb,voff,rfl,⟨z1,z2,z3⟩,u5⟩
 ·cases u4
 rcases u3 with u3|⟨u3,u6⟩
 ·cases u3
 simp only[y9,Nat.one_mul]at u6;have e1:rows.flatten=(rows.take i).flatten++(rows.drop i).flatten:=by rw[<-List.flatten_append,y8]
 rw[e1]at hv;obtain⟨xs,ys,rfl,v1,v2⟩:=HP hv;have lx:xs.length=i*5:=by rw[Bs v1,LM λr hr=>hr6 r (G3 hr),u9];omega
 have ly:ys.length=(rows.length-i)*5:=by rw[Bs v2,LM λr hr=>hr6 r (H8 hr),tD]
 have t1:(xs++ys).take (i*5)=xs:=by rw[<-lx,List.take_left]
 have t2:(xs++ys).drop (i*5)=ys:=by rw[<-lx,List.drop_left]
 have o1:∀v∈xs++ys,v.oneCell'=true:=λv hv=>Ow (h1 v hv)
 have o2:∀v∈us,v.oneCell'=true:=λv hv=>Ow (u2 v hv)
 have hfl:(rows.take i++[u]++rows.drop i).flatten=(rows.take i).flatten++(([u]:List (List AV)).flatten++(rows.drop i).flatten):=by simp
 have hln:(rows.take i++[u]++rows.drop i).length=rows.length+1:=by rw[nK,nK,u9,tD,y9];omega
 have fin:∀(b' o' cap':Nat)(w':World),rows.length+1<=cap'->KeptB b U.w w'->(b'=b\/U.w.heap.size<=b')->b'<w'.heap.size->Lies w' b' o' (xs++(us++ys))->∃(b'' o'' cap'':Nat)(vals':List Value),(Ending.returned (.slice (some ⟨b',o',none⟩) (rows.length+1) cap'):Ending)=.returned (.slice (some ⟨b'',o'',none⟩) (rows.take i++[u]++rows.drop i).length cap'')/\(rows.take i++[u]++rows.drop i).length<=cap''/\KeptB b U.w w'/\(b''=b\/U.w.heap.size<=b'')/\b''<w'.heap.size/\Lies w' b'' o'' vals'/\RepL U (rows.take i++[u]++rows.drop i).flatten vals'/\∀x∈vals',Bw x=true:=λb' o' cap' w' q1 q2 q3 q4 q5=>
  ⟨b',o',cap',xs++(us++ys),by rw[hln],by rw[hln];exact q1,q2,q3,q4,q5,by rw[hfl];exact Ds v1 (Ds u1 v2),λx hx=>by
   rcases oJ.1 hx with hx|hx
   ·exact h1 x (by simp[hx])
   ·rcases oJ.1 hx with hx|hx
    ·exact u2 x hx
    ·exact h1 x (by simp[hx])⟩
 have nd:U.w.drew.heap.size=U.w.heap.size:=rfl;rcases hor with⟨rfl,hcap,hlies,hM,cs,T,hb,hsz⟩|⟨rfl,hbz⟩
 ·have hbl:b<U.w.heap.size:=hlt b (.inl hM);have hvb:vb≠b:=λe=>z1 (e▸hM)
  have hfb:∀j,U.w.frozen? ⟨b,j,none⟩=false:=λj=>by simp[World.frozen?,hb]
  have hsome:∀j,j<cap*5->(U.w.cell? ⟨b,o+j,none⟩).isSome=true:=λj hj=>by
   have e:U.w.cell? ⟨b,o+j,none⟩=cs[o+j]? :=by simp only[World.cell?,hb];rfl
   rw[e,kC (by omega)];rfl
  by_cases hroom:rows.length+1<=cap
  ·by_cases hin:i<rows.length
   ·have hsh:∃tA kA,U.w.shape? vb=some (tA,kA)/\kA≠0:=by
     have h0:=u5 0 _ (dY (by omega));unfold World.cell? at h0;simp only[F4]at h0;split at h0
     ·rename_i c t f hc;refine⟨t,c.size,by unfold World.shape?;rw[hc],λe=>?_⟩;simp only[GJ,yF,if_false]at h0;have:=(fW.1 h0).1;omega
     ·cases h0
    obtain⟨tA,kA,hsa,hkA⟩:=hsh;have hsb:U.w.shape? b=some (T,cs.size):=by unfold World.shape?;rw[hb]
    refine(XM b o rows.length cap i vb voff 1 vc (xs++ys) us U.w hin (by omega) hroom (by omega) hvb hl (by omega) hlies (λj hj=>hsome j (by omega)) (λj _=>hfb _) u5 o1 o2 tA T kA cs.size hsa hsb hkA hfb).mono ?_;rintro e w' ⟨rfl,rfl⟩;rw[t2];obtain⟨k1,s1⟩:=KeptB.cells b ys (o+(i+1)*5) U.w.drew;obtain⟨k2,s2⟩:=KeptB.cells b us (o+i*5) (U.w.drew.setCells b (o+(i+1)*5) ys);refine fin b o cap _ hroom (((KeptB.drew b U.w).trans k1).trans k2) (.inl rfl) (by rw[s2,s1];exact hbl) ?_;have hlx:Lies U.w.drew b o xs:=hlies.left;refine((hlx.setOut (.inl (by omega))).setOut (.inl (by omega))).app ?_;rw[lx];refine(Lies.setIn λj hj=>?_).app ?_
    ·refine World.isSome_setCells b _ _ U.w.drew _ ?_;rw[tV];exact hsome _ (by omega)
    ·rw[show o+i*5+us.length=o+(i+1)*5 by omega];refine(Lies.setIn λj hj=>?_).setOut (.inr (by omega));rw[tV];exact hsome _ (by omega)
   ·obtain rfl:i=rows.length:=by omega
    have hy:ys=[]:=Fe.1 (by omega);subst hy;refine(UN b o rows.length cap vb voff 1 vc us U.w (by omega) hroom (by omega) (by omega) (λj hj=>by rw[tV];exact hsome _ (by omega)) (λj _=>hfb _) u5 o2).mono ?_;rintro e w' ⟨rfl,rfl⟩;obtain⟨k1,s1⟩:=KeptB.cells b us (o+rows.length*5) U.w;refine fin b o cap _ hroom k1 (.inl rfl) (by rw[s1];exact hbl) ?_;refine(hlies.left.setOut (.inl (by omega))).app ?_;rw[lx,sF];refine Lies.setIn λj hj=>?_
    rw[tV];exact hsome _ (by omega)
  ·have hnc:rows.length=cap:=by omega
   by_cases hin:i<rows.length
   ·refine(dO b o rows.length cap i vb voff 1 vc (xs++ys) us U.w hin (by omega) hc (by omega) hn hl (by omega) hlies u5 o1 o2).mono ?_;rintro e w' ⟨g,zs,rfl,hg,hz,rfl⟩;rw[t1,t2];obtain⟨k1,s1⟩:=KeptB.cells U.w.heap.size us (i*5) (U.w.alloc (.cells (xs++zs).toArray 36)).drew;obtain⟨k2,s2⟩:=KeptB.cells U.w.heap.size ys ((i+1)*5) ((U.w.alloc (.cells (xs++zs).toArray 36)).drew.setCells U.w.heap.size (i*5) us).drew;have k0:=KeptB.alloc b U.w (.cells (xs++zs).toArray 36);have sA:(U.w.alloc (.cells (xs++zs).toArray 36)).drew.heap.size=U.w.heap.size+1:=LN _ _;have s1':((U.w.alloc (.cells (xs++zs).toArray 36)).drew.setCells U.w.heap.size (i*5) us).drew.heap.size=U.w.heap.size+1:=s1.trans sA;have s2':=s2.trans s1';have cell:∀j,j<(xs++zs).length->((U.w.alloc (.cells (xs++zs).toArray 36)).drew.cell? ⟨U.w.heap.size,j,none⟩).isSome=true:=λj hj=>by show((U.w.alloc (.cells (xs++zs).toArray 36)).cell? ⟨U.w.heap.size,j,none⟩).isSome=true;rw[World.cell?_alloc_at _ _ _ j rfl,List.getElem?_toArray,dY hj];rfl
    have lxz:(xs++zs).length=i*5+zs.length:=by rw[nK,lx]
    refine fin U.w.heap.size 0 g _ hg ⟨λx hx hne=>?_,by rw[s2'];omega,⟨k2.io.1.trans (k1.io.1.trans k0.io.1),k2.io.2.trans (k1.io.2.trans k0.io.2)⟩⟩ (.inr (jW _)) (by rw[s2'];omega) ?_
    ·rw[k2.heap x (by rw[s1'];omega) (by omega)];refine(k1.heap x (by rw[sA];omega) (by omega)).trans ?_;exact k0.heap x hx hne
    ·have hx0:Lies (U.w.alloc (.cells (xs++zs).toArray 36)).drew U.w.heap.size 0 xs:=by intro j v hj;show(U.w.alloc (.cells (xs++zs).toArray 36)).cell? ⟨U.w.heap.size,0+j,none⟩=some v;rw[World.cell?_alloc_at _ _ _ (0+j) rfl,sI,List.getElem?_toArray,w9 (nL.1 hj).1];exact hj
     have hx1:Lies ((U.w.alloc (.cells (xs++zs).toArray 36)).drew.setCells U.w.heap.size (i*5) us).drew U.w.heap.size 0 xs:=hx0.setOut (.inl (by omega));have hu1:Lies ((U.w.alloc (.cells (xs++zs).toArray 36)).drew.setCells U.w.heap.size (i*5) us).drew U.w.heap.size (i*5) us:=Lies.setIn λj hj=>cell _ (by omega)
     refine(hx1.setOut (.inl (by omega))).app ?_;rw[lx,sI];refine(hu1.setOut (.inl (by omega))).app ?_;rw[show i*5+us.length=(i+1)*5 by omega];refine Lies.setIn λj hj=>?_
     exact World.isSome_setCells _ _ _ _ _ (cell _ (by omega))
   ·obtain rfl:i=rows.length:=by omega
    have hy:ys=[]:=Fe.1 (by omega);subst hy;rw[sF]at hlies hl;refine(UO b o rows.length cap vb voff 1 vc xs us U.w (by omega) hc (by omega) hn hl (by omega) hlies u5).mono ?_;rintro e w' ⟨g,zs,rfl,hg,rfl⟩;refine fin U.w.heap.size 0 g _ hg ((KeptB.drew b U.w).trans (KeptB.alloc b U.w.drew _)) (.inr (jW _)) (by rw[LN];exact Iw _) ?_;rw[sF];exact(MS U.w.drew U.w.heap.size rfl (xs++us++zs) _).left
 ·have h0:rows=[]:=Fe.1 (by omega);subst h0;have hi0:i=0:=by simpa using hi
  subst hi0;have hx0:xs=[]:=Fe.1 (by omega);have hy0:ys=[]:=Fe.1 (by rw[ly,yH]);subst hx0;subst hy0;refine(jT base vb voff 1 vc us U.w (by omega) hn (by omega) u5).mono ?_;rintro e w' ⟨g,zs,rfl,hg,rfl⟩;refine fin U.w.heap.size 0 g _ hg ((KeptB.drew b U.w).trans (KeptB.alloc b U.w.drew _)) (.inr (jW _)) (by rw[LN];exact Iw _) ?_;rw[sF,rA];exact(MS U.w.drew U.w.heap.size rfl (us++zs) _).left
end
open Go
attribute [local irreducible] Ax BO BB Bj BC Bk AY BD BK Cq
@[go_sem] theorem AgF(a b:Int):(some a=some b)=(a=b):=by simp
def pC(m:Int)(K:Fv):Fv|(.v (.int .i64 n)::r)::st=>if n=m then K (r::st)else none|_=>none
theorem Dn{P:Program}{f:Nat}{C:LF}{m:Int}{K:Fv}(h:FC P f (cP (.i m) C) K):FC P f C (pC m K):=by
 intro st vc r hs hv;unfold pC at hs;split at hs
 ·split at hs
  ·rename_i e;subst e;exact h _ _ _ hs hv
  ·cases hs
 ·cases hs
attribute [go_sem] pC
def JT:List (List AV):=[[.i 1,.agg [.clo (.func 130) [] [],.clo (.func 131) [] [],.clo (.func 133) [] [],.clo (.func 135) [] [],.clo (.func 136) [] []]],[.i 2,.agg [.clo (.func 139) [] [],.clo (.func 141) [] [],.clo (.func 142) [] [],.clo (.func 145) [] [],.clo (.func 149) [] []]],[.i 3,.agg [.clo (.func 150) [] [],.clo (.func 151) [] [],.clo (.func 152) [] [],.v .nilFunc,.clo (.func 154) [] []]],[.i 4,.agg [.clo (.func 155) [] [],.clo (.func 156) [] [],.clo (.func 157) [] [],.clo (.func 158) [] [],.clo (.func 159) [] []]]]
def JU:List (List AV):=[[.i 5,.agg [.clo (.func 163) [] [],.clo (.func 164) [] [],.clo (.func 165) [] [],.v .nilFunc,.clo (.func 169) [] []]],[.i 6,.agg [.clo (.func 160) [] [],.clo (.func 161) [] [],.clo (.func 170) [] [],.clo (.func 172) [] [],.clo (.func 162) [] []]],[.i 7,.agg [.clo (.func 160) [] [],.clo (.func 161) [] [],.clo (.func 173) [] [],.clo (.func 174) [] [],.clo (.func 162) [] []]]]
theorem sQ:GCall Tryz.prog 108 [] (λn=>[(.c n 0,ME JT)]) .mp:=by
 have hS:=Aj (P:=Tryz.prog);refine Ub hS x108 (qZ rfl) λhb=>?_
 have F:=f0;dsimp only[x108,Ah];refine go hS F ?_;exact HU (ev F) (ev F) ⟨(100,2),rfl,by simp only[go_sem,seval,JT]⟩
theorem sR:GCall Tryz.prog 109 [] (λn=>[(.c n 0,ME JU)]) .mp:=by
 have hS:=Aj (P:=Tryz.prog);refine Ub hS x109 (qZ rfl) λhb=>?_
 have F:=f0;dsimp only[x109,Ah];refine go hS F ?_;exact HU (ev F) (ev F) ⟨(400,5),rfl,by simp only[go_sem,seval,JU]⟩
def kF(N:Nat):Nat->List AV->Option (Prop×(Nm->Hp)×(Nm->AV)):=λf args=>if f=108 then(match args with|[]=>some (True,λn=>[(.c n 0,ME JT)],.mp)|_=>none)else if f=109 then(match args with|[]=>some (True,λn=>[(.c n 0,ME JU)],.mp)|_=>none)
 else if f=56 then(match args with
  |[.agg [.sl y _ s _,.sl y2 _ s2 _]]=>match Ge N (s.map B1)with|some r=>some ((((y=6\/s=[])/\Hk s ((s.map B1).map Au))/\((y2=5\/s2=[])/\s2=(s2.map E8).map BZ))/\(s2.map E8).length*40<=140737488355328,λn=>[(.a n,EH (s2.map E8))],λn=>.agg [Ap r,.own n (s2.map E8).length])|none=>none
  |_=>none)
 else Nj f args
theorem CP(N:Nat):∀f args vc ws g,kF N f args=some (vc,ws,g)->vc->Dh Tryz.prog f/\GCall Tryz.prog f args ws g:=by
 intro f args vc ws g h hv;unfold kF at h;split at h
 ·rename_i hf;subst hf;split at h
  ·simp only[yE,IE]at h;obtain⟨rfl,rfl,rfl⟩:=h;exact⟨x108.ok,sQ⟩
  ·cases h
 ·split at h
  ·rename_i hf;subst hf;split at h
   ·simp only[yE,IE]at h;obtain⟨rfl,rfl,rfl⟩:=h;exact⟨x109.ok,sR⟩
   ·cases h
  ·split at h
   ·rename_i hf;subst hf;split at h
    ·rename_i y fl s d y2 fl2 s2 d2;split at h
     ·rename_i r hr;simp only[yE,IE]at h;obtain⟨rfl,rfl,rfl⟩:=h;obtain⟨⟨⟨h1,h2⟩,h4,h5⟩,h3⟩:=hv;refine⟨x56.ok,GCall.argD (show Ib _ [.agg [Ap _,AS _]]from⟨⟨⟨h2,h1,λh=>by cases h⟩,⟨?_,h4,λh=>by cases h⟩,trivial⟩,trivial⟩) (jP N _ r _ hr h3)⟩;rw[<-h5];exact LH _
     ·cases h
    ·cases h
   ·exact Wt f args vc ws g h hv
def Qe:Value:=.iface 126 (.agg #[])
def qU(N:Nat):Nat->List AV->List AV->Option (Prop×AV):=λf args vs=>if f=148 then(match args,vs with
 |[.box _ 0,.v (.int .i64 _)],[.agg (.sl y _ s _::_),.v (.int .i64 id)]=>match Dk N (s.map B1) id with|some (u,true)=>some ((y=6\/s=[])/\Hk s ((s.map B1).map Au),.agg (Au u))|_=>none
 |_,_=>none)else none
def yU(N:Nat):Nat->List AV->List AV->Option (Prop×Value):=λf args vs=>if f=148 then(match args,vs with
 |[.box _ 0,.v (.int .i64 _)],[.agg (.sl y _ s _::_),.v (.int .i64 id)]=>match Dk N (s.map B1) id with|some (_,false)=>some ((y=6\/s=[])/\Hk s ((s.map B1).map Au),Qe)|_=>none
 |_,_=>none)else none
theorem Yw{hp:Hp}{n:Nm}{c:AV}{cs:List AV}(hc:∃z f r d,c=.sl z f r d)(h:qv hp (.box n 0)=.agg (c::cs)):hl hp (.c n 0)=some c:=by
 obtain⟨z,f,r,d,rfl⟩:=hc;simp only[qv,AV.agg.injEq]at h;cases hb:C0 hp n 0 40 with
 |nil=>rw[hb]at h;cases h
 |cons x xs=>
  rw[hb]at h;simp only[iW,List.cons.injEq]at h;have hx:=I5 40 0 0 x (by rw[hb];rfl);rw[F4]at hx;rw[hx.1];congr 1;have h1:=h.1;cases x with
  |mp m=>simp only[K2]at h1;split at h1<;>cases h1
  |_=>simp only[K2]at h1;first|exact h1|cases h1
theorem LkE.c{hp hp':Hp}{cnt:Nat}{args:List AV}(hL:LkB hp cnt args){n:Nm}{j:Nat}{x:AV}(hn:cnt<n.2)(h:LkE hp hp'):LkE hp ((.c n j,x)::hp'):=λl y hy=>by
 rw[hl,eG λe=>?_]
 ·exact h l y hy
 ·subst e;have:=hL.h n j y hy;omega
section
variable(N:Nat){n:Nm}{id:Int}{y:Nat}{fl:Bool}{s:List (List AV)}{d:List AV}
theorem zL{u:Un}{rest:List AV}(hy:y=6\/s=[])(hw:Hk s ((s.map B1).map Au))(hu:Dk N (s.map B1) id=some (u,true)):IA Tryz.prog 148 [.box n 0,.i id] [.agg (.sl y fl s d::rest),.i id] (.agg (Au u)):=by
 have hS:=Ab (Zz N)<|Aj
 refine bY hS x148 rfl (qZ rfl) λhb hp cnt hL hv=>?_
 obtain⟨n1,n2⟩:=n;simp only[iW,u7,List.cons.injEq,and_true]at hv;have h0:=Yw ⟨_,_,_,_,rfl⟩ hv.1;have hn:=hL.a (n1,n2) 0 (by simp);have F:=fc (show(y=6\/s=[])=True from eq_true hy) (fc (show Hk s ((s.map B1).map Au)=True from eq_true hw) (fc h0 (fc hu (fc (show(cnt+1=n2)=False by simp at hn⊢;omega) (fc (show(cnt+1+1=n2)=False by simp at hn⊢;omega) (fc (show(cnt+1+1+1=n2)=False by simp at hn⊢;omega) f0))))));dsimp only[x148,Ah];refine go hS F ?_;refine GO hS 1 x77.hf x77.hc x77.hn x77.ok rfl (ev F) (ev F) ?_ rfl (ev F) (qZ rfl) λhb=>?_
 ·exact Bl hS F
 dsimp only[x77,Ah];refine go hS F ?_;refine cf F ?_;refine go hS F ?_;exact HU (ev F) (ev F) ⟨by simp only[go_sem,seval],by repeat' first|exact λ_ _ h=>h|refine LkE.c hL (by simp only;omega) ?_⟩
theorem zN{u:Un}{rest:List AV}(hy:y=6\/s=[])(hw:Hk s ((s.map B1).map Au))(hu:Dk N (s.map B1) id=some (u,false)):QD Tryz.prog 148 [.box n 0,.i id] [.agg (.sl y fl s d::rest),.i id] Qe:=by
 have hS:=Ab (Zz N)<|Aj
 refine jH hS x148 (qZ rfl) λhb hp cnt hL hv=>?_
 obtain⟨n1,n2⟩:=n;simp only[iW,u7,List.cons.injEq,and_true]at hv;have h0:=Yw ⟨_,_,_,_,rfl⟩ hv.1;have hn:=hL.a (n1,n2) 0 (by simp);have F:=fc (show(y=6\/s=[])=True from eq_true hy) (fc (show Hk s ((s.map B1).map Au)=True from eq_true hw) (fc h0 (fc hu (fc (show(cnt+1=n2)=False by simp at hn⊢;omega) (fc (show(cnt+1+1=n2)=False by simp at hn⊢;omega) (fc (show(cnt+1+1+1=n2)=False by simp at hn⊢;omega) f0))))));dsimp only[x148,Ah];refine go hS F ?_;refine AZ hS 1 x77.hf x77.hc x77.hn x77.ok rfl (ev F) (ev F) ?_ rfl (ev F) (qZ rfl) λhb=>?_
 ·exact Bl hS F
 dsimp only[x77,Ah];refine go hS F ?_;refine ct F ?_;refine go hS F ?_;refine Bf (Ctx.fn_ok hS) 2 rfl rfl (ev F) (ev F) (ev F) ?_
 repeat' (first|with_reducible (first|apply A8|apply A9|apply Bh|apply AR|apply Bx)|((with_reducible apply A4);(·simp)))
 exact⟨rfl,by repeat' first|exact λ_ _ h=>h|refine LkE.c hL (by simp only;omega) ?_⟩
end
theorem L3(N:Nat):∀f args vs vc r,qU N f args vs=some (vc,r)->vc->Dh Tryz.prog f/\IA Tryz.prog f args vs r:=by
 intro f args vs vc r h hv;unfold qU at h;split at h
 ·rename_i hf;subst hf;split at h
  ·rename_i n i y fl s d rest id;split at h
   ·rename_i u hu;cases h
    refine⟨x148.ok,λU hp xs gl hI hal hx hvs=>?_⟩;have hii:i=id:=by simp only[iW,u7,qv,List.cons.injEq,and_true,AV.v.injEq,Value.int.injEq,true_and]at hvs;exact hvs.2
    subst hii;exact zL N hv.1 hv.2 hu U hp xs gl hI hal hx hvs
   ·cases h
  ·cases h
 ·cases h
theorem H2(N:Nat):∀f args vs vc v,yU N f args vs=some (vc,v)->vc->Dh Tryz.prog f/\QD Tryz.prog f args vs v:=by
 intro f args vs vc r h hv;unfold yU at h;split at h
 ·rename_i hf;subst hf;split at h
  ·rename_i n i y fl s d rest id;split at h
   ·rename_i u hu;cases h
    refine⟨x148.ok,λU hp xs gl hI hal hx hvs=>?_⟩;have hii:i=id:=by simp only[iW,u7,qv,List.cons.injEq,and_true,AV.v.injEq,Value.int.injEq,true_and]at hvs;exact hvs.2
    subst hii;exact zN N hv.1 hv.2 hu U hp xs gl hI hal hx hvs
   ·cases h
  ·cases h
 ·cases h
def oI:Nat->Nat->List (List AV)->List AV->Option (Prop×List (List AV)):=λf sz rows ax=>if f=168 then(match ax with|[.v (.int .i64 k),.sl 5 false [[.v (.int .i64 a),.v (.int .i64 b),.v (.int .i64 c),.v (.int .i64 g),.v (.bool o)]] _]=>some (sz=5/\rows=(rows.map E8).map BZ/\(0<=k/\k<=rows.length)/\(rows.length+1)*40<=140737488355328,rows.take k.toNat++[[.i a,.i b,.i c,.i g,.b o]]++rows.drop k.toNat)|_=>none)else none
theorem H3:∀f sz rows ax vc rows',oI f sz rows ax=some (vc,rows')->vc->Dh Tryz.prog f/\K4 Tryz.prog f sz rows ax rows'/\∀r∈rows',r.length=sz/\AP r=true:=by
 intro f sz rows ax vc rows' h hv;unfold oI at h;split at h
 ·rename_i hf;subst hf;split at h
  ·rename_i k a b c g o d;cases h
   obtain⟨rfl,hr,hk,hl⟩:=hv;have hrow:∀r∈rows,r.length=5/\AP r=true:=λr h=>by rw[hr]at h;obtain⟨x,_,rfl⟩:=tH.1 h;exact⟨rfl,rfl⟩
   obtain⟨k,rfl⟩:=Int.eq_ofNat_of_zero_le hk.1;refine⟨⟨_,Tryz.func168,by kernel_rfl,by kernel_rfl⟩,tC (by omega) hl λr h=>(hrow r h).1,λr h=>?_⟩;rcases oJ.1 h with h|h
   ·rcases oJ.1 h with h|h
    ·exact hrow r (G3 h)
    ·rw[vG.1 h];exact⟨rfl,rfl⟩
   ·exact hrow r (H8 h)
  ·cases h
 ·cases h
